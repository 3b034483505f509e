/- The order of asking: by both packages. -/
import Derived.Test.YtfgdpkceoadgjaaSoG
import Derived.Test.YtfgdpkceoadgjaaWaE
namespace Go.Sx.Mhw
set_option linter.unusedVariables false
set_option linter.unusedSimpArgs false
set_option linter.unusedSectionVars false
set_option maxRecDepth 100000
set_option maxHeartbeats 0
noncomputable section
open Go Go.Sx Go.Proofs
def bFo:List (Nat×Int×Int):=i64b 4::bW
def cap64:List (SB×Bool):=[(.le (.c 0) (.v 4),true),(.le (.v 4) (.c 64),true)]
def fnO:SV:=.fn 118 [] [.pt (.n 0) (.c 0)]
def ap60:SI:=.ap 60 (.v 0) (.v 1) (.v 4) (.c 0) (.c 0) (.c 0)
def ap61:SI:=.ap 61 (.v 0) (.v 1) (.v 4) (.c 0) (.c 0) (.c 0)
def oNo (cs:List (SB×Bool)):Out:=⟨cs,fnO,[(0,.cells [.sn] 156)],1,0,[]⟩
def oOrd:List Out:=[oNo [(pb2 30,false)],oNo [(pb2 30,true),(.le (.c 0) (.v 4),false)],oNo [(pb2 30,true),(.le (.c 0) (.v 4),true),(.le (.v 4) (.c 64),false)],oNo [(pb2 30,true),(.le (.c 0) (.v 4),true),(.le (.v 4) (.c 64),true),(.lt (.c 0) (.v 1),false)],
 ⟨[(pb2 30,true),(.le (.c 0) (.v 4),true),(.le (.v 4) (.c 64),true),(.lt (.c 0) (.v 1),true)],fnO,[(0,.cells [.sl (.n 1) (.c 0) (.v 1) (.d 0)] 156),(1,.arr kU ap60 (.v 1) 158 (.d 0))],2,1,[(.le (.v 1) (.d 0),true),(.le (.v 1) (.c 256),true)]⟩]
def qOrd:Con:=⟨65,[0,1,2,3,4],[lW,.it .i64 (.v 4)],gW,bFo,fM,oOrd⟩
def wOrd:Con:=⟨64,[0,1,2,3,4],[lW,.it .i64 (.v 4)],gW,bFo,(pb2 30,true)::fM,
 [⟨[(.lt (.c 0) (.v 1),false)],.sn,[],0,0,[]⟩,⟨[(.lt (.c 0) (.v 1),true)],.sl (.n 0) (.c 0) (.v 1) (.d 0),[(0,.arr [.nt .i64] ap61 (.v 1) 3 (.d 0))],1,1,[(.le (.v 1) (.d 0),true),(.le (.v 1) (.c 256),true)]⟩]⟩
theorem set_one {x:Int} (hx:-9223372036854775808≤x∧x≤9223372036854775807):fl (setC 0 0 0 x) 0 0=x:=by
 rw [fl_set,if_pos ⟨rfl,rfl⟩,wrap_in .i64 x hx.1 hx.2]
theorem lst_app {c len x:Int} (h0:0≤len) (hx:-9223372036854775808≤x∧x≤9223372036854775807):lst (setC c len 0 x) (len+1)=lst c len++[x]:=by
 unfold lst
 rw [show (len+1).toNat=len.toNat+1 by omega,List.range_succ,List.map_append]
 congr 1
 ·refine List.map_congr_left fun k hk=>?_
  rw [List.mem_range] at hk
  rw [fl_set,if_neg (by rintro ⟨h,_⟩;omega)]
 ·simp only [List.map_cons,List.map_nil]
  rw [fl_set,if_pos ⟨rfl,rfl⟩,wrap_in .i64 x hx.1 hx.2]
theorem lst_one {x:Int} (hx:-9223372036854775808≤x∧x≤9223372036854775807):lst (setC 0 0 0 x) 1=[x]:=lst_app (c:=0) (len:=0) (by omega) hx
section
variable {c lim p i:Int} (h0:0≤i)
include h0
theorem refA_go (h:lim≤fl c i.toNat 4):refA c lim (i+1).toNat=refA c lim i.toNat++[i]:=by
 rw [show (i+1).toNat=i.toNat+1 by omega,refA_succ,if_pos h,Int.toNat_of_nonneg h0]
theorem refA_no (h:¬ lim≤fl c i.toNat 4):refA c lim (i+1).toNat=refA c lim i.toNat:=by
 rw [show (i+1).toNat=i.toNat+1 by omega,refA_succ,if_neg h]
theorem refF_go (h:fl c i.toNat 4 < lim) (h':fl c i.toNat 3=p):refF c lim p (i+1).toNat=refF c lim p i.toNat++[i]:=by
 rw [show (i+1).toNat=i.toNat+1 by omega,refF_succ,if_pos ⟨h,h'⟩,Int.toNat_of_nonneg h0]
theorem refF_no (h:¬ (fl c i.toNat 4 < lim∧fl c i.toNat 3=p)):refF c lim p (i+1).toNat=refF c lim p i.toNat:=by
 rw [show (i+1).toNat=i.toNat+1 by omega,refF_succ,if_neg h]
end
theorem refA_0 {c lim:Int}:refA c lim 0=[]:=rfl
theorem rgt_prio {c n:Int} (h:rgtW c n) (j:Nat) (hj:(j:Int) < n):0≤fl c j 3∧fl c j 3≤3:=by
 have:=(h.2 j hj).1;unfold mayW at this;omega
theorem ord_nil {c n lim:Int} (h:rgtW c n) (he:refP c n lim (-1)=[]):¬ 0 < n:=by
 rw [ref_plc (by have:=h.1;omega) (rgt_prio h)] at he
 have:=congrArg List.length he
 simp [plcL] at this;omega
theorem ord_fin {c n lim d m:Int} (h:rgtW c n) (hm:0≤m) (hn:0≤n) (he:lst d m=refP c n lim (-1)):m=n∧∀ j:Nat,(j:Int) < n→fl (ordW c n lim) j 0=fl d j 0:=by
 rw [ref_plc (by have:=h.1;omega) (rgt_prio h)] at he
 have e:m=n:=by
  have:=congrArg List.length he
  simp [plcL,lst] at this;omega
 subst e
 refine ⟨rfl,fun j hj=>(lst_eq (he.trans (lst_ord c m lim).symm) hj).symm⟩
def undR (c d i:Int):Prop:=∀ j:Nat,(j:Int) < i→∀ f:Nat,f < 6→fl d j f=if f=5 then (j:Int) else fl c j f
theorem und_app {c d i:Int} (h0:0≤i) (hi:i≤1000) (h:undR c d i) :
  undR c (setC (setC (setC (setC (setC (setC d i 0 (fl c i.toNat 0)) i 1 (fl c i.toNat 1)) i 2 (fl c i.toNat 2)) i 3 (fl c i.toNat 3)) i 4 (fl c i.toNat 4)) i 5 i) (i+1):=by
 intro j hj f hf
 have hw:∀ (a b:Nat),IntKind.i64.wrap (fl c a b)=fl c a b:=fun a b=>wrap_in .i64 _ (fl_has c a b).1 (fl_has c a b).2
 have hi':IntKind.i64.wrap i=i:=wrap_in .i64 _ (by show (-9223372036854775808:Int)≤i;omega) (by show i≤(9223372036854775807:Int);omega)
 have h6:f=0∨f=1∨f=2∨f=3∨f=4∨f=5:=by omega
 simp only [fl_set,hw,hi']
 by_cases e:j=i.toNat
 ·subst e
  rcases h6 with rfl | rfl | rfl | rfl | rfl | rfl<;>simp<;>omega
 ·have h':=h j (by omega) f hf
  simp only [e,false_and,if_false];exact h'
theorem und_fin {c d n m lim:Int} (hm:m=n) (hn:n≤1000) (h:undR c d m):pdqU d m 0 m ((Sort.bitsLen m.toNat:Nat):Int) lim=srtW c n lim:=by
 subst hm
 refine srtW_eq (arrOf_ext (size_arrOf ..) fun j hj=>?_)
 rw [get_arrOf hj]
 apply Subtype.ext;funext f
 show rowF d j f=rowF (undC c m) j f
 unfold rowF
 split
 ·rename_i hf
  rw [h j hj f hf,fl_undC hj hn hf]
 ·rfl
def qOrd_T1:Tm:=⟨⟨65,37,[(20,(.it .i64 (.c 0))),(19,(.it .i64 (.v 1))),(18,(.sl (.k 0) (.v 2) (.v 1) (.v 3))),(5,(.pt (.n 0) (.c 0))),(1,(.it .i64 (.v 4)))],[(.code (atC Try.f65 [1,1,0,1,0,1,0,0])),(.inLoop (atC Try.f65 [1,1,0,1,0,1,0,0])),(.inBlock 0),(.code (atC Try.f65 [1,1,1]))],[],.none⟩,[],
    ⟨[(0,(.cells [.sn] 156))],1,0,0,[((.le (.v 4) (.c 64)),.true),((.le (.c 0) (.v 4)),.true),((.ap 30 (.v 0) (.v 1) (.c 0) (.c 0) (.c 0) (.c 0)),.true),((.le (.v 1) (.v 3)),.true),((.le (.c 0) (.v 3)),.true)],[1,0],[(4,(0,64)),(4,(0,9223372036854775807)),(4,((-9223372036854775808),9223372036854775807)),(1,(0,1000)),(2,(0,(-1)))]⟩,[]⟩
def qOrd_T2:Tm:=⟨⟨65,37,[(20,(.it .i64 (.v 28))),(19,(.it .i64 (.v 1))),(18,(.sl (.k 0) (.v 2) (.v 1) (.v 3))),(5,(.pt (.n 0) (.c 0))),(1,(.it .i64 (.v 4)))],[(.code (atC Try.f65 [1,1,0,1,0,1,0,0])),(.inLoop (atC Try.f65 [1,1,0,1,0,1,0,0])),(.inBlock 0),(.code (atC Try.f65 [1,1,1]))],[],.none⟩,[],
    ⟨[(0,(.cells [(.sl (.n 3) (.c 0) (.v 28) (.v 25))] 156)),(3,(.arr [(.nt .i64),(.nt .i64),(.nt .i64),(.nt .i64),(.nt .i64),(.nt .i64)] (.v 29) (.v 28) 158 (.v 25)))],4,0,0,[((.lt (.c 0) (.v 1)),.true),((.le (.v 4) (.c 64)),.true),((.le (.c 0) (.v 4)),.true),((.ap 30 (.v 0) (.v 1) (.c 0) (.c 0) (.c 0) (.c 0)),.true),((.le (.v 1) (.v 3)),.true),((.le (.c 0) (.v 3)),.true),((.le (.v 28) (.v 25)),.true)],[1,0],[(28,(1,1000)),(25,(0,(-1))),(1,(1,1000)),(4,(0,64)),(2,(0,(-1)))]⟩,[28,29,25]⟩
def qOrd_L0:List Lf:=
 let f0_:List (SB×Bool):=[((.le (.v 1) (.v 3)),.true),((.le (.c 0) (.v 3)),.true)]
 let f1_:List (SB×Bool):=((.ap 30 (.v 0) (.v 1) (.c 0) (.c 0) (.c 0) (.c 0)),.true)::f0_
 let f2_:List (SB×Bool):=((.le (.c 0) (.v 4)),.true)::f1_
 [(.cut (((.le (.v 4) (.c 64)),.true)::f2_) 1 ⟨⟨[],[]⟩,[(0,0)],[],[]⟩ [] (shT qOrd_T1 ⟨⟨[],[]⟩,[(0,0)],[],[]⟩)),
  (.fin (((.le (.v 4) (.c 64)),.false)::f2_) 2 ⟨⟨[],[]⟩,[(0,0)],[],[]⟩ [] [.none]),
  (.fin (((.le (.c 0) (.v 4)),.false)::f1_) 1 ⟨⟨[],[]⟩,[(0,0)],[],[]⟩ [] [.none]),
  (.fin (((.ap 30 (.v 0) (.v 1) (.c 0) (.c 0) (.c 0) (.c 0)),.false)::f0_) 0 ⟨⟨[],[]⟩,[(0,0)],[],[]⟩ [] [.none])]
def qOrd_L1:List Lf:=
 let x0_:SI:=(.ap 8 (.ap 8 (.ap 8 (.ap 8 (.ap 8 (.c 0) (.c 0) (.c 0) (.ap 3 (.v 0) (.c 0) (.c 0) (.c 0) (.c 0) (.c 0)) (.c 0) (.c 0)) (.c 0) (.c 1) (.ap 3 (.v 0) (.c 0) (.c 1) (.c 0) (.c 0) (.c 0)) (.c 0) (.c 0)) (.c 0) (.c 2) (.ap 3 (.v 0) (.c 0) (.c 2) (.c 0) (.c 0) (.c 0)) (.c 0) (.c 0)) (.c 0) (.c 3) (.ap 3 (.v 0) (.c 0) (.c 3) (.c 0) (.c 0) (.c 0)) (.c 0) (.c 0)) (.c 0) (.c 4) (.ap 3 (.v 0) (.c 0) (.c 4) (.c 0) (.c 0) (.c 0)) (.c 0) (.c 0))
 let x1_:SI:=(.ap 8 x0_ (.c 0) (.c 5) (.c 0) (.c 0) (.c 0))
 let f0_:List (SB×Bool):=[((.le (.v 4) (.c 64)),.true),((.le (.c 0) (.v 4)),.true),((.ap 30 (.v 0) (.v 1) (.c 0) (.c 0) (.c 0) (.c 0)),.true),((.le (.v 1) (.v 3)),.true),((.le (.c 0) (.v 3)),.true)]
 [(let i_:In:=⟨⟨[(29,(.ap 8 x0_ (.c 0) (.c 5) (.c 0) (.c 0) (.c 0))),(25,(.d 0)),(28,(.c 1))],[]⟩,[(3,3),(0,0)],[],[]⟩;.cut (((.le (.c 1) (.d 0)),.true)::((.lt (.c 0) (.v 1)),.true)::f0_) 2 i_ [(.ei (.ap 3 x1_ (.c 0) (.c 0) (.c 0) (.c 0) (.c 0)) (.ap 3 (.v 0) (.c 0) (.c 0) (.c 0) (.c 0) (.c 0))),(.ei (.ap 3 x1_ (.c 0) (.c 1) (.c 0) (.c 0) (.c 0)) (.ap 3 (.v 0) (.c 0) (.c 1) (.c 0) (.c 0) (.c 0))),(.ei (.ap 3 x1_ (.c 0) (.c 2) (.c 0) (.c 0) (.c 0)) (.ap 3 (.v 0) (.c 0) (.c 2) (.c 0) (.c 0) (.c 0))),(.ei (.ap 3 x1_ (.c 0) (.c 3) (.c 0) (.c 0) (.c 0)) (.ap 3 (.v 0) (.c 0) (.c 3) (.c 0) (.c 0) (.c 0))),(.ei (.ap 3 x1_ (.c 0) (.c 4) (.c 0) (.c 0) (.c 0)) (.ap 3 (.v 0) (.c 0) (.c 4) (.c 0) (.c 0) (.c 0))),(.ei (.ap 3 x1_ (.c 0) (.c 5) (.c 0) (.c 0) (.c 0)) (.c 0)),(.fa (.le (.c 1) (.c 1)) .true),(.fa (.le (.c 1) (.d 0)) .true)] (shT qOrd_T2 i_)),
  (.fin (((.lt (.c 0) (.v 1)),.false)::f0_) 3 ⟨⟨[],[]⟩,[(0,0)],[],[]⟩ [] [.none])]
def qOrd_L2:List Lf:=
 let f0_:List (SB×Bool):=[((.lt (.c 0) (.v 1)),.true),((.le (.v 4) (.c 64)),.true),((.le (.c 0) (.v 4)),.true),((.ap 30 (.v 0) (.v 1) (.c 0) (.c 0) (.c 0) (.c 0)),.true),((.le (.v 1) (.v 3)),.true),((.le (.c 0) (.v 3)),.true),((.le (.v 28) (.v 25)),.true)]
 [(let i_:In:=⟨⟨[(29,(.ap 8 (.ap 8 (.ap 8 (.ap 8 (.ap 8 (.ap 8 (.v 29) (.v 28) (.c 0) (.ap 3 (.v 0) (.v 28) (.c 0) (.c 0) (.c 0) (.c 0)) (.c 0) (.c 0)) (.v 28) (.c 1) (.ap 3 (.v 0) (.v 28) (.c 1) (.c 0) (.c 0) (.c 0)) (.c 0) (.c 0)) (.v 28) (.c 2) (.ap 3 (.v 0) (.v 28) (.c 2) (.c 0) (.c 0) (.c 0)) (.c 0) (.c 0)) (.v 28) (.c 3) (.ap 3 (.v 0) (.v 28) (.c 3) (.c 0) (.c 0) (.c 0)) (.c 0) (.c 0)) (.v 28) (.c 4) (.ap 3 (.v 0) (.v 28) (.c 4) (.c 0) (.c 0) (.c 0)) (.c 0) (.c 0)) (.v 28) (.c 5) (.v 28) (.c 0) (.c 0))),(25,(.d 0)),(28,(.op .add (.v 28) (.c 1)))],[]⟩,[(3,6),(0,0)],[],[]⟩;.cut (((.le (.op .add (.v 28) (.c 1)) (.d 0)),.true)::((.lt (.v 28) (.v 1)),.true)::f0_) 2 i_ [] (shT qOrd_T2 i_)),
  (.fin (((.lt (.v 28) (.v 1)),.false)::f0_) 4 ⟨⟨[],[]⟩,[(1,3),(0,0)],[(0,(.v 25))],[]⟩ [(.ei (.v 1) (.v 28)),(.ar [(.nt .i64),(.nt .i64),(.nt .i64),(.nt .i64),(.nt .i64),(.nt .i64)] (.ap 60 (.v 0) (.v 1) (.v 4) (.c 0) (.c 0) (.c 0)) (.ap 53 (.v 29) (.v 28) (.c 0) (.v 28) (.ap 57 (.v 28) (.c 0) (.c 0) (.c 0) (.c 0) (.c 0)) (.v 4)) (.v 1)),(.fa (.le (.v 1) (.v 28)) .true),(.fa (.le (.v 1) (.c 256)) .true)] [.none,.none])]
def qOrd_run (T:Tm):=(ex (ccOf Try.prog BF [58,84] qOrd) ((fun cc=>[wRight.ent cc,uSrt.ent cc,uSrt0.ent cc]) (ccOf Try.prog BF [58,84] qOrd)) (dw (ccOf Try.prog BF [58,84] qOrd) ((fun cc=>[wRight.ent cc,uSrt.ent cc,uSrt0.ent cc]) (ccOf Try.prog BF [58,84] qOrd)) 1000 4) (stopX []) 4000 T.f T.fs T.H).lfs (ccOf Try.prog BF [58,84] qOrd) ((tm0 qOrd Try.f65 (Try.f65.body.getD .skip))::[qOrd_T1,qOrd_T2]) qOrd.os
theorem qOrd_h0:qOrd_run (tm0 qOrd Try.f65 (Try.f65.body.getD .skip))=some qOrd_L0:=by kernel_rfl
theorem qOrd_h1:qOrd_run qOrd_T1=some qOrd_L1:=by kernel_rfl
theorem qOrd_h2:qOrd_run qOrd_T2=some qOrd_L2:=by kernel_rfl
def qOrd_inv:(Nat→Int)→(Nat→Bool)→Nat→(Nat→Int)→(Nat→Bool)→Prop:=fun iv0 _ k iv _=>match k with
 | 0=>True
 | 1=>True
 | _=>1≤iv 28∧iv 28≤iv0 1∧iv 28≤iv 25∧0≤iv 25∧undR (iv0 0) (iv 29) (iv 28)
def qOrd_mu:(Nat→Int)→(Nat→Bool)→Nat→(Nat→Int)→(Nat→Bool)→Nat:=fun iv0 _ k iv _=>match k with | 0=>2 ^ 90 | 1=>2 ^ 80 | _=>(iv0 1 - iv 28).toNat
theorem qOrd_b {iv0:Nat→Int} (hin:InB qOrd.B iv0):(0≤iv0 1∧iv0 1≤1000)∧0≤iv0 2∧((-9223372036854775808)≤iv0 4∧iv0 4≤9223372036854775807):=by
 have b1:=hin 1 0 1000 (by simp [qOrd,bW,gW,fM,lW,ap3,pb3,pb4,ints,mayV,i64s,i64b,kW,two,b2,lmap,lapp,bFo,cap64,fnO,ap60,ap61,oNo,oOrd,kU])
 simp only [Int.reduceLE,reduceIte,Int.reduceNeg] at b1
 have b2:=hin 2 0 (-1) (by simp [qOrd,bW,gW,fM,lW,ap3,pb3,pb4,ints,mayV,i64s,i64b,kW,two,b2,lmap,lapp,bFo,cap64,fnO,ap60,ap61,oNo,oOrd,kU])
 simp only [Int.reduceLE,reduceIte,Int.reduceNeg] at b2
 have b4:=hin 4 (-9223372036854775808) 9223372036854775807 (by simp [qOrd,bW,gW,fM,lW,ap3,pb3,pb4,ints,mayV,i64s,i64b,kW,two,b2,lmap,lapp,bFo,cap64,fnO,ap60,ap61,oNo,oOrd,kU])
 simp only [Int.reduceLE,reduceIte,Int.reduceNeg] at b4
 exact ⟨b1,b2.1,b4⟩
def qOrd_ob (k:Nat) (l:List Lf):Prop:=∀ (kv:Kv) (iv0:Nat→Int) (bv0:Nat→Bool),InB qOrd.B iv0→FT (sta FI FB kv iv0 bv0) (dlt dyn0) qOrd.F→∀ (iv:Nat→Int) (bv:Nat→Bool),Agr 5 iv0 bv0 iv bv→qOrd_inv iv0 bv0 k iv bv→∀ lf∈l,LfT (sta FI FB kv) qOrd.os (qOrd_inv iv0 bv0) (qOrd_mu iv0 bv0) k iv bv lf
theorem qOrd_o0:qOrd_ob 0 qOrd_L0:=by
 intro kv iv0 bv0 hin hF iv bv ha hi
 unfold qOrd_L0
 refine List.forall_mem_cons.2 ⟨?_,List.forall_mem_cons.2 ⟨?_,List.forall_mem_cons.2 ⟨?_,List.forall_mem_cons.2 ⟨?_,List.forall_mem_nil _⟩⟩⟩⟩
 all_goals
  intro δ hf
 all_goals
  obtain ⟨b1,b2,b4⟩:=qOrd_b hin
 all_goals
  have a0:=ha.1 0 (by omega)
  have a1:=ha.1 1 (by omega)
  have a2:=ha.1 2 (by omega)
  have a3:=ha.1 3 (by omega)
  have a4:=ha.1 4 (by omega)
 all_goals
  simp only [FT,TP,SB.tp,SI.tv,sta,IB.eval,and_true,true_and,ObsT,Ob.Tv,rowT,kix,In.tiv,↓tbvT,In.tbv,get_cons,get_nil,reduceIte,Nat.reduceEqDiff,Int.reduceToNat,Int.reduceAdd,Int.reduceSub,Int.reduceLE,Int.reduceLT,Int.reduceEq,ne_eq,Bool.false_eq_true,not_true_eq_false,not_false_eq_true,true_iff,false_iff,iff_true,iff_false,false_implies,implies_true,decT,decide_true,decide_false,Bool.decide_eq_true,ap2,pb2,FI_3,FI_8,FI_9,FI_30,FB_30,FI_3g,FI_8m,Int.toNat_natCast,Int.toNat_zero,FI_53,FI_57,FI_60,qOrd_inv,qOrd_mu,qOrd,o1,othT,bW,gW,fM,lW,ap3,pb3,pb4,ints,mayV,i64s,i64b,kW,two,b2,lmap,lapp,bFo,cap64,fnO,ap60,ap61,oNo,oOrd,kU,a0,a1,a2,a3,a4] at hf hi ⊢
 all_goals
  (repeat' (with_reducible apply And.intro))<;>first
  | omega
  | assumption
  | (unfold inM;omega)
  | (clear hin hF ha;grind)
theorem qOrd_o1:qOrd_ob 1 qOrd_L1:=by
 intro kv iv0 bv0 hin hF iv bv ha hi
 unfold qOrd_L1
 refine List.forall_mem_cons.2 ⟨?_,List.forall_mem_cons.2 ⟨?_,List.forall_mem_nil _⟩⟩
 all_goals
  intro δ hf
 all_goals
  obtain ⟨b1,b2,b4⟩:=qOrd_b hin
 all_goals
  have a0:=ha.1 0 (by omega)
  have a1:=ha.1 1 (by omega)
  have a2:=ha.1 2 (by omega)
  have a3:=ha.1 3 (by omega)
  have a4:=ha.1 4 (by omega)
 all_goals
  simp only [FT,TP,SB.tp,SI.tv,sta,IB.eval,and_true,true_and,ObsT,Ob.Tv,rowT,kix,In.tiv,↓tbvT,In.tbv,get_cons,get_nil,reduceIte,Nat.reduceEqDiff,Int.reduceToNat,Int.reduceAdd,Int.reduceSub,Int.reduceLE,Int.reduceLT,Int.reduceEq,ne_eq,Bool.false_eq_true,not_true_eq_false,not_false_eq_true,true_iff,false_iff,iff_true,iff_false,false_implies,implies_true,decT,decide_true,decide_false,Bool.decide_eq_true,ap2,pb2,FI_3,FI_8,FI_9,FI_30,FB_30,FI_3g,FI_8m,Int.toNat_natCast,Int.toNat_zero,FI_53,FI_57,FI_60,qOrd_inv,qOrd_mu,qOrd,o1,othT,bW,gW,fM,lW,ap3,pb3,pb4,ints,mayV,i64s,i64b,kW,two,b2,lmap,lapp,bFo,cap64,fnO,ap60,ap61,oNo,oOrd,kU,a0,a1,a2,a3,a4] at hf hi ⊢
 all_goals
  (repeat' (with_reducible apply And.intro))<;>first
  | omega
  | assumption
  | (unfold inM;omega)
  | (clear hin hF ha;grind)
  | (exact und_app (c:=iv0 0) (d:=0) (i:=0) (by omega) (by omega) (fun j hj=>absurd hj (by omega)))
  | (exact und_app (c:=iv0 0) (d:=0) (i:=0) (by omega) (by omega) (fun j hj=>absurd hj (by omega)) 0 (by omega) 0 (by omega))
  | (exact und_app (c:=iv0 0) (d:=0) (i:=0) (by omega) (by omega) (fun j hj=>absurd hj (by omega)) 0 (by omega) 1 (by omega))
  | (exact und_app (c:=iv0 0) (d:=0) (i:=0) (by omega) (by omega) (fun j hj=>absurd hj (by omega)) 0 (by omega) 2 (by omega))
  | (exact und_app (c:=iv0 0) (d:=0) (i:=0) (by omega) (by omega) (fun j hj=>absurd hj (by omega)) 0 (by omega) 3 (by omega))
  | (exact und_app (c:=iv0 0) (d:=0) (i:=0) (by omega) (by omega) (fun j hj=>absurd hj (by omega)) 0 (by omega) 4 (by omega))
  | (exact und_app (c:=iv0 0) (d:=0) (i:=0) (by omega) (by omega) (fun j hj=>absurd hj (by omega)) 0 (by omega) 5 (by omega))
theorem qOrd_o2:qOrd_ob 2 qOrd_L2:=by
 intro kv iv0 bv0 hin hF iv bv ha hi
 unfold qOrd_L2
 refine List.forall_mem_cons.2 ⟨?_,List.forall_mem_cons.2 ⟨?_,List.forall_mem_nil _⟩⟩
 all_goals
  intro δ hf
 all_goals
  obtain ⟨b1,b2,b4⟩:=qOrd_b hin
 all_goals
  have a0:=ha.1 0 (by omega)
  have a1:=ha.1 1 (by omega)
  have a2:=ha.1 2 (by omega)
  have a3:=ha.1 3 (by omega)
  have a4:=ha.1 4 (by omega)
 all_goals
  simp only [FT,TP,SB.tp,SI.tv,sta,IB.eval,and_true,true_and,ObsT,Ob.Tv,rowT,kix,In.tiv,↓tbvT,In.tbv,get_cons,get_nil,reduceIte,Nat.reduceEqDiff,Int.reduceToNat,Int.reduceAdd,Int.reduceSub,Int.reduceLE,Int.reduceLT,Int.reduceEq,ne_eq,Bool.false_eq_true,not_true_eq_false,not_false_eq_true,true_iff,false_iff,iff_true,iff_false,false_implies,implies_true,decT,decide_true,decide_false,Bool.decide_eq_true,ap2,pb2,FI_3,FI_8,FI_9,FI_30,FB_30,FI_3g,FI_8m,Int.toNat_natCast,Int.toNat_zero,FI_53,FI_57,FI_60,qOrd_inv,qOrd_mu,qOrd,o1,othT,bW,gW,fM,lW,ap3,pb3,pb4,ints,mayV,i64s,i64b,kW,two,b2,lmap,lapp,bFo,cap64,fnO,ap60,ap61,oNo,oOrd,kU,a0,a1,a2,a3,a4] at hf hi ⊢
 all_goals
  obtain ⟨g0,g1,g2,g3,g4⟩:=hi
 all_goals
  have hR:rgtW (iv0 0) (iv0 1):=(by first | exact hf | exact hf.1 | exact hf.2.1 | exact hf.2.2.1 | exact hf.2.2.2.1 | exact hf.2.2.2.2.1 | exact hf.2.2.2.2.2.1 | exact hf.2.2.2.2.2.2.1 | exact hf.2.2.2.2.2.2.2.1 | exact hf.2.2.2.2.2.2.2.2.1 | exact hf.2.2.2.2.2.2.2.2.2.1 | exact hf.2.2.2.2.2.2.2.2.2.2.1 | exact hf.2.2.2.2.2.2.2.2.2.2.2.1)
 all_goals
  have hRn:=hR.1
 all_goals
  (repeat' (with_reducible apply And.intro))<;>first
  | omega
  | assumption
  | (unfold inM;omega)
  | (clear hin hF ha;grind)
  | (exact und_app (by omega) (by omega) g4)
  | (intro j hj;have e28:iv 28=iv0 1:=(by omega);rw [und_fin e28 (by omega) g4];simp)
theorem qOrd_c:LsC ((tm0 qOrd Try.f65 (Try.f65.body.getD .skip))::[qOrd_T1,qOrd_T2]) qOrd.os [qOrd_L0,qOrd_L1,qOrd_L2]:=by
 unfold qOrd_L0 qOrd_L1 qOrd_L2
 exact ⟨List.forall_mem_cons.2 ⟨⟨⟨_,rfl,rfl⟩,by kernel_rfl⟩,List.forall_mem_cons.2 ⟨⟨⟨_,rfl,rfl⟩,by kernel_rfl⟩,List.forall_mem_cons.2 ⟨⟨⟨_,rfl,rfl⟩,by kernel_rfl⟩,List.forall_mem_cons.2 ⟨⟨⟨_,rfl,rfl⟩,by kernel_rfl⟩,List.forall_mem_nil _⟩⟩⟩⟩,List.forall_mem_cons.2 ⟨⟨⟨_,rfl,rfl⟩,by kernel_rfl⟩,List.forall_mem_cons.2 ⟨⟨⟨_,rfl,rfl⟩,by kernel_rfl⟩,List.forall_mem_nil _⟩⟩,List.forall_mem_cons.2 ⟨⟨⟨_,rfl,rfl⟩,by kernel_rfl⟩,List.forall_mem_cons.2 ⟨⟨⟨_,rfl,rfl⟩,by kernel_rfl⟩,List.forall_mem_nil _⟩⟩,trivial⟩
theorem qOrd_ok:qOrd.Ok Try.prog FI FB:=
 Con.of_plain (body:=Try.f65.body.getD .skip) pok fiok (EntsFor.cons wRight_ok (EntsFor.consM uSrt_ok (EntsFor.cons uSrt0_ok EntsFor.nil))) qOrd Try.func65 (by kernel_rfl) 5 [qOrd_T1,qOrd_T2] (by kernel_rfl) [qOrd_L0,qOrd_L1,qOrd_L2] ⟨qOrd_h0,qOrd_h1,qOrd_h2,trivial⟩ qOrd_c
  qOrd_inv qOrd_mu (fun _ _ _=>trivial) fun kv iv0 bv0 hin hF k l iv bv hk ha hi=>match k,hk,hi with
  | 0,hk,hi=>by
    cases hk
    exact qOrd_o0 kv iv0 bv0 hin hF iv bv ha hi
  | 1,hk,hi=>by
    cases hk
    exact qOrd_o1 kv iv0 bv0 hin hF iv bv ha hi
  | 2,hk,hi=>by
    cases hk
    exact qOrd_o2 kv iv0 bv0 hin hF iv bv ha hi
  | k+3,hk,_=>by simp at hk
def wOrd_T1:Tm:=⟨⟨64,57,[(6,(.it .i64 (.v 26))),(5,.sn),(0,(.sl (.k 0) (.v 2) (.v 1) (.v 3))),(1,(.it .i64 (.v 4)))],[(.code (atC Try.f64 [1,1,0,1,0,0])),(.inLoop (atC Try.f64 [1,1,0,1,0,0])),(.inBlock 0),(.code (atC Try.f64 [1,1,1]))],[],.none⟩,[],
    ⟨[],0,0,0,[((.ap 30 (.v 0) (.v 1) (.c 0) (.c 0) (.c 0) (.c 0)),.true),((.le (.v 1) (.v 3)),.true),((.le (.c 0) (.v 3)),.true)],[1,0],[(4,((-9223372036854775808),9223372036854775807)),(1,(0,1000)),(2,(0,(-1))),(26,(0,1001))]⟩,[26]⟩
def wOrd_T2:Tm:=⟨⟨64,57,[(6,(.it .i64 (.v 30))),(5,(.sl (.n 1) (.c 0) (.v 31) (.v 27))),(0,(.sl (.k 0) (.v 2) (.v 1) (.v 3))),(1,(.it .i64 (.v 4)))],[(.code (atC Try.f64 [1,1,0,1,0,0])),(.inLoop (atC Try.f64 [1,1,0,1,0,0])),(.inBlock 0),(.code (atC Try.f64 [1,1,1]))],[],.none⟩,[],
    ⟨[(1,(.arr [(.nt .i64)] (.v 32) (.v 31) 3 (.v 27)))],2,0,0,[((.le (.v 4) (.ap 3 (.v 0) (.v 26) (.c 4) (.c 0) (.c 0) (.c 0))),.true),((.lt (.v 26) (.v 1)),.true),((.ap 30 (.v 0) (.v 1) (.c 0) (.c 0) (.c 0) (.c 0)),.true),((.le (.v 1) (.v 3)),.true),((.le (.c 0) (.v 3)),.true),((.le (.v 31) (.v 27)),.true)],[1,0],[(4,((-9223372036854775808),9223372036854775807)),(1,(1,1000)),(2,(0,(-1))),(30,(0,1001)),(31,(1,10000))]⟩,[30,31,32,27]⟩
def wOrd_T3:Tm:=⟨⟨64,57,[(7,(.it .i64 (.v 59))),(5,.sn),(0,(.sl (.k 0) (.v 2) (.v 1) (.v 3))),(1,(.it .i64 (.v 4)))],[(.code (atC Try.f64 [1,1,1,0,1,0,0])),(.inLoop (atC Try.f64 [1,1,1,0,1,0,0])),(.inBlock 2),(.code (atC Try.f64 [1,1,1,1]))],[],.none⟩,[],
    ⟨[],0,0,0,[((.lt (.v 26) (.v 1)),.false),((.ap 30 (.v 0) (.v 1) (.c 0) (.c 0) (.c 0) (.c 0)),.true),((.le (.v 1) (.v 3)),.true),((.le (.c 0) (.v 3)),.true)],[1,0],[(1,(0,1000)),(4,((-9223372036854775808),9223372036854775807)),(2,(0,(-1))),(59,((-1),3))]⟩,[59]⟩
def wOrd_T4:Tm:=⟨⟨64,57,[(7,(.it .i64 (.v 93))),(5,(.sl (.n 1) (.c 0) (.v 94) (.v 95))),(0,(.sl (.k 0) (.v 2) (.v 1) (.v 3))),(1,(.it .i64 (.v 4)))],[(.code (atC Try.f64 [1,1,1,0,1,0,0])),(.inLoop (atC Try.f64 [1,1,1,0,1,0,0])),(.inBlock 2),(.code (atC Try.f64 [1,1,1,1]))],[],.none⟩,[],
    ⟨[(1,(.arr [(.nt .i64)] (.v 96) (.v 94) 3 (.v 95)))],2,0,0,[((.ap 30 (.v 0) (.v 1) (.c 0) (.c 0) (.c 0) (.c 0)),.true),((.le (.v 1) (.v 3)),.true),((.le (.c 0) (.v 3)),.true),((.le (.v 94) (.v 95)),.true)],[1,0],[(1,(1,1000)),(4,((-9223372036854775808),9223372036854775807)),(2,(0,(-1))),(94,(1,10000)),(93,((-1),3))]⟩,[93,94,95,96]⟩
def wOrd_T5:Tm:=⟨⟨64,57,[(8,(.it .i64 (.v 110))),(7,(.it .i64 (.v 59))),(5,.sn),(0,(.sl (.k 0) (.v 2) (.v 1) (.v 3))),(1,(.it .i64 (.v 4)))],[(.code (atC Try.f64 [1,1,1,0,1,0,0,1,0,0,1,0,0])),(.inLoop (atC Try.f64 [1,1,1,0,1,0,0,1,0,0,1,0,0])),(.inBlock 4),(.inBlock 3),(.code (atC Try.f64 [1,1,1,0,1,0,0,1,1])),(.inLoop (atC Try.f64 [1,1,1,0,1,0,0])),(.inBlock 2),(.code (atC Try.f64 [1,1,1,1]))],[],.none⟩,[],
    ⟨[],0,0,0,[((.le (.c 0) (.v 59)),.true),((.lt (.v 26) (.v 1)),.false),((.ap 30 (.v 0) (.v 1) (.c 0) (.c 0) (.c 0) (.c 0)),.true),((.le (.v 1) (.v 3)),.true),((.le (.c 0) (.v 3)),.true)],[1,0],[(1,(0,1000)),(4,((-9223372036854775808),9223372036854775807)),(2,(0,(-1))),(59,((-1),3)),(110,(0,1001))]⟩,[110]⟩
def wOrd_T6:Tm:=⟨⟨64,57,[(8,(.it .i64 (.v 116))),(7,(.it .i64 (.v 117))),(5,(.sl (.n 1) (.c 0) (.v 118) (.v 119))),(0,(.sl (.k 0) (.v 2) (.v 1) (.v 3))),(1,(.it .i64 (.v 4)))],[(.code (atC Try.f64 [1,1,1,0,1,0,0,1,0,0,1,0,0])),(.inLoop (atC Try.f64 [1,1,1,0,1,0,0,1,0,0,1,0,0])),(.inBlock 4),(.inBlock 3),(.code (atC Try.f64 [1,1,1,0,1,0,0,1,1])),(.inLoop (atC Try.f64 [1,1,1,0,1,0,0])),(.inBlock 2),(.code (atC Try.f64 [1,1,1,1]))],[],.none⟩,[],
    ⟨[(1,(.arr [(.nt .i64)] (.v 120) (.v 118) 3 (.v 119)))],2,0,0,[((.ap 30 (.v 0) (.v 1) (.c 0) (.c 0) (.c 0) (.c 0)),.true),((.le (.v 1) (.v 3)),.true),((.le (.c 0) (.v 3)),.true),((.le (.v 118) (.v 119)),.true)],[1,0],[(1,(1,1000)),(4,((-9223372036854775808),9223372036854775807)),(2,(0,(-1))),(118,(1,10000)),(117,((-1),3)),(116,(0,1001))]⟩,[116,117,118,119,120]⟩
def wOrd_L0:List Lf:=
 [(.cut ([((.ap 30 (.v 0) (.v 1) (.c 0) (.c 0) (.c 0) (.c 0)),.true),((.le (.v 1) (.v 3)),.true),((.le (.c 0) (.v 3)),.true)]) 1 ⟨⟨[(26,(.c 0))],[]⟩,[],[],[]⟩ [] (shT wOrd_T1 ⟨⟨[(26,(.c 0))],[]⟩,[],[],[]⟩))]
def wOrd_L1:List Lf:=
 let x0_:SI:=(.ap 3 (.v 0) (.v 26) (.c 4) (.c 0) (.c 0) (.c 0))
 let f0_:List (SB×Bool):=[((.ap 30 (.v 0) (.v 1) (.c 0) (.c 0) (.c 0) (.c 0)),.true),((.le (.v 1) (.v 3)),.true),((.le (.c 0) (.v 3)),.true)]
 let f1_:List (SB×Bool):=((.lt (.v 26) (.v 1)),.true)::f0_
 [(let i_:In:=⟨⟨[(32,(.ap 8 (.c 0) (.c 0) (.c 0) (.v 26) (.c 0) (.c 0))),(27,(.d 0)),(31,(.c 1)),(30,(.op .add (.v 26) (.c 1)))],[]⟩,[(1,1)],[],[]⟩;.cut (((.le (.c 1) (.d 0)),.true)::((.le (.v 4) x0_),.true)::f1_) 2 i_ [(.ei (.ap 3 (.ap 8 (.c 0) (.c 0) (.c 0) (.v 26) (.c 0) (.c 0)) (.c 0) (.c 0) (.c 0) (.c 0) (.c 0)) (.v 26)),(.fa (.le (.c 1) (.c 1)) .true),(.fa (.le (.c 1) (.d 0)) .true)] (shT wOrd_T2 i_)),
  (.cut (((.le (.v 4) x0_),.false)::f1_) 1 ⟨⟨[(26,(.op .add (.v 26) (.c 1)))],[]⟩,[],[],[]⟩ [] (shT wOrd_T1 ⟨⟨[(26,(.op .add (.v 26) (.c 1)))],[]⟩,[],[],[]⟩)),
  (.cut (((.lt (.v 26) (.v 1)),.false)::f0_) 3 ⟨⟨[(59,(.c 3))],[]⟩,[],[],[]⟩ [] (shT wOrd_T3 ⟨⟨[(59,(.c 3))],[]⟩,[],[],[]⟩))]
def wOrd_L2:List Lf:=
 let x0_:SI:=(.ap 3 (.v 0) (.v 30) (.c 4) (.c 0) (.c 0) (.c 0))
 let f0_:List (SB×Bool):=[((.le (.v 4) (.ap 3 (.v 0) (.v 26) (.c 4) (.c 0) (.c 0) (.c 0))),.true),((.lt (.v 26) (.v 1)),.true),((.ap 30 (.v 0) (.v 1) (.c 0) (.c 0) (.c 0) (.c 0)),.true),((.le (.v 1) (.v 3)),.true),((.le (.c 0) (.v 3)),.true),((.le (.v 31) (.v 27)),.true)]
 let f1_:List (SB×Bool):=((.lt (.v 30) (.v 1)),.true)::f0_
 [(let i_:In:=⟨⟨[(32,(.ap 8 (.v 32) (.v 31) (.c 0) (.v 30) (.c 0) (.c 0))),(27,(.d 0)),(31,(.op .add (.v 31) (.c 1))),(30,(.op .add (.v 30) (.c 1)))],[]⟩,[(1,3)],[],[]⟩;.cut (((.le (.op .add (.v 31) (.c 1)) (.d 0)),.true)::((.le (.v 4) x0_),.true)::f1_) 2 i_ [(.rn (.op .add (.v 31) (.c 1)) 1 10000)] (shT wOrd_T2 i_)),
  (let i_:In:=⟨⟨[(32,(.v 32)),(27,(.v 27)),(31,(.v 31)),(30,(.op .add (.v 30) (.c 1)))],[]⟩,[(1,1)],[],[]⟩;.cut (((.le (.v 4) x0_),.false)::f1_) 2 i_ [] (shT wOrd_T2 i_)),
  (let i_:In:=⟨⟨[(96,(.v 32)),(95,(.v 27)),(94,(.v 31)),(93,(.c 3))],[]⟩,[(1,1)],[],[]⟩;.cut (((.lt (.v 30) (.v 1)),.false)::f0_) 4 i_ [] (shT wOrd_T4 i_))]
def wOrd_L3:List Lf:=
 let f0_:List (SB×Bool):=[((.lt (.v 26) (.v 1)),.false),((.ap 30 (.v 0) (.v 1) (.c 0) (.c 0) (.c 0) (.c 0)),.true),((.le (.v 1) (.v 3)),.true),((.le (.c 0) (.v 3)),.true)]
 [(.cut (((.le (.c 0) (.v 59)),.true)::f0_) 5 ⟨⟨[(110,(.c 0))],[]⟩,[],[],[]⟩ [] (shT wOrd_T5 ⟨⟨[(110,(.c 0))],[]⟩,[],[],[]⟩)),
  (.fin (((.le (.c 0) (.v 59)),.false)::f0_) 0 ⟨⟨[],[]⟩,[],[],[]⟩ [] [])]
def wOrd_L4:List Lf:=
 let f0_:List (SB×Bool):=[((.ap 30 (.v 0) (.v 1) (.c 0) (.c 0) (.c 0) (.c 0)),.true),((.le (.v 1) (.v 3)),.true),((.le (.c 0) (.v 3)),.true),((.le (.v 94) (.v 95)),.true)]
 [(let i_:In:=⟨⟨[(120,(.v 96)),(119,(.v 95)),(118,(.v 94)),(117,(.v 93)),(116,(.c 0))],[]⟩,[(1,1)],[],[]⟩;.cut (((.le (.c 0) (.v 93)),.true)::f0_) 6 i_ [] (shT wOrd_T6 i_)),
  (.fin (((.le (.c 0) (.v 93)),.false)::f0_) 1 ⟨⟨[],[]⟩,[(0,1)],[(0,(.v 95))],[]⟩ [(.ei (.v 1) (.v 94)),(.ar [(.nt .i64)] (.ap 61 (.v 0) (.v 1) (.v 4) (.c 0) (.c 0) (.c 0)) (.v 96) (.v 1)),(.fa (.le (.v 1) (.v 94)) .true),(.fa (.le (.v 1) (.v 95)) .true),(.fa (.le (.v 1) (.c 256)) .true)] [.none])]
def wOrd_L5:List Lf:=
 let x0_:SI:=(.ap 3 (.v 0) (.v 110) (.c 4) (.c 0) (.c 0) (.c 0))
 let x1_:SI:=(.ap 3 (.v 0) (.v 110) (.c 3) (.c 0) (.c 0) (.c 0))
 let f0_:List (SB×Bool):=[((.le (.c 0) (.v 59)),.true),((.lt (.v 26) (.v 1)),.false),((.ap 30 (.v 0) (.v 1) (.c 0) (.c 0) (.c 0) (.c 0)),.true),((.le (.v 1) (.v 3)),.true),((.le (.c 0) (.v 3)),.true)]
 let f1_:List (SB×Bool):=((.lt (.v 110) (.v 1)),.true)::f0_
 let f2_:List (SB×Bool):=((.lt x0_ (.v 4)),.true)::f1_
 [(let i_:In:=⟨⟨[(120,(.ap 8 (.c 0) (.c 0) (.c 0) (.v 110) (.c 0) (.c 0))),(119,(.d 0)),(118,(.c 1)),(117,(.v 59)),(116,(.op .add (.v 110) (.c 1)))],[]⟩,[(1,1)],[],[]⟩;.cut (((.le (.c 1) (.d 0)),.true)::((.eq x1_ (.v 59)),.true)::f2_) 6 i_ [(.ei (.ap 3 (.ap 8 (.c 0) (.c 0) (.c 0) (.v 110) (.c 0) (.c 0)) (.c 0) (.c 0) (.c 0) (.c 0) (.c 0)) (.v 110)),(.fa (.le (.c 1) (.c 1)) .true),(.fa (.le (.c 1) (.d 0)) .true)] (shT wOrd_T6 i_)),
  (.cut (((.eq x1_ (.v 59)),.false)::f2_) 5 ⟨⟨[(110,(.op .add (.v 110) (.c 1)))],[]⟩,[],[],[]⟩ [] (shT wOrd_T5 ⟨⟨[(110,(.op .add (.v 110) (.c 1)))],[]⟩,[],[],[]⟩)),
  (.cut (((.lt x0_ (.v 4)),.false)::f1_) 5 ⟨⟨[(110,(.op .add (.v 110) (.c 1)))],[]⟩,[],[],[]⟩ [] (shT wOrd_T5 ⟨⟨[(110,(.op .add (.v 110) (.c 1)))],[]⟩,[],[],[]⟩)),
  (.cut (((.lt (.v 110) (.v 1)),.false)::f0_) 3 ⟨⟨[(59,(.op .add (.v 59) (.c (-1))))],[]⟩,[],[],[]⟩ [(.rn (.op .add (.v 59) (.c (-1))) (-1) 3)] (shT wOrd_T3 ⟨⟨[(59,(.op .add (.v 59) (.c (-1))))],[]⟩,[],[],[]⟩))]
def wOrd_L6:List Lf:=
 let x0_:SI:=(.ap 3 (.v 0) (.v 116) (.c 4) (.c 0) (.c 0) (.c 0))
 let x1_:SI:=(.ap 3 (.v 0) (.v 116) (.c 3) (.c 0) (.c 0) (.c 0))
 let f0_:List (SB×Bool):=[((.ap 30 (.v 0) (.v 1) (.c 0) (.c 0) (.c 0) (.c 0)),.true),((.le (.v 1) (.v 3)),.true),((.le (.c 0) (.v 3)),.true),((.le (.v 118) (.v 119)),.true)]
 let f1_:List (SB×Bool):=((.lt (.v 116) (.v 1)),.true)::f0_
 let f2_:List (SB×Bool):=((.lt x0_ (.v 4)),.true)::f1_
 [(let i_:In:=⟨⟨[(120,(.ap 8 (.v 120) (.v 118) (.c 0) (.v 116) (.c 0) (.c 0))),(119,(.d 0)),(118,(.op .add (.v 118) (.c 1))),(117,(.v 117)),(116,(.op .add (.v 116) (.c 1)))],[]⟩,[(1,3)],[],[]⟩;.cut (((.le (.op .add (.v 118) (.c 1)) (.d 0)),.true)::((.eq x1_ (.v 117)),.true)::f2_) 6 i_ [(.rn (.op .add (.v 118) (.c 1)) 1 10000)] (shT wOrd_T6 i_)),
  (let i_:In:=⟨⟨[(120,(.v 120)),(119,(.v 119)),(118,(.v 118)),(117,(.v 117)),(116,(.op .add (.v 116) (.c 1)))],[]⟩,[(1,1)],[],[]⟩;.cut (((.eq x1_ (.v 117)),.false)::f2_) 6 i_ [] (shT wOrd_T6 i_)),
  (let i_:In:=⟨⟨[(120,(.v 120)),(119,(.v 119)),(118,(.v 118)),(117,(.v 117)),(116,(.op .add (.v 116) (.c 1)))],[]⟩,[(1,1)],[],[]⟩;.cut (((.lt x0_ (.v 4)),.false)::f1_) 6 i_ [] (shT wOrd_T6 i_)),
  (let i_:In:=⟨⟨[(96,(.v 120)),(95,(.v 119)),(94,(.v 118)),(93,(.op .add (.v 117) (.c (-1))))],[]⟩,[(1,1)],[],[]⟩;.cut (((.lt (.v 116) (.v 1)),.false)::f0_) 4 i_ [(.rn (.op .add (.v 117) (.c (-1))) (-1) 3)] (shT wOrd_T4 i_))]
def wOrd_run (T:Tm):=(ex (ccOf Try.prog BF [58,84] wOrd) ((fun _=>[]) (ccOf Try.prog BF [58,84] wOrd)) (dw (ccOf Try.prog BF [58,84] wOrd) ((fun _=>[]) (ccOf Try.prog BF [58,84] wOrd)) 1000 4) (stopX []) 4000 T.f T.fs T.H).lfs (ccOf Try.prog BF [58,84] wOrd) ((tm0 wOrd Try.f64 (Try.f64.body.getD .skip))::[wOrd_T1,wOrd_T2,wOrd_T3,wOrd_T4,wOrd_T5,wOrd_T6]) wOrd.os
theorem wOrd_h0:wOrd_run (tm0 wOrd Try.f64 (Try.f64.body.getD .skip))=some wOrd_L0:=by kernel_rfl
theorem wOrd_h1:wOrd_run wOrd_T1=some wOrd_L1:=by kernel_rfl
theorem wOrd_h2:wOrd_run wOrd_T2=some wOrd_L2:=by kernel_rfl
theorem wOrd_h3:wOrd_run wOrd_T3=some wOrd_L3:=by kernel_rfl
theorem wOrd_h4:wOrd_run wOrd_T4=some wOrd_L4:=by kernel_rfl
theorem wOrd_h5:wOrd_run wOrd_T5=some wOrd_L5:=by kernel_rfl
theorem wOrd_h6:wOrd_run wOrd_T6=some wOrd_L6:=by kernel_rfl
def wOrd_inv:(Nat→Int)→(Nat→Bool)→Nat→(Nat→Int)→(Nat→Bool)→Prop:=fun iv0 _ k iv _=>match k with
 | 0=>True
 | 1=>0≤iv 26∧iv 26≤iv0 1∧refA (iv0 0) (iv0 4) (iv 26).toNat=[]
 | 2=>0≤iv 30∧iv 30≤iv0 1∧1≤iv 31∧iv 31≤iv 30∧lst (iv 32) (iv 31)=refA (iv0 0) (iv0 4) (iv 30).toNat
 | 3=>-1≤iv 59∧iv 59≤3∧refP (iv0 0) (iv0 1) (iv0 4) (iv 59)=[]
 | 4=>-1≤iv 93∧iv 93≤3∧1≤iv 94∧iv 94≤1000 * (4 - iv 93)∧lst (iv 96) (iv 94)=refP (iv0 0) (iv0 1) (iv0 4) (iv 93)
 | 5=>0≤iv 59∧iv 59≤3∧0≤iv 110∧iv 110≤iv0 1∧refP (iv0 0) (iv0 1) (iv0 4) (iv 59)++refF (iv0 0) (iv0 4) (iv 59) (iv 110).toNat=[]
 | _=>0≤iv 117∧iv 117≤3∧0≤iv 116∧iv 116≤iv0 1∧1≤iv 118∧iv 118≤1000 * (4 - iv 117)+iv 116∧lst (iv 120) (iv 118)=refP (iv0 0) (iv0 1) (iv0 4) (iv 117)++refF (iv0 0) (iv0 4) (iv 117) (iv 116).toNat
def wOrd_mu:(Nat→Int)→(Nat→Bool)→Nat→(Nat→Int)→(Nat→Bool)→Nat:=fun iv0 _ k iv _=>match k with | 0=>2 ^ 90 | 1=>2 ^ 80+(iv0 1 - iv 26).toNat | 2=>2 ^ 80+(iv0 1 - iv 30).toNat | 3=>(iv 59+1).toNat * 2 ^ 30+2 ^ 20 | 4=>(iv 93+1).toNat * 2 ^ 30+2 ^ 20 | 5=>(iv 59+1).toNat * 2 ^ 30+(iv0 1 - iv 110).toNat | _=>(iv 117+1).toNat * 2 ^ 30+(iv0 1 - iv 116).toNat
theorem wOrd_b {iv0:Nat→Int} (hin:InB wOrd.B iv0):(0≤iv0 1∧iv0 1≤1000)∧0≤iv0 2∧((-9223372036854775808)≤iv0 4∧iv0 4≤9223372036854775807):=by
 have b1:=hin 1 0 1000 (by simp [wOrd,bW,gW,fM,lW,ap3,pb3,pb4,ints,mayV,i64s,i64b,kW,two,b2,lmap,lapp,bFo,cap64,fnO,ap60,ap61,oNo,oOrd,kU])
 simp only [Int.reduceLE,reduceIte,Int.reduceNeg] at b1
 have b2:=hin 2 0 (-1) (by simp [wOrd,bW,gW,fM,lW,ap3,pb3,pb4,ints,mayV,i64s,i64b,kW,two,b2,lmap,lapp,bFo,cap64,fnO,ap60,ap61,oNo,oOrd,kU])
 simp only [Int.reduceLE,reduceIte,Int.reduceNeg] at b2
 have b4:=hin 4 (-9223372036854775808) 9223372036854775807 (by simp [wOrd,bW,gW,fM,lW,ap3,pb3,pb4,ints,mayV,i64s,i64b,kW,two,b2,lmap,lapp,bFo,cap64,fnO,ap60,ap61,oNo,oOrd,kU])
 simp only [Int.reduceLE,reduceIte,Int.reduceNeg] at b4
 exact ⟨b1,b2.1,b4⟩
def wOrd_ob (k:Nat) (l:List Lf):Prop:=∀ (kv:Kv) (iv0:Nat→Int) (bv0:Nat→Bool),InB wOrd.B iv0→FT (sta FI FB kv iv0 bv0) (dlt dyn0) wOrd.F→∀ (iv:Nat→Int) (bv:Nat→Bool),Agr 5 iv0 bv0 iv bv→wOrd_inv iv0 bv0 k iv bv→∀ lf∈l,LfT (sta FI FB kv) wOrd.os (wOrd_inv iv0 bv0) (wOrd_mu iv0 bv0) k iv bv lf
theorem wOrd_o0:wOrd_ob 0 wOrd_L0:=by
 intro kv iv0 bv0 hin hF iv bv ha hi
 unfold wOrd_L0
 refine List.forall_mem_cons.2 ⟨?_,List.forall_mem_nil _⟩
 all_goals
  intro δ hf
 all_goals
  obtain ⟨b1,b2,b4⟩:=wOrd_b hin
 all_goals
  have a0:=ha.1 0 (by omega)
  have a1:=ha.1 1 (by omega)
  have a2:=ha.1 2 (by omega)
  have a3:=ha.1 3 (by omega)
  have a4:=ha.1 4 (by omega)
 all_goals
  simp only [FT,TP,SB.tp,SI.tv,sta,IB.eval,and_true,true_and,ObsT,Ob.Tv,rowT,kix,In.tiv,↓tbvT,In.tbv,get_cons,get_nil,reduceIte,Nat.reduceEqDiff,Int.reduceToNat,Int.reduceAdd,Int.reduceSub,Int.reduceLE,Int.reduceLT,Int.reduceEq,ne_eq,Bool.false_eq_true,not_true_eq_false,not_false_eq_true,true_iff,false_iff,iff_true,iff_false,false_implies,implies_true,decT,decide_true,decide_false,Bool.decide_eq_true,ap2,pb2,FI_3,FI_8,FI_9,FI_30,FB_30,FI_3g,FI_8m,Int.toNat_natCast,Int.toNat_zero,FI_61,wOrd_inv,wOrd_mu,wOrd,o1,othT,bW,gW,fM,lW,ap3,pb3,pb4,ints,mayV,i64s,i64b,kW,two,b2,lmap,lapp,bFo,cap64,fnO,ap60,ap61,oNo,oOrd,kU,a0,a1,a2,a3,a4] at hf hi ⊢
 all_goals
  (repeat' (with_reducible apply And.intro))<;>first
  | omega
  | assumption
  | (unfold inM;omega)
  | (exact refA_0)
theorem wOrd_o1:wOrd_ob 1 wOrd_L1:=by
 intro kv iv0 bv0 hin hF iv bv ha hi
 unfold wOrd_L1
 refine List.forall_mem_cons.2 ⟨?_,List.forall_mem_cons.2 ⟨?_,List.forall_mem_cons.2 ⟨?_,List.forall_mem_nil _⟩⟩⟩
 all_goals
  intro δ hf
 all_goals
  obtain ⟨b1,b2,b4⟩:=wOrd_b hin
 all_goals
  have a0:=ha.1 0 (by omega)
  have a1:=ha.1 1 (by omega)
  have a2:=ha.1 2 (by omega)
  have a3:=ha.1 3 (by omega)
  have a4:=ha.1 4 (by omega)
 all_goals
  simp only [FT,TP,SB.tp,SI.tv,sta,IB.eval,and_true,true_and,ObsT,Ob.Tv,rowT,kix,In.tiv,↓tbvT,In.tbv,get_cons,get_nil,reduceIte,Nat.reduceEqDiff,Int.reduceToNat,Int.reduceAdd,Int.reduceSub,Int.reduceLE,Int.reduceLT,Int.reduceEq,ne_eq,Bool.false_eq_true,not_true_eq_false,not_false_eq_true,true_iff,false_iff,iff_true,iff_false,false_implies,implies_true,decT,decide_true,decide_false,Bool.decide_eq_true,ap2,pb2,FI_3,FI_8,FI_9,FI_30,FB_30,FI_3g,FI_8m,Int.toNat_natCast,Int.toNat_zero,FI_61,wOrd_inv,wOrd_mu,wOrd,o1,othT,bW,gW,fM,lW,ap3,pb3,pb4,ints,mayV,i64s,i64b,kW,two,b2,lmap,lapp,bFo,cap64,fnO,ap60,ap61,oNo,oOrd,kU,a0,a1,a2,a3,a4] at hf hi ⊢
 all_goals
  obtain ⟨g0,g1,g2⟩:=hi
 all_goals
  have hR:rgtW (iv0 0) (iv0 1):=(by first | exact hf | exact hf.1 | exact hf.2.1 | exact hf.2.2.1 | exact hf.2.2.2.1 | exact hf.2.2.2.2.1 | exact hf.2.2.2.2.2.1 | exact hf.2.2.2.2.2.2.1 | exact hf.2.2.2.2.2.2.2.1 | exact hf.2.2.2.2.2.2.2.2.1 | exact hf.2.2.2.2.2.2.2.2.2.1 | exact hf.2.2.2.2.2.2.2.2.2.2.1 | exact hf.2.2.2.2.2.2.2.2.2.2.2.1)
 all_goals
  have hRn:=hR.1
 all_goals
  (repeat' (with_reducible apply And.intro))<;>first
  | omega
  | assumption
  | (unfold inM;omega)
  | (rw [refA_no (by omega) (by omega)];exact g2)
  | (rw [refA_go (by omega) (by omega),g2,lst_one (by omega)];rfl)
  | (exact set_one (by omega))
  | (rw [show iv 26=iv0 1 by omega] at g2;rw [refP_3];exact g2)
theorem wOrd_o2:wOrd_ob 2 wOrd_L2:=by
 intro kv iv0 bv0 hin hF iv bv ha hi
 unfold wOrd_L2
 refine List.forall_mem_cons.2 ⟨?_,List.forall_mem_cons.2 ⟨?_,List.forall_mem_cons.2 ⟨?_,List.forall_mem_nil _⟩⟩⟩
 all_goals
  intro δ hf
 all_goals
  obtain ⟨b1,b2,b4⟩:=wOrd_b hin
 all_goals
  have a0:=ha.1 0 (by omega)
  have a1:=ha.1 1 (by omega)
  have a2:=ha.1 2 (by omega)
  have a3:=ha.1 3 (by omega)
  have a4:=ha.1 4 (by omega)
 all_goals
  simp only [FT,TP,SB.tp,SI.tv,sta,IB.eval,and_true,true_and,ObsT,Ob.Tv,rowT,kix,In.tiv,↓tbvT,In.tbv,get_cons,get_nil,reduceIte,Nat.reduceEqDiff,Int.reduceToNat,Int.reduceAdd,Int.reduceSub,Int.reduceLE,Int.reduceLT,Int.reduceEq,ne_eq,Bool.false_eq_true,not_true_eq_false,not_false_eq_true,true_iff,false_iff,iff_true,iff_false,false_implies,implies_true,decT,decide_true,decide_false,Bool.decide_eq_true,ap2,pb2,FI_3,FI_8,FI_9,FI_30,FB_30,FI_3g,FI_8m,Int.toNat_natCast,Int.toNat_zero,FI_61,wOrd_inv,wOrd_mu,wOrd,o1,othT,bW,gW,fM,lW,ap3,pb3,pb4,ints,mayV,i64s,i64b,kW,two,b2,lmap,lapp,bFo,cap64,fnO,ap60,ap61,oNo,oOrd,kU,a0,a1,a2,a3,a4] at hf hi ⊢
 all_goals
  obtain ⟨g0,g1,g2,g3,g4⟩:=hi
 all_goals
  have hR:rgtW (iv0 0) (iv0 1):=(by first | exact hf | exact hf.1 | exact hf.2.1 | exact hf.2.2.1 | exact hf.2.2.2.1 | exact hf.2.2.2.2.1 | exact hf.2.2.2.2.2.1 | exact hf.2.2.2.2.2.2.1 | exact hf.2.2.2.2.2.2.2.1 | exact hf.2.2.2.2.2.2.2.2.1 | exact hf.2.2.2.2.2.2.2.2.2.1 | exact hf.2.2.2.2.2.2.2.2.2.2.1 | exact hf.2.2.2.2.2.2.2.2.2.2.2.1)
 all_goals
  have hRn:=hR.1
 all_goals
  (repeat' (with_reducible apply And.intro))<;>first
  | omega
  | assumption
  | (unfold inM;omega)
  | (rw [refA_no (by omega) (by omega)];exact g4)
  | (rw [refA_go (by omega) (by omega),← g4];exact lst_app (by omega) (by omega))
  | (rw [show iv 30=iv0 1 by omega] at g4;rw [refP_3];exact g4)
theorem wOrd_o3:wOrd_ob 3 wOrd_L3:=by
 intro kv iv0 bv0 hin hF iv bv ha hi
 unfold wOrd_L3
 refine List.forall_mem_cons.2 ⟨?_,List.forall_mem_cons.2 ⟨?_,List.forall_mem_nil _⟩⟩
 all_goals
  intro δ hf
 all_goals
  obtain ⟨b1,b2,b4⟩:=wOrd_b hin
 all_goals
  have a0:=ha.1 0 (by omega)
  have a1:=ha.1 1 (by omega)
  have a2:=ha.1 2 (by omega)
  have a3:=ha.1 3 (by omega)
  have a4:=ha.1 4 (by omega)
 all_goals
  simp only [FT,TP,SB.tp,SI.tv,sta,IB.eval,and_true,true_and,ObsT,Ob.Tv,rowT,kix,In.tiv,↓tbvT,In.tbv,get_cons,get_nil,reduceIte,Nat.reduceEqDiff,Int.reduceToNat,Int.reduceAdd,Int.reduceSub,Int.reduceLE,Int.reduceLT,Int.reduceEq,ne_eq,Bool.false_eq_true,not_true_eq_false,not_false_eq_true,true_iff,false_iff,iff_true,iff_false,false_implies,implies_true,decT,decide_true,decide_false,Bool.decide_eq_true,ap2,pb2,FI_3,FI_8,FI_9,FI_30,FB_30,FI_3g,FI_8m,Int.toNat_natCast,Int.toNat_zero,FI_61,wOrd_inv,wOrd_mu,wOrd,o1,othT,bW,gW,fM,lW,ap3,pb3,pb4,ints,mayV,i64s,i64b,kW,two,b2,lmap,lapp,bFo,cap64,fnO,ap60,ap61,oNo,oOrd,kU,a0,a1,a2,a3,a4] at hf hi ⊢
 all_goals
  obtain ⟨g0,g1,g2⟩:=hi
 all_goals
  have hR:rgtW (iv0 0) (iv0 1):=(by first | exact hf | exact hf.1 | exact hf.2.1 | exact hf.2.2.1 | exact hf.2.2.2.1 | exact hf.2.2.2.2.1 | exact hf.2.2.2.2.2.1 | exact hf.2.2.2.2.2.2.1 | exact hf.2.2.2.2.2.2.2.1 | exact hf.2.2.2.2.2.2.2.2.1 | exact hf.2.2.2.2.2.2.2.2.2.1 | exact hf.2.2.2.2.2.2.2.2.2.2.1 | exact hf.2.2.2.2.2.2.2.2.2.2.2.1)
 all_goals
  have hRn:=hR.1
 all_goals
  (repeat' (with_reducible apply And.intro))<;>first
  | omega
  | assumption
  | (unfold inM;omega)
  | (rw [g2];rfl)
  | (have e1:iv 59=-1:=(by omega);rw [e1] at g2;exact absurd (ord_nil hR g2) (by omega))
  | (have e1:iv 59=-1:=(by omega);rw [e1] at g2;exact fun _ h=>ord_nil hR g2 h)
theorem wOrd_o4:wOrd_ob 4 wOrd_L4:=by
 intro kv iv0 bv0 hin hF iv bv ha hi
 unfold wOrd_L4
 refine List.forall_mem_cons.2 ⟨?_,List.forall_mem_cons.2 ⟨?_,List.forall_mem_nil _⟩⟩
 all_goals
  intro δ hf
 all_goals
  obtain ⟨b1,b2,b4⟩:=wOrd_b hin
 all_goals
  have a0:=ha.1 0 (by omega)
  have a1:=ha.1 1 (by omega)
  have a2:=ha.1 2 (by omega)
  have a3:=ha.1 3 (by omega)
  have a4:=ha.1 4 (by omega)
 all_goals
  simp only [FT,TP,SB.tp,SI.tv,sta,IB.eval,and_true,true_and,ObsT,Ob.Tv,rowT,kix,In.tiv,↓tbvT,In.tbv,get_cons,get_nil,reduceIte,Nat.reduceEqDiff,Int.reduceToNat,Int.reduceAdd,Int.reduceSub,Int.reduceLE,Int.reduceLT,Int.reduceEq,ne_eq,Bool.false_eq_true,not_true_eq_false,not_false_eq_true,true_iff,false_iff,iff_true,iff_false,false_implies,implies_true,decT,decide_true,decide_false,Bool.decide_eq_true,ap2,pb2,FI_3,FI_8,FI_9,FI_30,FB_30,FI_3g,FI_8m,Int.toNat_natCast,Int.toNat_zero,FI_61,wOrd_inv,wOrd_mu,wOrd,o1,othT,bW,gW,fM,lW,ap3,pb3,pb4,ints,mayV,i64s,i64b,kW,two,b2,lmap,lapp,bFo,cap64,fnO,ap60,ap61,oNo,oOrd,kU,a0,a1,a2,a3,a4] at hf hi ⊢
 all_goals
  obtain ⟨g0,g1,g2,g3,g4⟩:=hi
 all_goals
  have hR:rgtW (iv0 0) (iv0 1):=(by first | exact hf | exact hf.1 | exact hf.2.1 | exact hf.2.2.1 | exact hf.2.2.2.1 | exact hf.2.2.2.2.1 | exact hf.2.2.2.2.2.1 | exact hf.2.2.2.2.2.2.1 | exact hf.2.2.2.2.2.2.2.1 | exact hf.2.2.2.2.2.2.2.2.1 | exact hf.2.2.2.2.2.2.2.2.2.1 | exact hf.2.2.2.2.2.2.2.2.2.2.1 | exact hf.2.2.2.2.2.2.2.2.2.2.2.1)
 all_goals
  have hRn:=hR.1
 all_goals
  (repeat' (with_reducible apply And.intro))<;>first
  | omega
  | assumption
  | (unfold inM;omega)
  | (rw [g4];exact (List.append_nil _).symm)
  | (have e1:iv 93=-1:=(by omega);rw [e1] at g4;obtain ⟨k1,k2⟩:=ord_fin hR (by omega) (by omega) g4;first | omega | exact k2 | (intro j hj;exact k2 j (by omega)) | (intros;omega))
theorem wOrd_o5:wOrd_ob 5 wOrd_L5:=by
 intro kv iv0 bv0 hin hF iv bv ha hi
 unfold wOrd_L5
 refine List.forall_mem_cons.2 ⟨?_,List.forall_mem_cons.2 ⟨?_,List.forall_mem_cons.2 ⟨?_,List.forall_mem_cons.2 ⟨?_,List.forall_mem_nil _⟩⟩⟩⟩
 all_goals
  intro δ hf
 all_goals
  obtain ⟨b1,b2,b4⟩:=wOrd_b hin
 all_goals
  have a0:=ha.1 0 (by omega)
  have a1:=ha.1 1 (by omega)
  have a2:=ha.1 2 (by omega)
  have a3:=ha.1 3 (by omega)
  have a4:=ha.1 4 (by omega)
 all_goals
  simp only [FT,TP,SB.tp,SI.tv,sta,IB.eval,and_true,true_and,ObsT,Ob.Tv,rowT,kix,In.tiv,↓tbvT,In.tbv,get_cons,get_nil,reduceIte,Nat.reduceEqDiff,Int.reduceToNat,Int.reduceAdd,Int.reduceSub,Int.reduceLE,Int.reduceLT,Int.reduceEq,ne_eq,Bool.false_eq_true,not_true_eq_false,not_false_eq_true,true_iff,false_iff,iff_true,iff_false,false_implies,implies_true,decT,decide_true,decide_false,Bool.decide_eq_true,ap2,pb2,FI_3,FI_8,FI_9,FI_30,FB_30,FI_3g,FI_8m,Int.toNat_natCast,Int.toNat_zero,FI_61,wOrd_inv,wOrd_mu,wOrd,o1,othT,bW,gW,fM,lW,ap3,pb3,pb4,ints,mayV,i64s,i64b,kW,two,b2,lmap,lapp,bFo,cap64,fnO,ap60,ap61,oNo,oOrd,kU,a0,a1,a2,a3,a4] at hf hi ⊢
 all_goals
  obtain ⟨g0,g1,g2,g3,g4⟩:=hi
 all_goals
  have hR:rgtW (iv0 0) (iv0 1):=(by first | exact hf | exact hf.1 | exact hf.2.1 | exact hf.2.2.1 | exact hf.2.2.2.1 | exact hf.2.2.2.2.1 | exact hf.2.2.2.2.2.1 | exact hf.2.2.2.2.2.2.1 | exact hf.2.2.2.2.2.2.2.1 | exact hf.2.2.2.2.2.2.2.2.1 | exact hf.2.2.2.2.2.2.2.2.2.1 | exact hf.2.2.2.2.2.2.2.2.2.2.1 | exact hf.2.2.2.2.2.2.2.2.2.2.2.1)
 all_goals
  have hRn:=hR.1
 all_goals
  (repeat' (with_reducible apply And.intro))<;>first
  | omega
  | assumption
  | (unfold inM;omega)
  | (rw [refF_no (by omega) (by omega)];exact g4)
  | (rw [refF_go (by omega) (by omega) (by omega),← List.append_assoc,g4,lst_one (by omega)];rfl)
  | (exact set_one (by omega))
  | (rw [show iv 110=iv0 1 by omega] at g4;rw [show iv 59+-1=iv 59 - 1 by omega,refP_down (by omega)];exact g4)
theorem wOrd_o6:wOrd_ob 6 wOrd_L6:=by
 intro kv iv0 bv0 hin hF iv bv ha hi
 unfold wOrd_L6
 refine List.forall_mem_cons.2 ⟨?_,List.forall_mem_cons.2 ⟨?_,List.forall_mem_cons.2 ⟨?_,List.forall_mem_cons.2 ⟨?_,List.forall_mem_nil _⟩⟩⟩⟩
 all_goals
  intro δ hf
 all_goals
  obtain ⟨b1,b2,b4⟩:=wOrd_b hin
 all_goals
  have a0:=ha.1 0 (by omega)
  have a1:=ha.1 1 (by omega)
  have a2:=ha.1 2 (by omega)
  have a3:=ha.1 3 (by omega)
  have a4:=ha.1 4 (by omega)
 all_goals
  simp only [FT,TP,SB.tp,SI.tv,sta,IB.eval,and_true,true_and,ObsT,Ob.Tv,rowT,kix,In.tiv,↓tbvT,In.tbv,get_cons,get_nil,reduceIte,Nat.reduceEqDiff,Int.reduceToNat,Int.reduceAdd,Int.reduceSub,Int.reduceLE,Int.reduceLT,Int.reduceEq,ne_eq,Bool.false_eq_true,not_true_eq_false,not_false_eq_true,true_iff,false_iff,iff_true,iff_false,false_implies,implies_true,decT,decide_true,decide_false,Bool.decide_eq_true,ap2,pb2,FI_3,FI_8,FI_9,FI_30,FB_30,FI_3g,FI_8m,Int.toNat_natCast,Int.toNat_zero,FI_61,wOrd_inv,wOrd_mu,wOrd,o1,othT,bW,gW,fM,lW,ap3,pb3,pb4,ints,mayV,i64s,i64b,kW,two,b2,lmap,lapp,bFo,cap64,fnO,ap60,ap61,oNo,oOrd,kU,a0,a1,a2,a3,a4] at hf hi ⊢
 all_goals
  obtain ⟨g0,g1,g2,g3,g4,g5,g6⟩:=hi
 all_goals
  have hR:rgtW (iv0 0) (iv0 1):=(by first | exact hf | exact hf.1 | exact hf.2.1 | exact hf.2.2.1 | exact hf.2.2.2.1 | exact hf.2.2.2.2.1 | exact hf.2.2.2.2.2.1 | exact hf.2.2.2.2.2.2.1 | exact hf.2.2.2.2.2.2.2.1 | exact hf.2.2.2.2.2.2.2.2.1 | exact hf.2.2.2.2.2.2.2.2.2.1 | exact hf.2.2.2.2.2.2.2.2.2.2.1 | exact hf.2.2.2.2.2.2.2.2.2.2.2.1)
 all_goals
  have hRn:=hR.1
 all_goals
  (repeat' (with_reducible apply And.intro))<;>first
  | omega
  | assumption
  | (unfold inM;omega)
  | (rw [refF_no (by omega) (by omega)];exact g6)
  | (rw [refF_go (by omega) (by omega) (by omega),← List.append_assoc,← g6];exact lst_app (by omega) (by omega))
  | (rw [show iv 116=iv0 1 by omega] at g6;rw [show iv 117+-1=iv 117 - 1 by omega,refP_down (by omega)];exact g6)
theorem wOrd_c:LsC ((tm0 wOrd Try.f64 (Try.f64.body.getD .skip))::[wOrd_T1,wOrd_T2,wOrd_T3,wOrd_T4,wOrd_T5,wOrd_T6]) wOrd.os [wOrd_L0,wOrd_L1,wOrd_L2,wOrd_L3,wOrd_L4,wOrd_L5,wOrd_L6]:=by
 unfold wOrd_L0 wOrd_L1 wOrd_L2 wOrd_L3 wOrd_L4 wOrd_L5 wOrd_L6
 exact ⟨List.forall_mem_cons.2 ⟨⟨⟨_,rfl,rfl⟩,by kernel_rfl⟩,List.forall_mem_nil _⟩,List.forall_mem_cons.2 ⟨⟨⟨_,rfl,rfl⟩,by kernel_rfl⟩,List.forall_mem_cons.2 ⟨⟨⟨_,rfl,rfl⟩,by kernel_rfl⟩,List.forall_mem_cons.2 ⟨⟨⟨_,rfl,rfl⟩,by kernel_rfl⟩,List.forall_mem_nil _⟩⟩⟩,List.forall_mem_cons.2 ⟨⟨⟨_,rfl,rfl⟩,by kernel_rfl⟩,List.forall_mem_cons.2 ⟨⟨⟨_,rfl,rfl⟩,by kernel_rfl⟩,List.forall_mem_cons.2 ⟨⟨⟨_,rfl,rfl⟩,by kernel_rfl⟩,List.forall_mem_nil _⟩⟩⟩,List.forall_mem_cons.2 ⟨⟨⟨_,rfl,rfl⟩,by kernel_rfl⟩,List.forall_mem_cons.2 ⟨⟨⟨_,rfl,rfl⟩,by kernel_rfl⟩,List.forall_mem_nil _⟩⟩,List.forall_mem_cons.2 ⟨⟨⟨_,rfl,rfl⟩,by kernel_rfl⟩,List.forall_mem_cons.2 ⟨⟨⟨_,rfl,rfl⟩,by kernel_rfl⟩,List.forall_mem_nil _⟩⟩,List.forall_mem_cons.2 ⟨⟨⟨_,rfl,rfl⟩,by kernel_rfl⟩,List.forall_mem_cons.2 ⟨⟨⟨_,rfl,rfl⟩,by kernel_rfl⟩,List.forall_mem_cons.2 ⟨⟨⟨_,rfl,rfl⟩,by kernel_rfl⟩,List.forall_mem_cons.2 ⟨⟨⟨_,rfl,rfl⟩,by kernel_rfl⟩,List.forall_mem_nil _⟩⟩⟩⟩,List.forall_mem_cons.2 ⟨⟨⟨_,rfl,rfl⟩,by kernel_rfl⟩,List.forall_mem_cons.2 ⟨⟨⟨_,rfl,rfl⟩,by kernel_rfl⟩,List.forall_mem_cons.2 ⟨⟨⟨_,rfl,rfl⟩,by kernel_rfl⟩,List.forall_mem_cons.2 ⟨⟨⟨_,rfl,rfl⟩,by kernel_rfl⟩,List.forall_mem_nil _⟩⟩⟩⟩,trivial⟩
theorem wOrd_ok:wOrd.Ok Try.prog FI FB:=
 Con.of_plain (body:=Try.f64.body.getD .skip) pok fiok EntsFor.nil wOrd Try.func64 (by kernel_rfl) 5 [wOrd_T1,wOrd_T2,wOrd_T3,wOrd_T4,wOrd_T5,wOrd_T6] (by kernel_rfl) [wOrd_L0,wOrd_L1,wOrd_L2,wOrd_L3,wOrd_L4,wOrd_L5,wOrd_L6] ⟨wOrd_h0,wOrd_h1,wOrd_h2,wOrd_h3,wOrd_h4,wOrd_h5,wOrd_h6,trivial⟩ wOrd_c
  wOrd_inv wOrd_mu (fun _ _ _=>trivial) fun kv iv0 bv0 hin hF k l iv bv hk ha hi=>match k,hk,hi with
  | 0,hk,hi=>by
    cases hk
    exact wOrd_o0 kv iv0 bv0 hin hF iv bv ha hi
  | 1,hk,hi=>by
    cases hk
    exact wOrd_o1 kv iv0 bv0 hin hF iv bv ha hi
  | 2,hk,hi=>by
    cases hk
    exact wOrd_o2 kv iv0 bv0 hin hF iv bv ha hi
  | 3,hk,hi=>by
    cases hk
    exact wOrd_o3 kv iv0 bv0 hin hF iv bv ha hi
  | 4,hk,hi=>by
    cases hk
    exact wOrd_o4 kv iv0 bv0 hin hF iv bv ha hi
  | 5,hk,hi=>by
    cases hk
    exact wOrd_o5 kv iv0 bv0 hin hF iv bv ha hi
  | 6,hk,hi=>by
    cases hk
    exact wOrd_o6 kv iv0 bv0 hin hF iv bv ha hi
  | k+7,hk,_=>by simp at hk
end
end Go.Sx.Mhw
