/- Sorting: by a heap; reversal; medians. -/
import Derived.Test.YtfgdpkceoadgjaaSoA
namespace Go.Sx.Mhw
set_option linter.unusedVariables false
set_option linter.unusedSimpArgs false
set_option maxRecDepth 100000
set_option maxHeartbeats 0
noncomputable section
open Go Go.Sx Go.Proofs
def uHea:Com:=⟨158,[0,1,2,3,4,5,6],[dU,.it .i64 (.v 5),.it .i64 (.v 6),cmpV],mU (.v 0),1,bU,(.le (.c 0) (.v 5),true)::(.le (.v 5) (.c 1000),true)::(.le (.c 0) (.v 6),true)::(.le (.v 6) (.c 1000),true)::leF 5 6::leF 6 1::fU,[⟨[],.tp [],mU (tU 43 (.v 5) (.v 6) (.v 4) (.c 0)),1,0,[]⟩],.c 0⟩
def uRev:Com:=⟨161,[0,1,2,3,4,5,6],[dU,.it .i64 (.v 5),.it .i64 (.v 6),cmpV],mU (.v 0),1,bU,(.le (.c 0) (.v 5),true)::(.le (.v 5) (.c 1000),true)::(.le (.c 0) (.v 6),true)::(.le (.v 6) (.c 1000),true)::ltF 5 6::leF 6 1::fU,[⟨[],.tp [],mU (tU 52 (.v 5) (.v 6) (.c 0) (.c 0)),1,0,[]⟩],.c 0⟩
def nu (i:Nat):Nat×Int×Int:=(i,0,100)
def mS:List (Nat×Bk):=[(0,.arr kU (.v 0) (.v 1) 158 (.v 3)),(1,.cells [.it .i64 (.v 8)] 3)]
def ltAt (i j:Nat):SB:=.lt (.ap 40 (.ap 3 (.v 0) (.v i) (.c 3) (.c 0) (.c 0) (.c 0)) (.ap 3 (.v 0) (.v i) (.c 5) (.c 0) (.c 0) (.c 0)) (.op .sub (.ap 3 (.v 0) (.v i) (.c 4) (.c 0) (.c 0) (.c 0)) (.v 4)) (.ap 3 (.v 0) (.v j) (.c 3) (.c 0) (.c 0) (.c 0)) (.ap 3 (.v 0) (.v j) (.c 5) (.c 0) (.c 0) (.c 0)) (.op .sub (.ap 3 (.v 0) (.v j) (.c 4) (.c 0) (.c 0) (.c 0)) (.v 4))) (.c 0)
def mS' (x:SI):List (Nat×Bk):=[(0,.arr kU (.v 0) (.v 1) 158 (.v 3)),(1,.cells [.it .i64 x] 3)]
def tM (f:Nat):SI:=.ap f (.v 0) (.v 1) (.v 5) (.v 6) (.v 7) (.v 4)
def uMed:Com:=⟨172,[0,1,2,3,4,5,6,7,8],[dU,.it .i64 (.v 5),.it .i64 (.v 6),.it .i64 (.v 7),.pt (.n 1) (.c 0),cmpV],mS,2,nu 8::bU,(.le (.c 0) (.v 5),true)::(.le (.v 5) (.c 1000),true)::(.le (.c 0) (.v 6),true)::(.le (.v 6) (.c 1000),true)::(.le (.c 0) (.v 7),true)::(.le (.v 7) (.c 1000),true)::ltF 5 1::ltF 6 1::ltF 7 1::fU,
 [⟨[],.it .i64 (tM 54),mS' (.op .add (.v 8) (tM 55)),2,0,[(.le (.c 0) (tM 54),true),(.lt (tM 54) (.v 1),true),(.le (tM 54) (.c 1000),true)]⟩],.c 0⟩
def tC (f:Nat):SI:=.ap f (.v 0) (.v 1) (.v 5) (.v 6) (.v 4) (.c 0)
def uChs:Com:=⟨160,[0,1,2,3,4,5,6],[dU,.it .i64 (.v 5),.it .i64 (.v 6),cmpV],mU (.v 0),1,bU,(.le (.c 0) (.v 5),true)::(.le (.v 5) (.c 1000),true)::(.le (.c 0) (.v 6),true)::(.le (.v 6) (.c 1000),true)::ltF 5 6::leF 6 1::fU,
 [⟨[],.tp [.it .i64 (tC 50),.it .i64 (tC 51)],mU (.v 0),1,0,[(.le (.v 5) (tC 50),true),(.lt (tC 50) (.v 6),true)]⟩],.c 0⟩
theorem size_sif (lt:Rw→Rw→Bool) (hi first root:Nat) (d:Array Rw):(Sort.siftDown lt hi first root d).size=d.size:=by
 fun_induction Sort.siftDown lt hi first root d<;>simp_all [Sort.swp_size]
theorem arr_sif {c n lo hi first lim:Int}:arrOf (sifU c n lo hi first lim) n=Sort.siftDown (ltU lim) hi.toNat first.toNat lo.toNat (arrOf c n):=arrOf_codeOf (by rw [size_sif,size_arrOf])
theorem tdiv2 {m:Int} (h:0≤m):(m+-1).tdiv 2=if m=0 then 0 else (m - 1) / 2:=by
 split
 ·rename_i e;subst e;decide
 ·rw [Int.tdiv_eq_ediv_of_nonneg (by omega)];rfl
theorem i64_in (x:Int) (h:-9223372036854775808≤x∧x≤9223372036854775807):IntKind.i64.wrap x=x:=wrap_in .i64 x h.1 h.2
theorem heapBuild_go (lt:Rw→Rw→Bool) {hi first i:Int} (d:Array Rw) (h:0≤i):Sort.heapBuild lt hi.toNat first.toNat (i+1).toNat d=Sort.heapBuild lt hi.toNat first.toNat i.toNat (Sort.siftDown lt hi.toNat first.toNat i.toNat d):=by
 rw [show (i+1).toNat=i.toNat+1 by omega];rfl
theorem heapPop_go (lt:Rw→Rw→Bool) {first i:Int} (d:Array Rw) (h:0≤i) (h0:0≤first):Sort.heapPop lt first.toNat (i+1).toNat d=Sort.heapPop lt first.toNat i.toNat (Sort.siftDown lt i.toNat first.toNat 0 (Sort.swp d first.toNat (first+i).toNat)):=by
 rw [show (i+1).toNat=i.toNat+1 by omega,show (first+i).toNat=first.toNat+i.toNat by omega];rfl
theorem reverse_go (i j:Nat) (d:Array Rw) (h:i < j):Sort.reverseLoop i j d=Sort.reverseLoop (i+1) (j - 1) (Sort.swp d i j):=by
 rw [Sort.reverseLoop,if_pos h]
theorem reverse_end (i j:Nat) (d:Array Rw) (h:¬ i < j):Sort.reverseLoop i j d=d:=by
 rw [Sort.reverseLoop,if_neg h]
def uHea_T1:Tm:=⟨⟨158,60,[(11,(.it .i64 (.v 27))),(10,(.it .i64 (.op .sub (.v 6) (.v 5)))),(9,(.it .i64 (.c 0))),(8,(.it .i64 (.v 5))),(0,(.sl (.n 0) (.c 0) (.v 1) (.v 2))),(3,(.fn 117 [(.it .i64 (.v 4))] []))],[(.code (atC Try.f158 [1,1,1,0,1,0,0])),(.inLoop (atC Try.f158 [1,1,1,0,1,0,0])),(.inBlock 0),(.code (atC Try.f158 [1,1,1,1]))],[],.none⟩,[],
    ⟨[(0,(.arr [(.nt .i64),(.nt .i64),(.nt .i64),(.nt .i64),(.nt .i64),(.nt .i64)] (.v 28) (.v 1) 158 (.v 3)))],1,0,0,[((.le (.c 0) (.v 5)),.true),((.le (.v 5) (.c 1000)),.true),((.le (.c 0) (.v 6)),.true),((.le (.v 6) (.c 1000)),.true),((.le (.v 5) (.v 6)),.true),((.le (.v 6) (.v 1)),.true),((.le (.v 1) (.v 2)),.true),((.le (.v 1) (.v 3)),.true)],[0],[(5,(0,1000)),(6,(0,1000)),(1,(0,1000)),(3,(0,(-1))),(4,((-9223372036854775808),9223372036854775807)),(27,((-1),1000))]⟩,[27,28]⟩
def uHea_T2:Tm:=⟨⟨158,60,[(12,(.it .i64 (.v 29))),(9,(.it .i64 (.c 0))),(8,(.it .i64 (.v 5))),(0,(.sl (.n 0) (.c 0) (.v 1) (.v 2))),(3,(.fn 117 [(.it .i64 (.v 4))] []))],[(.code (atC Try.f158 [1,1,1,1,1,0,0])),(.inLoop (atC Try.f158 [1,1,1,1,1,0,0])),(.inBlock 2)],[],.none⟩,[],
    ⟨[(0,(.arr [(.nt .i64),(.nt .i64),(.nt .i64),(.nt .i64),(.nt .i64),(.nt .i64)] (.v 30) (.v 1) 158 (.v 3)))],1,0,0,[((.le (.c 0) (.v 27)),.false),((.le (.c 0) (.v 5)),.true),((.le (.v 5) (.c 1000)),.true),((.le (.c 0) (.v 6)),.true),((.le (.v 6) (.c 1000)),.true),((.le (.v 5) (.v 6)),.true),((.le (.v 6) (.v 1)),.true),((.le (.v 1) (.v 2)),.true),((.le (.v 1) (.v 3)),.true)],[0],[(5,(0,1000)),(6,(0,1000)),(1,(0,1000)),(3,(0,(-1))),(4,((-9223372036854775808),9223372036854775807)),(29,((-1),1000))]⟩,[29,30]⟩
def uHea_L0:List Lf:=
 let x0_:SI:=(.op .tdiv (.op .add (.op .sub (.v 6) (.v 5)) (.c (-1))) (.c 2))
 [(let i_:In:=⟨⟨[(28,(.v 0)),(27,(.wk .i64 x0_))],[]⟩,[(0,0)],[],[]⟩;.cut ([((.le (.c 0) (.v 5)),.true),((.le (.v 5) (.c 1000)),.true),((.le (.c 0) (.v 6)),.true),((.le (.v 6) (.c 1000)),.true),((.le (.v 5) (.v 6)),.true),((.le (.v 6) (.v 1)),.true),((.le (.v 1) (.v 2)),.true),((.le (.v 1) (.v 3)),.true)]) 1 i_ [(.rn (.wk .i64 x0_) (-1) 1000)] (shT uHea_T1 i_))]
def uHea_L1:List Lf:=
 let x0_:SI:=(.op .sub (.v 6) (.v 5))
 let f0_:List (SB×Bool):=[((.le (.c 0) (.v 5)),.true),((.le (.v 5) (.c 1000)),.true),((.le (.c 0) (.v 6)),.true),((.le (.v 6) (.c 1000)),.true),((.le (.v 5) (.v 6)),.true),((.le (.v 6) (.v 1)),.true),((.le (.v 1) (.v 2)),.true),((.le (.v 1) (.v 3)),.true)]
 let f1_:List (SB×Bool):=((.le (.c 0) (.v 27)),.true)::f0_
 [(let i_:In:=⟨⟨[(28,(.ap 42 (.v 28) (.v 1) (.v 27) x0_ (.v 5) (.v 4))),(27,(.op .add (.v 27) (.c (-1))))],[]⟩,[(0,0)],[],[]⟩;.cut (((.le (.v 27) x0_),.true)::f1_) 1 i_ [] (shT uHea_T1 i_)),
  (.bad (((.le (.v 27) x0_),.false)::f1_)),
  (let i_:In:=⟨⟨[(30,(.v 28)),(29,(.op .add x0_ (.c (-1))))],[]⟩,[(0,0)],[],[]⟩;.cut (((.le (.c 0) (.v 27)),.false)::f0_) 2 i_ [(.rn (.op .add x0_ (.c (-1))) (-1) 1000)] (shT uHea_T2 i_))]
def uHea_L2:List Lf:=
 let x0_:SI:=(.op .add (.v 5) (.v 29))
 let f0_:List (SB×Bool):=[((.le (.c 0) (.v 27)),.false),((.le (.c 0) (.v 5)),.true),((.le (.v 5) (.c 1000)),.true),((.le (.c 0) (.v 6)),.true),((.le (.v 6) (.c 1000)),.true),((.le (.v 5) (.v 6)),.true),((.le (.v 6) (.v 1)),.true),((.le (.v 1) (.v 2)),.true),((.le (.v 1) (.v 3)),.true)]
 let f1_:List (SB×Bool):=((.le (.c 0) (.v 29)),.true)::f0_
 [(let i_:In:=⟨⟨[(30,(.ap 42 (.ap 8 (.ap 8 (.ap 8 (.ap 8 (.ap 8 (.ap 8 (.ap 8 (.ap 8 (.ap 8 (.ap 8 (.ap 8 (.ap 8 (.v 30) (.v 5) (.c 0) (.ap 3 (.v 30) x0_ (.c 0) (.c 0) (.c 0) (.c 0)) (.c 0) (.c 0)) (.v 5) (.c 1) (.ap 3 (.v 30) x0_ (.c 1) (.c 0) (.c 0) (.c 0)) (.c 0) (.c 0)) (.v 5) (.c 2) (.ap 3 (.v 30) x0_ (.c 2) (.c 0) (.c 0) (.c 0)) (.c 0) (.c 0)) (.v 5) (.c 3) (.ap 3 (.v 30) x0_ (.c 3) (.c 0) (.c 0) (.c 0)) (.c 0) (.c 0)) (.v 5) (.c 4) (.ap 3 (.v 30) x0_ (.c 4) (.c 0) (.c 0) (.c 0)) (.c 0) (.c 0)) (.v 5) (.c 5) (.ap 3 (.v 30) x0_ (.c 5) (.c 0) (.c 0) (.c 0)) (.c 0) (.c 0)) x0_ (.c 0) (.ap 3 (.v 30) (.v 5) (.c 0) (.c 0) (.c 0) (.c 0)) (.c 0) (.c 0)) x0_ (.c 1) (.ap 3 (.v 30) (.v 5) (.c 1) (.c 0) (.c 0) (.c 0)) (.c 0) (.c 0)) x0_ (.c 2) (.ap 3 (.v 30) (.v 5) (.c 2) (.c 0) (.c 0) (.c 0)) (.c 0) (.c 0)) x0_ (.c 3) (.ap 3 (.v 30) (.v 5) (.c 3) (.c 0) (.c 0) (.c 0)) (.c 0) (.c 0)) x0_ (.c 4) (.ap 3 (.v 30) (.v 5) (.c 4) (.c 0) (.c 0) (.c 0)) (.c 0) (.c 0)) x0_ (.c 5) (.ap 3 (.v 30) (.v 5) (.c 5) (.c 0) (.c 0) (.c 0)) (.c 0) (.c 0)) (.v 1) (.c 0) (.v 29) (.v 5) (.v 4))),(29,(.op .add (.v 29) (.c (-1))))],[]⟩,[(0,0)],[],[]⟩;.cut (((.lt x0_ (.v 1)),.true)::f1_) 2 i_ [] (shT uHea_T2 i_)),
  (.bad (((.lt x0_ (.v 1)),.false)::f1_)),
  (.fin (((.le (.c 0) (.v 29)),.false)::f0_) 0 ⟨⟨[],[]⟩,[(0,0)],[],[]⟩ [(.ar [(.nt .i64),(.nt .i64),(.nt .i64),(.nt .i64),(.nt .i64),(.nt .i64)] (.ap 43 (.v 0) (.v 1) (.v 5) (.v 6) (.v 4) (.c 0)) (.v 30) (.v 1))] [.none])]
def uHea_run (T:Tm):=(ex (ccM Try.prog BF [58,84]) ((fun cc=>[uCmp.ent cc,uSif.ent cc]) (ccM Try.prog BF [58,84])) (dw (ccM Try.prog BF [58,84]) ((fun cc=>[uCmp.ent cc,uSif.ent cc]) (ccM Try.prog BF [58,84])) 1000 4) (stopX []) 4000 T.f T.fs T.H).lfsM 1 (ccM Try.prog BF [58,84]) ((tmM uHea Try.f158 (Try.f158.body.getD .skip))::[uHea_T1,uHea_T2]) uHea.os
theorem uHea_h0:uHea_run (tmM uHea Try.f158 (Try.f158.body.getD .skip))=some uHea_L0:=by kernel_rfl
theorem uHea_h1:uHea_run uHea_T1=some uHea_L1:=by kernel_rfl
theorem uHea_h2:uHea_run uHea_T2=some uHea_L2:=by kernel_rfl
def uHea_inv:(Nat→Int)→(Nat→Bool)→Nat→(Nat→Int)→(Nat→Bool)→Prop:=fun iv0 _ k iv _=>match k with
 | 0=>True
 | 1=>0≤iv0 5∧-1≤iv 27∧(iv 27 < iv0 6 - iv0 5∨iv 27=0)∧Sort.heapPop (ltU (iv0 4)) (iv0 5).toNat ((iv0 6).toNat - (iv0 5).toNat) (Sort.heapBuild (ltU (iv0 4)) (iv0 6 - iv0 5).toNat (iv0 5).toNat (iv 27+1).toNat (arrOf (iv 28) (iv0 1)))=Sort.heapSort (ltU (iv0 4)) (arrOf (iv0 0) (iv0 1)) (iv0 5).toNat (iv0 6).toNat
 | _=>0≤iv0 5∧-1≤iv 29∧iv 29 < iv0 6 - iv0 5∧Sort.heapPop (ltU (iv0 4)) (iv0 5).toNat (iv 29+1).toNat (arrOf (iv 30) (iv0 1))=Sort.heapSort (ltU (iv0 4)) (arrOf (iv0 0) (iv0 1)) (iv0 5).toNat (iv0 6).toNat
def uHea_mu:(Nat→Int)→(Nat→Bool)→Nat→(Nat→Int)→(Nat→Bool)→Nat:=fun iv0 _ k iv _=>match k with | 0=>2 ^ 90 | 1=>2 ^ 80+(iv 27+1).toNat | _=>(iv 29+1).toNat
theorem uHea_b {iv0:Nat→Int} (hin:InB uHea.B iv0):(0≤iv0 1∧iv0 1≤1000)∧((-9223372036854775808)≤iv0 4∧iv0 4≤9223372036854775807):=by
 have b1:=hin 1 0 1000 (by simp [uHea,kU,ints,i64s,lmap,i64b,dU,cmpV,mU,bU,fU,leF,ltF,tU,nu,mS,ltAt,mS',tM,tC])
 simp only [Int.reduceLE,reduceIte,Int.reduceNeg] at b1
 have b4:=hin 4 (-9223372036854775808) 9223372036854775807 (by simp [uHea,kU,ints,i64s,lmap,i64b,dU,cmpV,mU,bU,fU,leF,ltF,tU,nu,mS,ltAt,mS',tM,tC])
 simp only [Int.reduceLE,reduceIte,Int.reduceNeg] at b4
 exact ⟨b1,b4⟩
def uHea_ob (k:Nat) (l:List Lf):Prop:=∀ (kv:Kv) (iv0:Nat→Int) (bv0:Nat→Bool),InB uHea.B iv0→FT (sta FI FB kv iv0 bv0) (dlt dyn0) uHea.F→∀ (iv:Nat→Int) (bv:Nat→Bool),Agr 7 iv0 bv0 iv bv→uHea_inv iv0 bv0 k iv bv→∀ lf∈l,LfT (sta FI FB kv) uHea.os (uHea_inv iv0 bv0) (uHea_mu iv0 bv0) k iv bv lf
theorem uHea_o0:uHea_ob 0 uHea_L0:=by
 intro kv iv0 bv0 hin hF iv bv ha hi
 unfold uHea_L0
 refine List.forall_mem_cons.2 ⟨?_,List.forall_mem_nil _⟩
 all_goals
  intro δ hf
 all_goals
  obtain ⟨b1,b4⟩:=uHea_b hin
 all_goals
  have a0:=ha.1 0 (by omega)
  have a1:=ha.1 1 (by omega)
  have a2:=ha.1 2 (by omega)
  have a3:=ha.1 3 (by omega)
  have a4:=ha.1 4 (by omega)
  have a5:=ha.1 5 (by omega)
  have a6:=ha.1 6 (by omega)
 all_goals
  simp only [FT,TP,SB.tp,SI.tv,sta,IB.eval,and_true,true_and,ObsT,Ob.Tv,rowT,kix,In.tiv,↓tbvT,In.tbv,get_cons,get_nil,reduceIte,Nat.reduceEqDiff,Int.reduceToNat,Int.reduceAdd,Int.reduceSub,Int.reduceLE,Int.reduceLT,Int.reduceEq,ne_eq,Bool.false_eq_true,not_true_eq_false,not_false_eq_true,true_iff,false_iff,iff_true,iff_false,false_implies,implies_true,decT,decide_true,decide_false,Bool.decide_eq_true,ap2,pb2,FI_3,FI_8,FI_9,FI_3g,FI_8m,Int.toNat_natCast,Int.toNat_zero,FI_42,FI_43,uHea_inv,uHea_mu,uHea,o1,othT,kU,ints,i64s,lmap,i64b,dU,cmpV,mU,bU,fU,leF,ltF,tU,nu,mS,ltAt,mS',tM,tC,a0,a1,a2,a3,a4,a5,a6] at hf hi ⊢
 all_goals
  have ht:=@tdiv2 (iv0 6 - iv0 5) (by omega)
  have hx:-1≤(iv0 6 - iv0 5+-1).tdiv 2∧(iv0 6 - iv0 5+-1).tdiv 2≤1000:=by rw [ht];split<;>omega
  rw [i64_in _ (by omega)] at *
 all_goals
  (repeat' (with_reducible apply And.intro))<;>first
  | omega
  | assumption
  | (unfold inM;omega)
  | (rw [show ((iv0 6 - iv0 5+-1).tdiv 2+1).toNat=((iv0 6).toNat - (iv0 5).toNat - 1) / 2+1 by rw [ht];split<;>omega,show (iv0 6 - iv0 5).toNat=(iv0 6).toNat - (iv0 5).toNat by omega];rfl)
theorem uHea_o1:uHea_ob 1 uHea_L1:=by
 intro kv iv0 bv0 hin hF iv bv ha hi
 unfold uHea_L1
 refine List.forall_mem_cons.2 ⟨?_,List.forall_mem_cons.2 ⟨?_,List.forall_mem_cons.2 ⟨?_,List.forall_mem_nil _⟩⟩⟩
 all_goals
  intro δ hf
 all_goals
  obtain ⟨b1,b4⟩:=uHea_b hin
 all_goals
  have a0:=ha.1 0 (by omega)
  have a1:=ha.1 1 (by omega)
  have a2:=ha.1 2 (by omega)
  have a3:=ha.1 3 (by omega)
  have a4:=ha.1 4 (by omega)
  have a5:=ha.1 5 (by omega)
  have a6:=ha.1 6 (by omega)
 all_goals
  simp only [FT,TP,SB.tp,SI.tv,sta,IB.eval,and_true,true_and,ObsT,Ob.Tv,rowT,kix,In.tiv,↓tbvT,In.tbv,get_cons,get_nil,reduceIte,Nat.reduceEqDiff,Int.reduceToNat,Int.reduceAdd,Int.reduceSub,Int.reduceLE,Int.reduceLT,Int.reduceEq,ne_eq,Bool.false_eq_true,not_true_eq_false,not_false_eq_true,true_iff,false_iff,iff_true,iff_false,false_implies,implies_true,decT,decide_true,decide_false,Bool.decide_eq_true,ap2,pb2,FI_3,FI_8,FI_9,FI_3g,FI_8m,Int.toNat_natCast,Int.toNat_zero,FI_42,FI_43,uHea_inv,uHea_mu,uHea,o1,othT,kU,ints,i64s,lmap,i64b,dU,cmpV,mU,bU,fU,leF,ltF,tU,nu,mS,ltAt,mS',tM,tC,a0,a1,a2,a3,a4,a5,a6] at hf hi ⊢
 all_goals
  (repeat' (with_reducible apply And.intro))<;>first
  | omega
  | assumption
  | (unfold inM;omega)
  | (rw [arr_sif,show iv 27+-1+1=iv 27 by omega];have he:=hi.2.2.2;rw [heapBuild_go _ _ (by omega)] at he;exact he)
  | (have he:=hi.2.2.2;rw [show (iv 27+1).toNat=0 by omega] at he;rw [show (iv0 6 - iv0 5+-1+1).toNat=(iv0 6).toNat - (iv0 5).toNat by omega];exact he)
theorem uHea_o2:uHea_ob 2 uHea_L2:=by
 intro kv iv0 bv0 hin hF iv bv ha hi
 unfold uHea_L2
 refine List.forall_mem_cons.2 ⟨?_,List.forall_mem_cons.2 ⟨?_,List.forall_mem_cons.2 ⟨?_,List.forall_mem_nil _⟩⟩⟩
 all_goals
  intro δ hf
 all_goals
  obtain ⟨b1,b4⟩:=uHea_b hin
 all_goals
  have a0:=ha.1 0 (by omega)
  have a1:=ha.1 1 (by omega)
  have a2:=ha.1 2 (by omega)
  have a3:=ha.1 3 (by omega)
  have a4:=ha.1 4 (by omega)
  have a5:=ha.1 5 (by omega)
  have a6:=ha.1 6 (by omega)
 all_goals
  simp only [FT,TP,SB.tp,SI.tv,sta,IB.eval,and_true,true_and,ObsT,Ob.Tv,rowT,kix,In.tiv,↓tbvT,In.tbv,get_cons,get_nil,reduceIte,Nat.reduceEqDiff,Int.reduceToNat,Int.reduceAdd,Int.reduceSub,Int.reduceLE,Int.reduceLT,Int.reduceEq,ne_eq,Bool.false_eq_true,not_true_eq_false,not_false_eq_true,true_iff,false_iff,iff_true,iff_false,false_implies,implies_true,decT,decide_true,decide_false,Bool.decide_eq_true,ap2,pb2,FI_3,FI_8,FI_9,FI_3g,FI_8m,Int.toNat_natCast,Int.toNat_zero,FI_42,FI_43,uHea_inv,uHea_mu,uHea,o1,othT,kU,ints,i64s,lmap,i64b,dU,cmpV,mU,bU,fU,leF,ltF,tU,nu,mS,ltAt,mS',tM,tC,a0,a1,a2,a3,a4,a5,a6] at hf hi ⊢
 all_goals
  (repeat' (with_reducible apply And.intro))<;>first
  | omega
  | assumption
  | (unfold inM;omega)
  | (rw [arr_sif,swp12 (by omega) (by omega) (by omega) (by omega),show iv 29+-1+1=iv 29 by omega];have he:=hi.2.2.2;rw [heapPop_go _ _ (by omega) (by omega)] at he;exact he)
  | (have he:=hi.2.2.2;rw [show (iv 29+1).toNat=0 by omega] at he;exact rows6 he)
theorem uHea_c:LsCM 1 ((tmM uHea Try.f158 (Try.f158.body.getD .skip))::[uHea_T1,uHea_T2]) uHea.os [uHea_L0,uHea_L1,uHea_L2]:=by
 unfold uHea_L0 uHea_L1 uHea_L2
 exact ⟨List.forall_mem_cons.2 ⟨⟨⟨⟨_,rfl,rfl⟩,by kernel_rfl⟩,by kernel_rfl⟩,List.forall_mem_nil _⟩,List.forall_mem_cons.2 ⟨⟨⟨⟨_,rfl,rfl⟩,by kernel_rfl⟩,by kernel_rfl⟩,List.forall_mem_cons.2 ⟨⟨trivial,rfl⟩,List.forall_mem_cons.2 ⟨⟨⟨⟨_,rfl,rfl⟩,by kernel_rfl⟩,by kernel_rfl⟩,List.forall_mem_nil _⟩⟩⟩,List.forall_mem_cons.2 ⟨⟨⟨⟨_,rfl,rfl⟩,by kernel_rfl⟩,by kernel_rfl⟩,List.forall_mem_cons.2 ⟨⟨trivial,rfl⟩,List.forall_mem_cons.2 ⟨⟨⟨⟨_,rfl,rfl⟩,by kernel_rfl⟩,by kernel_rfl⟩,List.forall_mem_nil _⟩⟩⟩,trivial⟩
theorem uHea_ok:uHea.Ok Try.prog FI FB:=
 Com.of_plain (body:=Try.f158.body.getD .skip) pok fiok (EntsFor.cons uCmp_ok (EntsFor.consM uSif_ok EntsFor.nil)) uHea Try.func158 (by kernel_rfl) 7 [uHea_T1,uHea_T2] (by kernel_rfl) [uHea_L0,uHea_L1,uHea_L2] ⟨uHea_h0,uHea_h1,uHea_h2,trivial⟩ uHea_c
  uHea_inv uHea_mu (fun _ _ _=>trivial) fun kv iv0 bv0 hin hF k l iv bv hk ha hi=>match k,hk,hi with
  | 0,hk,hi=>by
    cases hk
    exact uHea_o0 kv iv0 bv0 hin hF iv bv ha hi
  | 1,hk,hi=>by
    cases hk
    exact uHea_o1 kv iv0 bv0 hin hF iv bv ha hi
  | 2,hk,hi=>by
    cases hk
    exact uHea_o2 kv iv0 bv0 hin hF iv bv ha hi
  | k+3,hk,_=>by simp at hk
def uRev_T1:Tm:=⟨⟨161,34,[(9,(.it .i64 (.v 27))),(8,(.it .i64 (.v 28))),(0,(.sl (.n 0) (.c 0) (.v 1) (.v 2)))],[(.code (atC Try.f161 [1,1,0,0])),(.inLoop (atC Try.f161 [1,1,0,0])),(.inBlock 0)],[],.none⟩,[],
    ⟨[(0,(.arr [(.nt .i64),(.nt .i64),(.nt .i64),(.nt .i64),(.nt .i64),(.nt .i64)] (.v 29) (.v 1) 158 (.v 3)))],1,0,0,[((.le (.c 0) (.v 5)),.true),((.le (.v 5) (.c 1000)),.true),((.le (.c 0) (.v 6)),.true),((.le (.v 6) (.c 1000)),.true),((.lt (.v 5) (.v 6)),.true),((.le (.v 6) (.v 1)),.true),((.le (.v 1) (.v 2)),.true),((.le (.v 1) (.v 3)),.true)],[0],[(5,(0,999)),(6,(1,1000)),(1,(0,1000)),(3,(0,(-1))),(4,((-9223372036854775808),9223372036854775807)),(28,(0,1000)),(27,((-1),1000))]⟩,[27,28,29]⟩
def uRev_L0:List Lf:=
 [(let i_:In:=⟨⟨[(29,(.v 0)),(28,(.v 5)),(27,(.op .add (.v 6) (.c (-1))))],[]⟩,[(0,0)],[],[]⟩;.cut ([((.le (.c 0) (.v 5)),.true),((.le (.v 5) (.c 1000)),.true),((.le (.c 0) (.v 6)),.true),((.le (.v 6) (.c 1000)),.true),((.lt (.v 5) (.v 6)),.true),((.le (.v 6) (.v 1)),.true),((.le (.v 1) (.v 2)),.true),((.le (.v 1) (.v 3)),.true)]) 1 i_ [] (shT uRev_T1 i_))]
def uRev_L1:List Lf:=
 let f0_:List (SB×Bool):=[((.le (.c 0) (.v 5)),.true),((.le (.v 5) (.c 1000)),.true),((.le (.c 0) (.v 6)),.true),((.le (.v 6) (.c 1000)),.true),((.lt (.v 5) (.v 6)),.true),((.le (.v 6) (.v 1)),.true),((.le (.v 1) (.v 2)),.true),((.le (.v 1) (.v 3)),.true)]
 let f1_:List (SB×Bool):=((.lt (.v 28) (.v 27)),.true)::f0_
 [(let i_:In:=⟨⟨[(29,(.ap 8 (.ap 8 (.ap 8 (.ap 8 (.ap 8 (.ap 8 (.ap 8 (.ap 8 (.ap 8 (.ap 8 (.ap 8 (.ap 8 (.v 29) (.v 28) (.c 0) (.ap 3 (.v 29) (.v 27) (.c 0) (.c 0) (.c 0) (.c 0)) (.c 0) (.c 0)) (.v 28) (.c 1) (.ap 3 (.v 29) (.v 27) (.c 1) (.c 0) (.c 0) (.c 0)) (.c 0) (.c 0)) (.v 28) (.c 2) (.ap 3 (.v 29) (.v 27) (.c 2) (.c 0) (.c 0) (.c 0)) (.c 0) (.c 0)) (.v 28) (.c 3) (.ap 3 (.v 29) (.v 27) (.c 3) (.c 0) (.c 0) (.c 0)) (.c 0) (.c 0)) (.v 28) (.c 4) (.ap 3 (.v 29) (.v 27) (.c 4) (.c 0) (.c 0) (.c 0)) (.c 0) (.c 0)) (.v 28) (.c 5) (.ap 3 (.v 29) (.v 27) (.c 5) (.c 0) (.c 0) (.c 0)) (.c 0) (.c 0)) (.v 27) (.c 0) (.ap 3 (.v 29) (.v 28) (.c 0) (.c 0) (.c 0) (.c 0)) (.c 0) (.c 0)) (.v 27) (.c 1) (.ap 3 (.v 29) (.v 28) (.c 1) (.c 0) (.c 0) (.c 0)) (.c 0) (.c 0)) (.v 27) (.c 2) (.ap 3 (.v 29) (.v 28) (.c 2) (.c 0) (.c 0) (.c 0)) (.c 0) (.c 0)) (.v 27) (.c 3) (.ap 3 (.v 29) (.v 28) (.c 3) (.c 0) (.c 0) (.c 0)) (.c 0) (.c 0)) (.v 27) (.c 4) (.ap 3 (.v 29) (.v 28) (.c 4) (.c 0) (.c 0) (.c 0)) (.c 0) (.c 0)) (.v 27) (.c 5) (.ap 3 (.v 29) (.v 28) (.c 5) (.c 0) (.c 0) (.c 0)) (.c 0) (.c 0))),(28,(.op .add (.v 28) (.c 1))),(27,(.op .add (.v 27) (.c (-1))))],[]⟩,[(0,0)],[],[]⟩;.cut (((.lt (.v 27) (.v 1)),.true)::f1_) 1 i_ [] (shT uRev_T1 i_)),
  (.bad (((.lt (.v 27) (.v 1)),.false)::f1_)),
  (.fin (((.lt (.v 28) (.v 27)),.false)::f0_) 0 ⟨⟨[],[]⟩,[(0,0)],[],[]⟩ [(.ar [(.nt .i64),(.nt .i64),(.nt .i64),(.nt .i64),(.nt .i64),(.nt .i64)] (.ap 52 (.v 0) (.v 1) (.v 5) (.v 6) (.c 0) (.c 0)) (.v 29) (.v 1))] [.none])]
def uRev_run (T:Tm):=(ex (ccM Try.prog BF [58,84]) ((fun cc=>[uCmp.ent cc,uSif.ent cc]) (ccM Try.prog BF [58,84])) (dw (ccM Try.prog BF [58,84]) ((fun cc=>[uCmp.ent cc,uSif.ent cc]) (ccM Try.prog BF [58,84])) 1000 4) (stopX []) 4000 T.f T.fs T.H).lfsM 1 (ccM Try.prog BF [58,84]) ((tmM uRev Try.f161 (Try.f161.body.getD .skip))::[uRev_T1]) uRev.os
theorem uRev_h0:uRev_run (tmM uRev Try.f161 (Try.f161.body.getD .skip))=some uRev_L0:=by kernel_rfl
theorem uRev_h1:uRev_run uRev_T1=some uRev_L1:=by kernel_rfl
def uRev_inv:(Nat→Int)→(Nat→Bool)→Nat→(Nat→Int)→(Nat→Bool)→Prop:=fun iv0 _ k iv _=>match k with
 | 0=>True
 | _=>0≤iv0 5∧iv0 5≤iv 28∧iv 27 < iv0 6∧iv 28≤iv 27+1∧Sort.reverseLoop (iv 28).toNat (iv 27).toNat (arrOf (iv 29) (iv0 1))=Sort.reverseRange (arrOf (iv0 0) (iv0 1)) (iv0 5).toNat (iv0 6).toNat
def uRev_mu:(Nat→Int)→(Nat→Bool)→Nat→(Nat→Int)→(Nat→Bool)→Nat:=fun iv0 _ k iv _=>match k with | 0=>2 ^ 80 | _=>(iv 27+1).toNat
theorem uRev_b {iv0:Nat→Int} (hin:InB uRev.B iv0):(0≤iv0 1∧iv0 1≤1000)∧((-9223372036854775808)≤iv0 4∧iv0 4≤9223372036854775807):=by
 have b1:=hin 1 0 1000 (by simp [uRev,kU,ints,i64s,lmap,i64b,dU,cmpV,mU,bU,fU,leF,ltF,tU,nu,mS,ltAt,mS',tM,tC])
 simp only [Int.reduceLE,reduceIte,Int.reduceNeg] at b1
 have b4:=hin 4 (-9223372036854775808) 9223372036854775807 (by simp [uRev,kU,ints,i64s,lmap,i64b,dU,cmpV,mU,bU,fU,leF,ltF,tU,nu,mS,ltAt,mS',tM,tC])
 simp only [Int.reduceLE,reduceIte,Int.reduceNeg] at b4
 exact ⟨b1,b4⟩
def uRev_ob (k:Nat) (l:List Lf):Prop:=∀ (kv:Kv) (iv0:Nat→Int) (bv0:Nat→Bool),InB uRev.B iv0→FT (sta FI FB kv iv0 bv0) (dlt dyn0) uRev.F→∀ (iv:Nat→Int) (bv:Nat→Bool),Agr 7 iv0 bv0 iv bv→uRev_inv iv0 bv0 k iv bv→∀ lf∈l,LfT (sta FI FB kv) uRev.os (uRev_inv iv0 bv0) (uRev_mu iv0 bv0) k iv bv lf
theorem uRev_o0:uRev_ob 0 uRev_L0:=by
 intro kv iv0 bv0 hin hF iv bv ha hi
 unfold uRev_L0
 refine List.forall_mem_cons.2 ⟨?_,List.forall_mem_nil _⟩
 all_goals
  intro δ hf
 all_goals
  obtain ⟨b1,b4⟩:=uRev_b hin
 all_goals
  have a0:=ha.1 0 (by omega)
  have a1:=ha.1 1 (by omega)
  have a2:=ha.1 2 (by omega)
  have a3:=ha.1 3 (by omega)
  have a4:=ha.1 4 (by omega)
  have a5:=ha.1 5 (by omega)
  have a6:=ha.1 6 (by omega)
 all_goals
  simp only [FT,TP,SB.tp,SI.tv,sta,IB.eval,and_true,true_and,ObsT,Ob.Tv,rowT,kix,In.tiv,↓tbvT,In.tbv,get_cons,get_nil,reduceIte,Nat.reduceEqDiff,Int.reduceToNat,Int.reduceAdd,Int.reduceSub,Int.reduceLE,Int.reduceLT,Int.reduceEq,ne_eq,Bool.false_eq_true,not_true_eq_false,not_false_eq_true,true_iff,false_iff,iff_true,iff_false,false_implies,implies_true,decT,decide_true,decide_false,Bool.decide_eq_true,ap2,pb2,FI_3,FI_8,FI_9,FI_3g,FI_8m,Int.toNat_natCast,Int.toNat_zero,FI_52,uRev_inv,uRev_mu,uRev,o1,othT,kU,ints,i64s,lmap,i64b,dU,cmpV,mU,bU,fU,leF,ltF,tU,nu,mS,ltAt,mS',tM,tC,a0,a1,a2,a3,a4,a5,a6] at hf hi ⊢
 all_goals
  (repeat' (with_reducible apply And.intro))<;>first
  | omega
  | assumption
  | (unfold inM;omega)
  | (rw [show (iv0 6+-1).toNat=(iv0 6).toNat - 1 by omega];rfl)
theorem uRev_o1:uRev_ob 1 uRev_L1:=by
 intro kv iv0 bv0 hin hF iv bv ha hi
 unfold uRev_L1
 refine List.forall_mem_cons.2 ⟨?_,List.forall_mem_cons.2 ⟨?_,List.forall_mem_cons.2 ⟨?_,List.forall_mem_nil _⟩⟩⟩
 all_goals
  intro δ hf
 all_goals
  obtain ⟨b1,b4⟩:=uRev_b hin
 all_goals
  have a0:=ha.1 0 (by omega)
  have a1:=ha.1 1 (by omega)
  have a2:=ha.1 2 (by omega)
  have a3:=ha.1 3 (by omega)
  have a4:=ha.1 4 (by omega)
  have a5:=ha.1 5 (by omega)
  have a6:=ha.1 6 (by omega)
 all_goals
  simp only [FT,TP,SB.tp,SI.tv,sta,IB.eval,and_true,true_and,ObsT,Ob.Tv,rowT,kix,In.tiv,↓tbvT,In.tbv,get_cons,get_nil,reduceIte,Nat.reduceEqDiff,Int.reduceToNat,Int.reduceAdd,Int.reduceSub,Int.reduceLE,Int.reduceLT,Int.reduceEq,ne_eq,Bool.false_eq_true,not_true_eq_false,not_false_eq_true,true_iff,false_iff,iff_true,iff_false,false_implies,implies_true,decT,decide_true,decide_false,Bool.decide_eq_true,ap2,pb2,FI_3,FI_8,FI_9,FI_3g,FI_8m,Int.toNat_natCast,Int.toNat_zero,FI_52,uRev_inv,uRev_mu,uRev,o1,othT,kU,ints,i64s,lmap,i64b,dU,cmpV,mU,bU,fU,leF,ltF,tU,nu,mS,ltAt,mS',tM,tC,a0,a1,a2,a3,a4,a5,a6] at hf hi ⊢
 all_goals
  (repeat' (with_reducible apply And.intro))<;>first
  | omega
  | assumption
  | (unfold inM;omega)
  | (have he:=hi.2.2.2.2;rw [reverse_go _ _ _ (by omega),← swp12 (by omega) (by omega) (by omega) (by omega)] at he;rw [show (iv 28+1).toNat=(iv 28).toNat+1 by omega,show (iv 27+-1).toNat=(iv 27).toNat - 1 by omega];exact he)
  | (have he:=hi.2.2.2.2;rw [reverse_end _ _ _ (by omega)] at he;exact rows6 he)
theorem uRev_c:LsCM 1 ((tmM uRev Try.f161 (Try.f161.body.getD .skip))::[uRev_T1]) uRev.os [uRev_L0,uRev_L1]:=by
 unfold uRev_L0 uRev_L1
 exact ⟨List.forall_mem_cons.2 ⟨⟨⟨⟨_,rfl,rfl⟩,by kernel_rfl⟩,by kernel_rfl⟩,List.forall_mem_nil _⟩,List.forall_mem_cons.2 ⟨⟨⟨⟨_,rfl,rfl⟩,by kernel_rfl⟩,by kernel_rfl⟩,List.forall_mem_cons.2 ⟨⟨trivial,rfl⟩,List.forall_mem_cons.2 ⟨⟨⟨⟨_,rfl,rfl⟩,by kernel_rfl⟩,by kernel_rfl⟩,List.forall_mem_nil _⟩⟩⟩,trivial⟩
theorem uRev_ok:uRev.Ok Try.prog FI FB:=
 Com.of_plain (body:=Try.f161.body.getD .skip) pok fiok (EntsFor.cons uCmp_ok (EntsFor.consM uSif_ok EntsFor.nil)) uRev Try.func161 (by kernel_rfl) 7 [uRev_T1] (by kernel_rfl) [uRev_L0,uRev_L1] ⟨uRev_h0,uRev_h1,trivial⟩ uRev_c
  uRev_inv uRev_mu (fun _ _ _=>trivial) fun kv iv0 bv0 hin hF k l iv bv hk ha hi=>match k,hk,hi with
  | 0,hk,hi=>by
    cases hk
    exact uRev_o0 kv iv0 bv0 hin hF iv bv ha hi
  | 1,hk,hi=>by
    cases hk
    exact uRev_o1 kv iv0 bv0 hin hF iv bv ha hi
  | k+2,hk,_=>by simp at hk
def uMed_L0:List Lf:=
 let x0_:SI:=(.ap 3 (.v 0) (.v 6) (.c 3) (.c 0) (.c 0) (.c 0))
 let x1_:SI:=(.ap 3 (.v 0) (.v 6) (.c 5) (.c 0) (.c 0) (.c 0))
 let x2_:SI:=(.ap 3 (.v 0) (.v 5) (.c 3) (.c 0) (.c 0) (.c 0))
 let x3_:SI:=(.ap 3 (.v 0) (.v 5) (.c 5) (.c 0) (.c 0) (.c 0))
 let x4_:SI:=(.ap 3 (.v 0) (.v 7) (.c 3) (.c 0) (.c 0) (.c 0))
 let x5_:SI:=(.ap 3 (.v 0) (.v 7) (.c 5) (.c 0) (.c 0) (.c 0))
 let x6_:SI:=(.ap 55 (.v 0) (.v 1) (.v 5) (.v 6) (.v 7) (.v 4))
 let x7_:SI:=(.ap 54 (.v 0) (.v 1) (.v 5) (.v 6) (.v 7) (.v 4))
 let x8_:SI:=(.op .sub (.ap 3 (.v 0) (.v 6) (.c 4) (.c 0) (.c 0) (.c 0)) (.v 4))
 let x9_:SI:=(.op .sub (.ap 3 (.v 0) (.v 5) (.c 4) (.c 0) (.c 0) (.c 0)) (.v 4))
 let x10_:SI:=(.op .sub (.ap 3 (.v 0) (.v 7) (.c 4) (.c 0) (.c 0) (.c 0)) (.v 4))
 let p11_:SB×Bool:=((.lt (.ap 40 x4_ x5_ x10_ x2_ x3_ x9_) (.c 0)),.true)
 let p12_:SB×Bool:=((.lt (.ap 40 x4_ x5_ x10_ x0_ x1_ x8_) (.c 0)),.true)
 let p13_:SB×Bool:=((.lt (.ap 40 x4_ x5_ x10_ x2_ x3_ x9_) (.c 0)),.false)
 let p14_:SB×Bool:=((.lt (.ap 40 x4_ x5_ x10_ x0_ x1_ x8_) (.c 0)),.false)
 let f0_:List (SB×Bool):=[((.le (.c 0) (.v 5)),.true),((.le (.v 5) (.c 1000)),.true),((.le (.c 0) (.v 6)),.true),((.le (.v 6) (.c 1000)),.true),((.le (.c 0) (.v 7)),.true),((.le (.v 7) (.c 1000)),.true),((.lt (.v 5) (.v 1)),.true),((.lt (.v 6) (.v 1)),.true),((.lt (.v 7) (.v 1)),.true),((.le (.v 1) (.v 2)),.true),((.le (.v 1) (.v 3)),.true)]
 let f1_:List (SB×Bool):=((.lt (.ap 40 x0_ x1_ x8_ x2_ x3_ x9_) (.c 0)),.true)::f0_
 let f2_:List (SB×Bool):=((.lt (.ap 40 x0_ x1_ x8_ x2_ x3_ x9_) (.c 0)),.false)::f0_
 let f3_:List (SB×Bool):=p11_::f1_
 let f4_:List (SB×Bool):=p13_::f1_
 let f5_:List (SB×Bool):=p12_::f2_
 [(.fin (p12_::f3_) 0 ⟨⟨[],[]⟩,[(1,1),(0,0)],[],[]⟩ [(.ei (.ap 54 (.v 0) (.v 1) (.v 5) (.v 6) (.v 7) (.v 4)) (.v 6)),(.ei (.op .add (.v 8) x6_) (.op .add (.v 8) (.c 3))),(.fa (.le (.c 0) x7_) .true),(.fa (.lt x7_ (.v 1)) .true),(.fa (.le x7_ (.c 1000)) .true)] [.none,.none]),
  (.fin (p14_::f3_) 0 ⟨⟨[],[]⟩,[(1,1),(0,0)],[],[]⟩ [(.ei (.ap 54 (.v 0) (.v 1) (.v 5) (.v 6) (.v 7) (.v 4)) (.v 7)),(.ei (.op .add (.v 8) x6_) (.op .add (.v 8) (.c 2))),(.fa (.le (.c 0) x7_) .true),(.fa (.lt x7_ (.v 1)) .true),(.fa (.le x7_ (.c 1000)) .true)] [.none,.none]),
  (.fin (((.lt (.ap 40 x2_ x3_ x9_ x0_ x1_ x8_) (.c 0)),.true)::f4_) 0 ⟨⟨[],[]⟩,[(1,1),(0,0)],[],[]⟩ [(.ei (.ap 54 (.v 0) (.v 1) (.v 5) (.v 6) (.v 7) (.v 4)) (.v 6)),(.ei (.op .add (.v 8) x6_) (.op .add (.v 8) (.c 2))),(.fa (.le (.c 0) x7_) .true),(.fa (.lt x7_ (.v 1)) .true),(.fa (.le x7_ (.c 1000)) .true)] [.none,.none]),
  (.fin (((.lt (.ap 40 x2_ x3_ x9_ x0_ x1_ x8_) (.c 0)),.false)::f4_) 0 ⟨⟨[],[]⟩,[(1,1),(0,0)],[],[]⟩ [(.ei (.ap 54 (.v 0) (.v 1) (.v 5) (.v 6) (.v 7) (.v 4)) (.v 5)),(.ei (.op .add (.v 8) x6_) (.op .add (.v 8) (.c 1))),(.fa (.le (.c 0) x7_) .true),(.fa (.lt x7_ (.v 1)) .true),(.fa (.le x7_ (.c 1000)) .true)] [.none,.none]),
  (.fin (p11_::f5_) 0 ⟨⟨[],[]⟩,[(1,1),(0,0)],[],[]⟩ [(.ei (.ap 54 (.v 0) (.v 1) (.v 5) (.v 6) (.v 7) (.v 4)) (.v 5)),(.ei (.op .add (.v 8) x6_) (.op .add (.v 8) (.c 2))),(.fa (.le (.c 0) x7_) .true),(.fa (.lt x7_ (.v 1)) .true),(.fa (.le x7_ (.c 1000)) .true)] [.none,.none]),
  (.fin (p13_::f5_) 0 ⟨⟨[],[]⟩,[(1,1),(0,0)],[],[]⟩ [(.ei (.ap 54 (.v 0) (.v 1) (.v 5) (.v 6) (.v 7) (.v 4)) (.v 7)),(.ei (.op .add (.v 8) x6_) (.op .add (.v 8) (.c 1))),(.fa (.le (.c 0) x7_) .true),(.fa (.lt x7_ (.v 1)) .true),(.fa (.le x7_ (.c 1000)) .true)] [.none,.none]),
  (.fin (p14_::f2_) 0 ⟨⟨[],[]⟩,[(1,1),(0,0)],[],[]⟩ [(.ei (.ap 54 (.v 0) (.v 1) (.v 5) (.v 6) (.v 7) (.v 4)) (.v 6)),(.ei (.op .add (.v 8) x6_) (.v 8)),(.fa (.le (.c 0) x7_) .true),(.fa (.lt x7_ (.v 1)) .true),(.fa (.le x7_ (.c 1000)) .true)] [.none,.none])]
def uMed_run (T:Tm):=(ex (ccM Try.prog BF [58,84]) ((fun cc=>[uCmp.ent cc,uSif.ent cc]) (ccM Try.prog BF [58,84])) (dw (ccM Try.prog BF [58,84]) ((fun cc=>[uCmp.ent cc,uSif.ent cc]) (ccM Try.prog BF [58,84])) 1000 4) (stopX []) 4000 T.f T.fs T.H).lfsM 2 (ccM Try.prog BF [58,84]) ((tmM uMed Try.f172 (Try.f172.body.getD .skip))::[]) uMed.os
theorem uMed_h0:uMed_run (tmM uMed Try.f172 (Try.f172.body.getD .skip))=some uMed_L0:=by kernel_rfl
def uMed_inv:(Nat→Int)→(Nat→Bool)→Nat→(Nat→Int)→(Nat→Bool)→Prop:=fun _ _ _ _ _=>True
def uMed_mu:(Nat→Int)→(Nat→Bool)→Nat→(Nat→Int)→(Nat→Bool)→Nat:=fun _ _ _ _ _=>0
theorem uMed_b {iv0:Nat→Int} (hin:InB uMed.B iv0):(0≤iv0 1∧iv0 1≤1000)∧((-9223372036854775808)≤iv0 4∧iv0 4≤9223372036854775807)∧(0≤iv0 8∧iv0 8≤100):=by
 have b1:=hin 1 0 1000 (by simp [uMed,kU,ints,i64s,lmap,i64b,dU,cmpV,mU,bU,fU,leF,ltF,tU,nu,mS,ltAt,mS',tM,tC])
 simp only [Int.reduceLE,reduceIte,Int.reduceNeg] at b1
 have b4:=hin 4 (-9223372036854775808) 9223372036854775807 (by simp [uMed,kU,ints,i64s,lmap,i64b,dU,cmpV,mU,bU,fU,leF,ltF,tU,nu,mS,ltAt,mS',tM,tC])
 simp only [Int.reduceLE,reduceIte,Int.reduceNeg] at b4
 have b8:=hin 8 0 100 (by simp [uMed,kU,ints,i64s,lmap,i64b,dU,cmpV,mU,bU,fU,leF,ltF,tU,nu,mS,ltAt,mS',tM,tC])
 simp only [Int.reduceLE,reduceIte,Int.reduceNeg] at b8
 exact ⟨b1,b4,b8⟩
def uMed_ob (k:Nat) (l:List Lf):Prop:=∀ (kv:Kv) (iv0:Nat→Int) (bv0:Nat→Bool),InB uMed.B iv0→FT (sta FI FB kv iv0 bv0) (dlt dyn0) uMed.F→∀ (iv:Nat→Int) (bv:Nat→Bool),Agr 9 iv0 bv0 iv bv→uMed_inv iv0 bv0 k iv bv→∀ lf∈l,LfT (sta FI FB kv) uMed.os (uMed_inv iv0 bv0) (uMed_mu iv0 bv0) k iv bv lf
theorem uMed_o0:uMed_ob 0 uMed_L0:=by
 intro kv iv0 bv0 hin hF iv bv ha hi
 unfold uMed_L0
 refine List.forall_mem_cons.2 ⟨?_,List.forall_mem_cons.2 ⟨?_,List.forall_mem_cons.2 ⟨?_,List.forall_mem_cons.2 ⟨?_,List.forall_mem_cons.2 ⟨?_,List.forall_mem_cons.2 ⟨?_,List.forall_mem_cons.2 ⟨?_,List.forall_mem_nil _⟩⟩⟩⟩⟩⟩⟩
 all_goals
  intro δ hf
 all_goals
  obtain ⟨b1,b4,b8⟩:=uMed_b hin
 all_goals
  have a0:=ha.1 0 (by omega)
  have a1:=ha.1 1 (by omega)
  have a2:=ha.1 2 (by omega)
  have a3:=ha.1 3 (by omega)
  have a4:=ha.1 4 (by omega)
  have a5:=ha.1 5 (by omega)
  have a6:=ha.1 6 (by omega)
  have a7:=ha.1 7 (by omega)
  have a8:=ha.1 8 (by omega)
 all_goals
  simp only [FT,TP,SB.tp,SI.tv,sta,IB.eval,and_true,true_and,ObsT,Ob.Tv,rowT,kix,In.tiv,↓tbvT,In.tbv,get_cons,get_nil,reduceIte,Nat.reduceEqDiff,Int.reduceToNat,Int.reduceAdd,Int.reduceSub,Int.reduceLE,Int.reduceLT,Int.reduceEq,ne_eq,Bool.false_eq_true,not_true_eq_false,not_false_eq_true,true_iff,false_iff,iff_true,iff_false,false_implies,implies_true,decT,decide_true,decide_false,Bool.decide_eq_true,ap2,pb2,FI_3,FI_8,FI_9,FI_3g,FI_8m,Int.toNat_natCast,Int.toNat_zero,FI_40,FI_54,FI_55,uMed_inv,uMed_mu,uMed,o1,othT,kU,ints,i64s,lmap,i64b,dU,cmpV,mU,bU,fU,leF,ltF,tU,nu,mS,ltAt,mS',tM,tC,a0,a1,a2,a3,a4,a5,a6,a7,a8] at hf hi ⊢
 all_goals
  have p56:=ltC_at (c:=iv0 0) (n:=iv0 1) (lim:=iv0 4) (i:=iv0 5) (j:=iv0 6) (by omega) (by omega) (by omega) (by omega)
  have p57:=ltC_at (c:=iv0 0) (n:=iv0 1) (lim:=iv0 4) (i:=iv0 5) (j:=iv0 7) (by omega) (by omega) (by omega) (by omega)
  have p65:=ltC_at (c:=iv0 0) (n:=iv0 1) (lim:=iv0 4) (i:=iv0 6) (j:=iv0 5) (by omega) (by omega) (by omega) (by omega)
  have p67:=ltC_at (c:=iv0 0) (n:=iv0 1) (lim:=iv0 4) (i:=iv0 6) (j:=iv0 7) (by omega) (by omega) (by omega) (by omega)
  have p75:=ltC_at (c:=iv0 0) (n:=iv0 1) (lim:=iv0 4) (i:=iv0 7) (j:=iv0 5) (by omega) (by omega) (by omega) (by omega)
  have p76:=ltC_at (c:=iv0 0) (n:=iv0 1) (lim:=iv0 4) (i:=iv0 7) (j:=iv0 6) (by omega) (by omega) (by omega) (by omega)
 all_goals
  (repeat' (with_reducible apply And.intro))<;>first
  | omega
  | assumption
  | (unfold inM;omega)
  | (clear hin hF ha;simp only [medU,Sort.median,Sort.order2,p56,p57,p65,p67,p75,p76];grind)
  | (clear hin hF ha;have h3:=medU_in (iv0 0) (iv0 1) (iv0 5) (iv0 6) (iv0 7) (iv0 4);omega)
theorem uMed_c:LsCM 2 ((tmM uMed Try.f172 (Try.f172.body.getD .skip))::[]) uMed.os [uMed_L0]:=by
 unfold uMed_L0
 exact ⟨List.forall_mem_cons.2 ⟨⟨⟨⟨_,rfl,rfl⟩,by kernel_rfl⟩,by kernel_rfl⟩,List.forall_mem_cons.2 ⟨⟨⟨⟨_,rfl,rfl⟩,by kernel_rfl⟩,by kernel_rfl⟩,List.forall_mem_cons.2 ⟨⟨⟨⟨_,rfl,rfl⟩,by kernel_rfl⟩,by kernel_rfl⟩,List.forall_mem_cons.2 ⟨⟨⟨⟨_,rfl,rfl⟩,by kernel_rfl⟩,by kernel_rfl⟩,List.forall_mem_cons.2 ⟨⟨⟨⟨_,rfl,rfl⟩,by kernel_rfl⟩,by kernel_rfl⟩,List.forall_mem_cons.2 ⟨⟨⟨⟨_,rfl,rfl⟩,by kernel_rfl⟩,by kernel_rfl⟩,List.forall_mem_cons.2 ⟨⟨⟨⟨_,rfl,rfl⟩,by kernel_rfl⟩,by kernel_rfl⟩,List.forall_mem_nil _⟩⟩⟩⟩⟩⟩⟩,trivial⟩
theorem uMed_ok:uMed.Ok Try.prog FI FB:=
 Com.of_plain (body:=Try.f172.body.getD .skip) pok fiok (EntsFor.cons uCmp_ok (EntsFor.consM uSif_ok EntsFor.nil)) uMed Try.func172 (by kernel_rfl) 9 [] (by kernel_rfl) [uMed_L0] ⟨uMed_h0,trivial⟩ uMed_c
  uMed_inv uMed_mu (fun _ _ _=>trivial) fun kv iv0 bv0 hin hF k l iv bv hk ha hi=>match k,hk,hi with
  | 0,hk,hi=>by
    cases hk
    exact uMed_o0 kv iv0 bv0 hin hF iv bv ha hi
  | k+1,hk,_=>by simp at hk
end
end Go.Sx.Mhw
