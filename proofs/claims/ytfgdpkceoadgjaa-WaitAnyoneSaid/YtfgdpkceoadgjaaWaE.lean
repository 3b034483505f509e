/- Who waits: may, right. -/
import Derived.Test.YtfgdpkceoadgjaaMoQ
namespace Go.Sx.Mhw
set_option linter.unusedVariables false
set_option linter.unusedSimpArgs false
set_option maxRecDepth 100000
set_option maxHeartbeats 0
noncomputable section
open Go Go.Sx Go.Proofs
def kW:List Kd:=[.nt .i64,.nt .i64,.nt .i64,.nt .i64,.nt .i64]
def lW:SV:=.sl (.k 0) (.v 2) (.v 1) (.v 3)
def gW:List Gv:=[⟨0,.v 2,kW,0,.v 1⟩]
def bW:List (Nat×Int×Int):=[(1,0,1000),(2,0,-1)]
def ap3 (f:Nat) (x:SI):SI:=.ap f (.v 0) (.v 1) x (.c 0) (.c 0) (.c 0)
def pb3 (f:Nat) (x:SI):SB:=.ap f (.v 0) (.v 1) x (.c 0) (.c 0) (.c 0)
def pb4 (f:Nat) (x y:SI):SB:=.ap f (.v 0) (.v 1) x y (.c 0) (.c 0)
def mayV (i:Nat):SB:=.ap 32 (.v i) (.v (i+1)) (.v (i+2)) (.v (i+3)) (.v (i+4)) (.c 0)
def wMay:Con:=⟨130,[0,1,2,3,4,5],[.ag (ints [0,1,2,3,4,5])],[],i64s [0,1,2,3,4,5],[],o1 (.bo (mayV 0))⟩
def wRight:Con:=⟨115,[0,1,2,3],[lW],gW,bW,fM,o1 (.bo (pb2 30))⟩
def wFits:Con:=⟨122,[0,1],two,[],b2,[],o1 (.bo (pb2 10))⟩
def seenW (m c k:Int):Prop:=∀ x:Int,(mg m x=1∧∃ j:Nat,(j:Int) < k∧fl c j 0=x)∨(mg m x=0∧∀ j:Nat,(j:Int) < k→fl c j 0≠x)
theorem mayX_ext {c k:Int} (h:mayX c k) (h0:0≤k) (h1:mayW (fl c k.toNat 0) (fl c k.toNat 1) (fl c k.toNat 2) (fl c k.toNat 3) (fl c k.toNat 4)) (h2:∀ j:Nat,j < k.toNat→fl c j 0≠fl c k.toNat 0):mayX c (k+1):=
 all_succ h0 h ⟨h1,h2⟩
theorem mayX_not {c n k:Int} (h0:0≤k) (hk:k < n) (h:¬ (mayW (fl c k.toNat 0) (fl c k.toNat 1) (fl c k.toNat 2) (fl c k.toNat 3) (fl c k.toNat 4)∧∀ j:Nat,j < k.toNat→fl c j 0≠fl c k.toNat 0)):¬ rgtW c n:=fun hh=>h (hh.2 k.toNat (by omega))
theorem seenW_zero (c:Int):seenW 0 c 0:=fun x=>.inr ⟨mg_zero x,fun j hj=>by omega⟩
theorem seenW_new {m c k x:Int} (h:seenW m c k) (e:IntKind.i64.wrap (mg m x+1)=1):∀ j:Nat,(j:Int) < k→fl c j 0≠x:=by
 rcases h x with ⟨h1,_⟩ | ⟨_,h1⟩
 ·rw [h1] at e;exact absurd e (by decide)
 ·exact h1
theorem seenW_old {m c k x:Int} (h:seenW m c k) (e:¬ IntKind.i64.wrap (mg m x+1)=1):∃ j:Nat,(j:Int) < k∧fl c j 0=x:=by
 rcases h x with ⟨_,h1⟩ | ⟨h1,_⟩
 ·exact h1
 ·rw [h1] at e;exact absurd (by decide) e
theorem seenW_ext {m c k:Int} (h:seenW m c k) (h0:0≤k) (e:IntKind.i64.wrap (mg m (fl c k.toNat 0)+1)=1):seenW (ms m (fl c k.toNat 0) (IntKind.i64.wrap (mg m (fl c k.toNat 0)+1))) c (k+1):=by
 intro x
 rw [mg_ms,e]
 by_cases hx:x=fl c k.toNat 0
 ·rw [if_pos hx];exact .inl ⟨by decide,k.toNat,by omega,hx.symm⟩
 ·rw [if_neg hx]
  rcases h x with ⟨h1,j,h2,h3⟩ | ⟨h1,h2⟩
  ·exact .inl ⟨h1,j,by omega,h3⟩
  ·refine .inr ⟨h1,fun j hj=>?_⟩
   by_cases e2:j=k.toNat
   ·rw [e2];exact fun hh=>hx hh.symm
   ·exact h2 j (by omega)
def wMay_L0:List Lf:=
 let f0_:List (SB×Bool):=[((.lt (.c 255) (.v 0)),.false),((.lt (.v 0) (.c 0)),.false)]
 let f1_:List (SB×Bool):=((.lt (.v 1) (.c 1)),.false)::f0_
 let f2_:List (SB×Bool):=((.lt (.c 1099511627776) (.v 1)),.false)::f1_
 let f3_:List (SB×Bool):=((.lt (.v 2) (.c 1)),.false)::f2_
 let f4_:List (SB×Bool):=((.lt (.c 5) (.v 2)),.false)::f3_
 let f5_:List (SB×Bool):=((.lt (.v 3) (.c 0)),.false)::f4_
 let f6_:List (SB×Bool):=((.lt (.c 3) (.v 3)),.false)::f5_
 let f7_:List (SB×Bool):=((.lt (.v 4) (.c 0)),.false)::f6_
 [(.fin ([((.lt (.v 0) (.c 0)),.true)]) 0 ⟨⟨[],[]⟩,[],[],[]⟩ [(.eb (.ap 32 (.v 0) (.v 1) (.v 2) (.v 3) (.v 4) (.c 0)) (.c .false))] []),
  (.fin ([((.lt (.c 255) (.v 0)),.true),((.lt (.v 0) (.c 0)),.false)]) 0 ⟨⟨[],[]⟩,[],[],[]⟩ [(.eb (.ap 32 (.v 0) (.v 1) (.v 2) (.v 3) (.v 4) (.c 0)) (.c .false))] []),
  (.fin (((.lt (.v 1) (.c 1)),.true)::f0_) 0 ⟨⟨[],[]⟩,[],[],[]⟩ [(.eb (.ap 32 (.v 0) (.v 1) (.v 2) (.v 3) (.v 4) (.c 0)) (.c .false))] []),
  (.fin (((.lt (.c 1099511627776) (.v 1)),.true)::f1_) 0 ⟨⟨[],[]⟩,[],[],[]⟩ [(.eb (.ap 32 (.v 0) (.v 1) (.v 2) (.v 3) (.v 4) (.c 0)) (.c .false))] []),
  (.fin (((.lt (.v 2) (.c 1)),.true)::f2_) 0 ⟨⟨[],[]⟩,[],[],[]⟩ [(.eb (.ap 32 (.v 0) (.v 1) (.v 2) (.v 3) (.v 4) (.c 0)) (.c .false))] []),
  (.fin (((.lt (.c 5) (.v 2)),.true)::f3_) 0 ⟨⟨[],[]⟩,[],[],[]⟩ [(.eb (.ap 32 (.v 0) (.v 1) (.v 2) (.v 3) (.v 4) (.c 0)) (.c .false))] []),
  (.fin (((.lt (.v 3) (.c 0)),.true)::f4_) 0 ⟨⟨[],[]⟩,[],[],[]⟩ [(.eb (.ap 32 (.v 0) (.v 1) (.v 2) (.v 3) (.v 4) (.c 0)) (.c .false))] []),
  (.fin (((.lt (.c 3) (.v 3)),.true)::f5_) 0 ⟨⟨[],[]⟩,[],[],[]⟩ [(.eb (.ap 32 (.v 0) (.v 1) (.v 2) (.v 3) (.v 4) (.c 0)) (.c .false))] []),
  (.fin (((.lt (.v 4) (.c 0)),.true)::f6_) 0 ⟨⟨[],[]⟩,[],[],[]⟩ [(.eb (.ap 32 (.v 0) (.v 1) (.v 2) (.v 3) (.v 4) (.c 0)) (.c .false))] []),
  (.fin (((.lt (.c 64) (.v 4)),.true)::f7_) 0 ⟨⟨[],[]⟩,[],[],[]⟩ [(.eb (.ap 32 (.v 0) (.v 1) (.v 2) (.v 3) (.v 4) (.c 0)) (.c .false))] []),
  (.fin (((.lt (.c 64) (.v 4)),.false)::f7_) 0 ⟨⟨[],[]⟩,[],[],[]⟩ [(.eb (.ap 32 (.v 0) (.v 1) (.v 2) (.v 3) (.v 4) (.c 0)) (.c .true))] [])]
def wMay_run (T:Tm):=(ex (ccOf Try.prog BF [58,84] wMay) ((fun _=>[]) (ccOf Try.prog BF [58,84] wMay)) (dw (ccOf Try.prog BF [58,84] wMay) ((fun _=>[]) (ccOf Try.prog BF [58,84] wMay)) 1000 4) (stopX [130]) 4000 T.f T.fs T.H).lfs (ccOf Try.prog BF [58,84] wMay) ((tm0 wMay Try.f130 (Try.f130.body.getD .skip))::[]) wMay.os
theorem wMay_h0:wMay_run (tm0 wMay Try.f130 (Try.f130.body.getD .skip))=some wMay_L0:=by kernel_rfl
def wMay_inv:(Nat→Int)→(Nat→Bool)→Nat→(Nat→Int)→(Nat→Bool)→Prop:=fun _ _ _ _ _=>True
def wMay_mu:(Nat→Int)→(Nat→Bool)→Nat→(Nat→Int)→(Nat→Bool)→Nat:=fun _ _ _ _ _=>0
theorem wMay_b {iv0:Nat→Int} (hin:InB wMay.B iv0):((-9223372036854775808)≤iv0 0∧iv0 0≤9223372036854775807)∧((-9223372036854775808)≤iv0 1∧iv0 1≤9223372036854775807)∧((-9223372036854775808)≤iv0 2∧iv0 2≤9223372036854775807)∧((-9223372036854775808)≤iv0 3∧iv0 3≤9223372036854775807)∧((-9223372036854775808)≤iv0 4∧iv0 4≤9223372036854775807)∧((-9223372036854775808)≤iv0 5∧iv0 5≤9223372036854775807):=by
 have b0:=hin 0 (-9223372036854775808) 9223372036854775807 (by simp [wMay,bW,gW,fM,lW,ap3,pb3,pb4,ints,mayV,i64s,i64b,kW,two,b2,lmap])
 simp only [Int.reduceLE,reduceIte,Int.reduceNeg] at b0
 have b1:=hin 1 (-9223372036854775808) 9223372036854775807 (by simp [wMay,bW,gW,fM,lW,ap3,pb3,pb4,ints,mayV,i64s,i64b,kW,two,b2,lmap])
 simp only [Int.reduceLE,reduceIte,Int.reduceNeg] at b1
 have b2:=hin 2 (-9223372036854775808) 9223372036854775807 (by simp [wMay,bW,gW,fM,lW,ap3,pb3,pb4,ints,mayV,i64s,i64b,kW,two,b2,lmap])
 simp only [Int.reduceLE,reduceIte,Int.reduceNeg] at b2
 have b3:=hin 3 (-9223372036854775808) 9223372036854775807 (by simp [wMay,bW,gW,fM,lW,ap3,pb3,pb4,ints,mayV,i64s,i64b,kW,two,b2,lmap])
 simp only [Int.reduceLE,reduceIte,Int.reduceNeg] at b3
 have b4:=hin 4 (-9223372036854775808) 9223372036854775807 (by simp [wMay,bW,gW,fM,lW,ap3,pb3,pb4,ints,mayV,i64s,i64b,kW,two,b2,lmap])
 simp only [Int.reduceLE,reduceIte,Int.reduceNeg] at b4
 have b5:=hin 5 (-9223372036854775808) 9223372036854775807 (by simp [wMay,bW,gW,fM,lW,ap3,pb3,pb4,ints,mayV,i64s,i64b,kW,two,b2,lmap])
 simp only [Int.reduceLE,reduceIte,Int.reduceNeg] at b5
 exact ⟨b0,b1,b2,b3,b4,b5⟩
def wMay_ob (k:Nat) (l:List Lf):Prop:=∀ (kv:Kv) (iv0:Nat→Int) (bv0:Nat→Bool),InB wMay.B iv0→FT (sta FI FB kv iv0 bv0) (dlt dyn0) wMay.F→∀ (iv:Nat→Int) (bv:Nat→Bool),Agr 6 iv0 bv0 iv bv→wMay_inv iv0 bv0 k iv bv→∀ lf∈l,LfT (sta FI FB kv) wMay.os (wMay_inv iv0 bv0) (wMay_mu iv0 bv0) k iv bv lf
theorem wMay_o0:wMay_ob 0 wMay_L0:=by
 intro kv iv0 bv0 hin hF iv bv ha hi
 unfold wMay_L0
 refine List.forall_mem_cons.2 ⟨?_,List.forall_mem_cons.2 ⟨?_,List.forall_mem_cons.2 ⟨?_,List.forall_mem_cons.2 ⟨?_,List.forall_mem_cons.2 ⟨?_,List.forall_mem_cons.2 ⟨?_,List.forall_mem_cons.2 ⟨?_,List.forall_mem_cons.2 ⟨?_,List.forall_mem_cons.2 ⟨?_,List.forall_mem_cons.2 ⟨?_,List.forall_mem_cons.2 ⟨?_,List.forall_mem_nil _⟩⟩⟩⟩⟩⟩⟩⟩⟩⟩⟩
 all_goals
  intro δ hf
 all_goals
  obtain ⟨b0,b1,b2,b3,b4,b5⟩:=wMay_b hin
 all_goals
  have a0:=ha.1 0 (by omega)
  have a1:=ha.1 1 (by omega)
  have a2:=ha.1 2 (by omega)
  have a3:=ha.1 3 (by omega)
  have a4:=ha.1 4 (by omega)
  have a5:=ha.1 5 (by omega)
 all_goals
  simp only [FT,TP,SB.tp,SI.tv,sta,IB.eval,and_true,true_and,ObsT,Ob.Tv,rowT,kix,In.tiv,↓tbvT,In.tbv,get_cons,get_nil,reduceIte,Nat.reduceEqDiff,Int.reduceToNat,Int.reduceAdd,Int.reduceSub,Int.reduceLE,Int.reduceLT,Int.reduceEq,ne_eq,Bool.false_eq_true,not_true_eq_false,not_false_eq_true,true_iff,false_iff,iff_true,iff_false,false_implies,implies_true,decT,decide_true,decide_false,Bool.decide_eq_true,ap2,pb2,FI_3,FI_8,FI_9,FI_32,FB_32,FI_3g,FI_8m,Int.toNat_natCast,Int.toNat_zero,wMay_inv,wMay_mu,wMay,o1,othT,bW,gW,fM,lW,ap3,pb3,pb4,ints,mayV,i64s,i64b,kW,two,b2,lmap,a0,a1,a2,a3,a4,a5] at hf hi ⊢
 all_goals
  (repeat' (with_reducible apply And.intro))<;>first
  | omega
  | assumption
  | (unfold inM;omega)
  | (unfold mayW;omega)
  | (simp only [mayW];omega)
theorem wMay_c:LsC ((tm0 wMay Try.f130 (Try.f130.body.getD .skip))::[]) wMay.os [wMay_L0]:=by
 unfold wMay_L0
 exact ⟨List.forall_mem_cons.2 ⟨⟨⟨_,rfl,rfl⟩,by kernel_rfl⟩,List.forall_mem_cons.2 ⟨⟨⟨_,rfl,rfl⟩,by kernel_rfl⟩,List.forall_mem_cons.2 ⟨⟨⟨_,rfl,rfl⟩,by kernel_rfl⟩,List.forall_mem_cons.2 ⟨⟨⟨_,rfl,rfl⟩,by kernel_rfl⟩,List.forall_mem_cons.2 ⟨⟨⟨_,rfl,rfl⟩,by kernel_rfl⟩,List.forall_mem_cons.2 ⟨⟨⟨_,rfl,rfl⟩,by kernel_rfl⟩,List.forall_mem_cons.2 ⟨⟨⟨_,rfl,rfl⟩,by kernel_rfl⟩,List.forall_mem_cons.2 ⟨⟨⟨_,rfl,rfl⟩,by kernel_rfl⟩,List.forall_mem_cons.2 ⟨⟨⟨_,rfl,rfl⟩,by kernel_rfl⟩,List.forall_mem_cons.2 ⟨⟨⟨_,rfl,rfl⟩,by kernel_rfl⟩,List.forall_mem_cons.2 ⟨⟨⟨_,rfl,rfl⟩,by kernel_rfl⟩,List.forall_mem_nil _⟩⟩⟩⟩⟩⟩⟩⟩⟩⟩⟩,trivial⟩
theorem wMay_ok:wMay.Ok Try.prog FI FB:=
 Con.of_plain (body:=Try.f130.body.getD .skip) pok fiok EntsFor.nil wMay Try.func130 (by kernel_rfl) 6 [] (by kernel_rfl) [wMay_L0] ⟨wMay_h0,trivial⟩ wMay_c
  wMay_inv wMay_mu (fun _ _ _=>trivial) fun kv iv0 bv0 hin hF k l iv bv hk ha hi=>match k,hk,hi with
  | 0,hk,hi=>by
    cases hk
    exact wMay_o0 kv iv0 bv0 hin hF iv bv ha hi
  | k+1,hk,_=>by simp at hk
def wRight_T1:Tm:=⟨⟨131,19,[(8,(.it .i64 (.v 24))),(7,(.it .i64 (.v 1))),(0,(.sl (.k 0) (.v 2) (.v 1) (.v 3))),(1,(.fn 153 [] [(.pt (.n 2) (.c 0))]))],[(.code (atC Try.f131 [1,0,1,0,0])),(.inLoop (atC Try.f131 [1,0,1,0,0])),(.inBlock 0),(.code (atC Try.f131 [1,1]))],[],.none⟩,[⟨152,9,[(6,(.fn 153 [] [(.pt (.n 2) (.c 0))])),(5,(.sl (.k 0) (.v 2) (.v 1) (.v 3)))],[(.inRegion (opsC (atC Try.f152 [1,0])) [2,3,4]),(.code Code.ret)],[],.none⟩,⟨125,9,[(6,(.fn 153 [] [(.pt (.n 2) (.c 0))])),(5,(.sl (.k 0) (.v 2) (.v 1) (.v 3)))],[(.inRegion (opsC (atC Try.f125 [1,0])) [2,3,4]),(.code Code.ret)],[],.none⟩,⟨115,13,[(10,(.fn 147 [] [(.pt (.n 1) (.c 0))])),(9,(.sl (.k 0) (.v 2) (.v 1) (.v 3))),(8,(.bo (.le (.v 1) (.c 256))))],[(.inRegion (opsC (atC Try.f115 [1,1,0])) [6,7,8]),(.code Code.ret)],[],.none⟩],
    ⟨[(0,(.mapc .i64 .i64 (.v 25))),(1,(.cells [(.mp (.n 0))] 99)),(2,(.cells [(.fn 147 [] [(.pt (.n 1) (.c 0))])] 155))],3,0,0,[((.le (.v 1) (.c 256)),.true),((.le (.v 1) (.v 3)),.true),((.le (.c 0) (.v 3)),.true)],[1,0],[(1,(0,256)),(2,(0,(-1))),(24,(0,(-1)))]⟩,[24,25]⟩
def wRight_L0:List Lf:=
 let f0_:List (SB×Bool):=[((.le (.v 1) (.v 3)),.true),((.le (.c 0) (.v 3)),.true)]
 [(let i_:In:=⟨⟨[(25,(.c 0)),(24,(.c 0))],[]⟩,[(0,0),(1,1),(2,2)],[],[]⟩;.cut (((.le (.v 1) (.c 256)),.true)::f0_) 1 i_ [] (shT wRight_T1 i_)),
  (.fin (((.le (.v 1) (.c 256)),.false)::f0_) 0 ⟨⟨[],[]⟩,[],[],[]⟩ [(.eb (.ap 30 (.v 0) (.v 1) (.c 0) (.c 0) (.c 0) (.c 0)) (.c .false))] [])]
def wRight_L1:List Lf:=
 let x0_:SI:=(.ap 3 (.v 0) (.v 24) (.c 0) (.c 0) (.c 0) (.c 0))
 let x1_:SI:=(.ap 3 (.v 0) (.v 24) (.c 1) (.c 0) (.c 0) (.c 0))
 let x2_:SI:=(.ap 3 (.v 0) (.v 24) (.c 2) (.c 0) (.c 0) (.c 0))
 let x3_:SI:=(.ap 3 (.v 0) (.v 24) (.c 3) (.c 0) (.c 0) (.c 0))
 let x4_:SI:=(.ap 3 (.v 0) (.v 24) (.c 4) (.c 0) (.c 0) (.c 0))
 let x5_:SI:=(.wk .i64 (.op .add (.ap 3 (.v 25) x0_ (.c 0) (.c 1) (.c 0) (.c 0)) (.c 1)))
 let f0_:List (SB×Bool):=[((.le (.v 1) (.c 256)),.true),((.le (.v 1) (.v 3)),.true),((.le (.c 0) (.v 3)),.true)]
 let f1_:List (SB×Bool):=((.lt (.v 24) (.v 1)),.true)::f0_
 let f2_:List (SB×Bool):=((.ap 32 x0_ x1_ x2_ x3_ x4_ (.c 0)),.true)::f1_
 [(let i_:In:=⟨⟨[(25,(.ap 8 (.v 25) x0_ (.c 0) x5_ (.c 1) (.c 0))),(24,(.op .add (.v 24) (.c 1)))],[]⟩,[(0,0),(1,1),(2,2)],[],[]⟩;.cut (((.eq x5_ (.c 1)),.true)::f2_) 1 i_ [] (shT wRight_T1 i_)),
  (.fin (((.eq x5_ (.c 1)),.false)::f2_) 0 ⟨⟨[],[]⟩,[],[],[]⟩ [(.eb (.ap 30 (.v 0) (.v 1) (.c 0) (.c 0) (.c 0) (.c 0)) (.c .false))] []),
  (.fin (((.ap 32 x0_ x1_ x2_ x3_ x4_ (.c 0)),.false)::f1_) 0 ⟨⟨[],[]⟩,[],[],[]⟩ [(.eb (.ap 30 (.v 0) (.v 1) (.c 0) (.c 0) (.c 0) (.c 0)) (.c .false))] []),
  (.fin (((.lt (.v 24) (.v 1)),.false)::f0_) 0 ⟨⟨[],[]⟩,[],[],[]⟩ [(.eb (.ap 30 (.v 0) (.v 1) (.c 0) (.c 0) (.c 0) (.c 0)) (.c .true))] [])]
def wRight_run (T:Tm):=(ex (ccOf Try.prog BF [58,84] wRight) ((fun cc=>[wMay.ent cc]) (ccOf Try.prog BF [58,84] wRight)) (dw (ccOf Try.prog BF [58,84] wRight) ((fun cc=>[wMay.ent cc]) (ccOf Try.prog BF [58,84] wRight)) 1000 4) (stopX []) 4000 T.f T.fs T.H).lfs (ccOf Try.prog BF [58,84] wRight) ((tm0 wRight Try.f115 (Try.f115.body.getD .skip))::[wRight_T1]) wRight.os
theorem wRight_h0:wRight_run (tm0 wRight Try.f115 (Try.f115.body.getD .skip))=some wRight_L0:=by kernel_rfl
theorem wRight_h1:wRight_run wRight_T1=some wRight_L1:=by kernel_rfl
def wRight_inv:(Nat→Int)→(Nat→Bool)→Nat→(Nat→Int)→(Nat→Bool)→Prop:=fun iv0 _ k iv _=>match k with
 | 0=>True
 | _=>iv0 1≤256∧0≤iv 24∧iv 24≤iv0 1∧mayX (iv0 0) (iv 24)∧seenW (iv 25) (iv0 0) (iv 24)
def wRight_mu:(Nat→Int)→(Nat→Bool)→Nat→(Nat→Int)→(Nat→Bool)→Nat:=fun iv0 _ k iv _=>match k with | 0=>2 ^ 80 | _=>(iv0 1 - iv 24).toNat
theorem wRight_b {iv0:Nat→Int} (hin:InB wRight.B iv0):(0≤iv0 1∧iv0 1≤1000):=by
 have b1:=hin 1 0 1000 (by simp [wRight,bW,gW,fM,lW,ap3,pb3,pb4,ints,mayV,i64s,i64b,kW,two,b2,lmap])
 simp only [Int.reduceLE,reduceIte,Int.reduceNeg] at b1
 exact b1
def wRight_ob (k:Nat) (l:List Lf):Prop:=∀ (kv:Kv) (iv0:Nat→Int) (bv0:Nat→Bool),InB wRight.B iv0→FT (sta FI FB kv iv0 bv0) (dlt dyn0) wRight.F→∀ (iv:Nat→Int) (bv:Nat→Bool),Agr 4 iv0 bv0 iv bv→wRight_inv iv0 bv0 k iv bv→∀ lf∈l,LfT (sta FI FB kv) wRight.os (wRight_inv iv0 bv0) (wRight_mu iv0 bv0) k iv bv lf
theorem wRight_o0:wRight_ob 0 wRight_L0:=by
 intro kv iv0 bv0 hin hF iv bv ha hi
 unfold wRight_L0
 refine List.forall_mem_cons.2 ⟨?_,List.forall_mem_cons.2 ⟨?_,List.forall_mem_nil _⟩⟩
 all_goals
  intro δ hf
 all_goals
  have b1:=wRight_b hin
 all_goals
  have a0:=ha.1 0 (by omega)
  have a1:=ha.1 1 (by omega)
  have a2:=ha.1 2 (by omega)
  have a3:=ha.1 3 (by omega)
 all_goals
  simp only [FT,TP,SB.tp,SI.tv,sta,IB.eval,and_true,true_and,ObsT,Ob.Tv,rowT,kix,In.tiv,↓tbvT,In.tbv,get_cons,get_nil,reduceIte,Nat.reduceEqDiff,Int.reduceToNat,Int.reduceAdd,Int.reduceSub,Int.reduceLE,Int.reduceLT,Int.reduceEq,ne_eq,Bool.false_eq_true,not_true_eq_false,not_false_eq_true,true_iff,false_iff,iff_true,iff_false,false_implies,implies_true,decT,decide_true,decide_false,Bool.decide_eq_true,ap2,pb2,FI_3,FI_8,FI_9,FI_30,FI_32,FB_30,FB_32,FI_3g,FI_8m,Int.toNat_natCast,Int.toNat_zero,wRight_inv,wRight_mu,wRight,o1,othT,bW,gW,fM,lW,ap3,pb3,pb4,ints,mayV,i64s,i64b,kW,two,b2,lmap,a0,a1,a2,a3] at hf hi ⊢
 all_goals
  (repeat' (with_reducible apply And.intro))<;>first
  | omega
  | assumption
  | (unfold inM;omega)
  | exact seenW_zero _
  | exact fun i hi=>by omega
  | (exact fun h=>absurd h.1 (by omega))
theorem wRight_o1:wRight_ob 1 wRight_L1:=by
 intro kv iv0 bv0 hin hF iv bv ha hi
 unfold wRight_L1
 refine List.forall_mem_cons.2 ⟨?_,List.forall_mem_cons.2 ⟨?_,List.forall_mem_cons.2 ⟨?_,List.forall_mem_cons.2 ⟨?_,List.forall_mem_nil _⟩⟩⟩⟩
 all_goals
  intro δ hf
 all_goals
  have b1:=wRight_b hin
 all_goals
  have a0:=ha.1 0 (by omega)
  have a1:=ha.1 1 (by omega)
  have a2:=ha.1 2 (by omega)
  have a3:=ha.1 3 (by omega)
 all_goals
  simp only [FT,TP,SB.tp,SI.tv,sta,IB.eval,and_true,true_and,ObsT,Ob.Tv,rowT,kix,In.tiv,↓tbvT,In.tbv,get_cons,get_nil,reduceIte,Nat.reduceEqDiff,Int.reduceToNat,Int.reduceAdd,Int.reduceSub,Int.reduceLE,Int.reduceLT,Int.reduceEq,ne_eq,Bool.false_eq_true,not_true_eq_false,not_false_eq_true,true_iff,false_iff,iff_true,iff_false,false_implies,implies_true,decT,decide_true,decide_false,Bool.decide_eq_true,ap2,pb2,FI_3,FI_8,FI_9,FI_30,FI_32,FB_30,FB_32,FI_3g,FI_8m,Int.toNat_natCast,Int.toNat_zero,wRight_inv,wRight_mu,wRight,o1,othT,bW,gW,fM,lW,ap3,pb3,pb4,ints,mayV,i64s,i64b,kW,two,b2,lmap,a0,a1,a2,a3] at hf hi ⊢
 all_goals
  (repeat' (with_reducible apply And.intro))<;>first
  | omega
  | assumption
  | (unfold inM;omega)
  | exact seenW_ext hi.2.2.2.2 hi.2.1 (by assumption)
  | (exact seenW_ext hi.2.2.2.2 hi.2.1 (by first | exact hf.1 | exact hf.2.1))
  | (exact mayX_ext hi.2.2.2.1 hi.2.1 (by first | exact hf.1 | exact hf.2.1) (fun j hj=>seenW_new hi.2.2.2.2 (by first | exact hf.1 | exact hf.2.1) j (by omega)))
  | (exact mayX_not hi.2.1 (by omega) fun h=>by first | exact hf.1 h.1 | (obtain ⟨j,h1,h2⟩:=seenW_old hi.2.2.2.2 hf.1;exact h.2 j (by omega) h2))
  | (refine ⟨hi.1,?_⟩;rw [show iv0 1=iv 24 by omega];exact hi.2.2.2.1)
theorem wRight_c:LsC ((tm0 wRight Try.f115 (Try.f115.body.getD .skip))::[wRight_T1]) wRight.os [wRight_L0,wRight_L1]:=by
 unfold wRight_L0 wRight_L1
 exact ⟨List.forall_mem_cons.2 ⟨⟨⟨_,rfl,rfl⟩,by kernel_rfl⟩,List.forall_mem_cons.2 ⟨⟨⟨_,rfl,rfl⟩,by kernel_rfl⟩,List.forall_mem_nil _⟩⟩,List.forall_mem_cons.2 ⟨⟨⟨_,rfl,rfl⟩,by kernel_rfl⟩,List.forall_mem_cons.2 ⟨⟨⟨_,rfl,rfl⟩,by kernel_rfl⟩,List.forall_mem_cons.2 ⟨⟨⟨_,rfl,rfl⟩,by kernel_rfl⟩,List.forall_mem_cons.2 ⟨⟨⟨_,rfl,rfl⟩,by kernel_rfl⟩,List.forall_mem_nil _⟩⟩⟩⟩,trivial⟩
theorem wRight_ok:wRight.Ok Try.prog FI FB:=
 Con.of_plain (body:=Try.f115.body.getD .skip) pok fiok (EntsFor.cons wMay_ok EntsFor.nil) wRight Try.func115 (by kernel_rfl) 4 [wRight_T1] (by kernel_rfl) [wRight_L0,wRight_L1] ⟨wRight_h0,wRight_h1,trivial⟩ wRight_c
  wRight_inv wRight_mu (fun _ _ _=>trivial) fun kv iv0 bv0 hin hF k l iv bv hk ha hi=>match k,hk,hi with
  | 0,hk,hi=>by
    cases hk
    exact wRight_o0 kv iv0 bv0 hin hF iv bv ha hi
  | 1,hk,hi=>by
    cases hk
    exact wRight_o1 kv iv0 bv0 hin hF iv bv ha hi
  | k+2,hk,_=>by simp at hk
def wFits_L0:List Lf:=
 [(.fin ([((.ap 10 (.v 0) (.v 1) (.c 0) (.c 0) (.c 0) (.c 0)),.true)]) 0 ⟨⟨[],[]⟩,[],[],[]⟩ [(.eb (.ap 10 (.v 0) (.v 1) (.c 0) (.c 0) (.c 0) (.c 0)) (.eq (.ap 10 (.v 0) (.v 1) (.c 0) (.c 0) (.c 0) (.c 0)) (.c 0)))] []),
  (.fin ([((.ap 10 (.v 0) (.v 1) (.c 0) (.c 0) (.c 0) (.c 0)),.false)]) 0 ⟨⟨[],[]⟩,[],[],[]⟩ [(.eb (.ap 10 (.v 0) (.v 1) (.c 0) (.c 0) (.c 0) (.c 0)) (.c .false))] [])]
def wFits_run (T:Tm):=(ex (ccOf Try.prog BF [58,84] wFits) ((fun cc=>[eFits.ent cc]) (ccOf Try.prog BF [58,84] wFits)) (dw (ccOf Try.prog BF [58,84] wFits) ((fun cc=>[eFits.ent cc]) (ccOf Try.prog BF [58,84] wFits)) 1000 4) (stopX []) 4000 T.f T.fs T.H).lfs (ccOf Try.prog BF [58,84] wFits) ((tm0 wFits Try.f122 (Try.f122.body.getD .skip))::[]) wFits.os
theorem wFits_h0:wFits_run (tm0 wFits Try.f122 (Try.f122.body.getD .skip))=some wFits_L0:=by kernel_rfl
def wFits_inv:(Nat→Int)→(Nat→Bool)→Nat→(Nat→Int)→(Nat→Bool)→Prop:=fun _ _ _ _ _=>True
def wFits_mu:(Nat→Int)→(Nat→Bool)→Nat→(Nat→Int)→(Nat→Bool)→Nat:=fun _ _ _ _ _=>0
theorem wFits_b {iv0:Nat→Int} (hin:InB wFits.B iv0):((-9223372036854775808)≤iv0 0∧iv0 0≤9223372036854775807)∧((-9223372036854775808)≤iv0 1∧iv0 1≤9223372036854775807):=by
 have b0:=hin 0 (-9223372036854775808) 9223372036854775807 (by simp [wFits,bW,gW,fM,lW,ap3,pb3,pb4,ints,mayV,i64s,i64b,kW,two,b2,lmap])
 simp only [Int.reduceLE,reduceIte,Int.reduceNeg] at b0
 have b1:=hin 1 (-9223372036854775808) 9223372036854775807 (by simp [wFits,bW,gW,fM,lW,ap3,pb3,pb4,ints,mayV,i64s,i64b,kW,two,b2,lmap])
 simp only [Int.reduceLE,reduceIte,Int.reduceNeg] at b1
 exact ⟨b0,b1⟩
def wFits_ob (k:Nat) (l:List Lf):Prop:=∀ (kv:Kv) (iv0:Nat→Int) (bv0:Nat→Bool),InB wFits.B iv0→FT (sta FI FB kv iv0 bv0) (dlt dyn0) wFits.F→∀ (iv:Nat→Int) (bv:Nat→Bool),Agr 2 iv0 bv0 iv bv→wFits_inv iv0 bv0 k iv bv→∀ lf∈l,LfT (sta FI FB kv) wFits.os (wFits_inv iv0 bv0) (wFits_mu iv0 bv0) k iv bv lf
theorem wFits_o0:wFits_ob 0 wFits_L0:=by
 intro kv iv0 bv0 hin hF iv bv ha hi
 unfold wFits_L0
 refine List.forall_mem_cons.2 ⟨?_,List.forall_mem_cons.2 ⟨?_,List.forall_mem_nil _⟩⟩
 all_goals
  intro δ hf
 all_goals
  obtain ⟨b0,b1⟩:=wFits_b hin
 all_goals
  have a0:=ha.1 0 (by omega)
  have a1:=ha.1 1 (by omega)
 all_goals
  simp only [FT,TP,SB.tp,SI.tv,sta,IB.eval,and_true,true_and,ObsT,Ob.Tv,rowT,kix,In.tiv,↓tbvT,In.tbv,get_cons,get_nil,reduceIte,Nat.reduceEqDiff,Int.reduceToNat,Int.reduceAdd,Int.reduceSub,Int.reduceLE,Int.reduceLT,Int.reduceEq,ne_eq,Bool.false_eq_true,not_true_eq_false,not_false_eq_true,true_iff,false_iff,iff_true,iff_false,false_implies,implies_true,decT,decide_true,decide_false,Bool.decide_eq_true,ap2,pb2,FI_3,FI_8,FI_9,FI_10,FB_10,FI_3g,FI_8m,Int.toNat_natCast,Int.toNat_zero,wFits_inv,wFits_mu,wFits,o1,othT,bW,gW,fM,lW,ap3,pb3,pb4,ints,mayV,i64s,i64b,kW,two,b2,lmap,a0,a1] at hf hi ⊢
 all_goals
  (repeat' (with_reducible apply And.intro))<;>first
  | omega
  | assumption
  | (unfold inM;omega)
  | (unfold inM at *;simp_all;done)
  | (simp_all;done)
theorem wFits_c:LsC ((tm0 wFits Try.f122 (Try.f122.body.getD .skip))::[]) wFits.os [wFits_L0]:=by
 unfold wFits_L0
 exact ⟨List.forall_mem_cons.2 ⟨⟨⟨_,rfl,rfl⟩,by kernel_rfl⟩,List.forall_mem_cons.2 ⟨⟨⟨_,rfl,rfl⟩,by kernel_rfl⟩,List.forall_mem_nil _⟩⟩,trivial⟩
theorem wFits_ok:wFits.Ok Try.prog FI FB:=
 Con.of_plain (body:=Try.f122.body.getD .skip) pok fiok (EntsFor.cons eFits_ok EntsFor.nil) wFits Try.func122 (by kernel_rfl) 2 [] (by kernel_rfl) [wFits_L0] ⟨wFits_h0,trivial⟩ wFits_c
  wFits_inv wFits_mu (fun _ _ _=>trivial) fun kv iv0 bv0 hin hF k l iv bv hk ha hi=>match k,hk,hi with
  | 0,hk,hi=>by
    cases hk
    exact wFits_o0 kv iv0 bv0 hin hF iv bv ha hi
  | k+1,hk,_=>by simp at hk
end
end Go.Sx.Mhw
