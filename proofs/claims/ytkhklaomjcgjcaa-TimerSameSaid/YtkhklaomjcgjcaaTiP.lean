/- Timers: lists of numbers, by contract. -/
import Derived.Test.YtkhklaomjcgjcaaTiO
namespace Go.Sx.Ti
set_option linter.unusedVariables false
set_option linter.unusedSimpArgs false
set_option maxRecDepth 100000
set_option maxHeartbeats 0
noncomputable section
open Go Go.Sx Go.Proofs
def kT:List Kd:=[.nt .i64,.nt .i64]
def lT:SV:=.sl (.k 0) (.v 2) (.v 1) (.v 3)
def qT:SV:=.ag [.it .i64 (.v 4),lT]
def gT:List Gv:=[⟨0,.v 2,kT,0,.v 1⟩]
def bT:List (Nat×Int×Int):=[(1,0,4096),(2,0,-1),i64b 4]
def bT5:List (Nat×Int×Int):=i64b 5::bT
def bT6:List (Nat×Int×Int):=i64b 6::bT5
def fT:List (SB×Bool):=[(.le (.v 1) (.v 3),true),(.le (.c 0) (.v 3),true)]
def fnT:SI:=.ap 26 (.v 0) (.v 1) (.v 5) (.c 0) (.c 0) (.c 0)
def pnT:SI:=.ap 24 (.v 0) (.v 1) (.v 5) (.v 6) (.c 0) (.c 0)
def rFind:Con:=⟨38,[0,1,2,3,4,5],[qT,.it .i64 (.v 5)],gT,bT5,fT,[⟨[],.it .i64 fnT,[],0,0,[(.lt fnT (.v 1),true),(.le (.c (-1)) fnT,true)]⟩]⟩
def oQ (cs:List (SB×Bool)) (n:Int):Out:=⟨cs,.tp [qT,.it .i64 (.c n)],[],0,0,[]⟩
def n0F:SB×Bool:=(.lt (.v 5) (.c 0),false)
def a0F:SB×Bool:=(.lt (.v 6) (.c 0),false)
def a1T:SB×Bool:=(.le (.v 6) (.c 1099511627776),true)
def rArm:Con:=⟨35,[0,1,2,3,4,5,6],[qT,.it .i64 (.v 5),.it .i64 (.v 6)],gT,bT6,fT,
 [oQ [(.lt (.v 5) (.c 0),true)] 2,oQ [n0F,(.lt (.v 6) (.c 0),true)] 2,oQ [n0F,a0F,(.le (.v 6) (.c 1099511627776),false)] 2,oQ [n0F,a0F,a1T,(.le (.c 0) fnT,true)] 160,oQ [n0F,a0F,a1T,(.le (.c 0) fnT,false),(.lt (.v 1) (.c 1024),false)] 3,
  ⟨[n0F,a0F,a1T,(.le (.c 0) fnT,false),(.lt (.v 1) (.c 1024),true)],.tp [.ag [.it .i64 (.v 4),.sl (.n 0) (.c 0) (.op .add (.v 1) (.c 1)) (.d 0)],.it .i64 (.c 0)],[(0,.arr kT (.ap 25 (.v 0) (.v 1) pnT (.v 5) (.v 6) (.c 0)) (.op .add (.v 1) (.c 1)) 62 (.d 0))],1,1,[(.le (.op .add (.v 1) (.c 1)) (.d 0),true)]⟩]⟩
def rCancel:Con:=⟨36,[0,1,2,3,4,5],[qT,.it .i64 (.v 5)],gT,bT5,fT,
 [oQ [(.lt (.v 5) (.c 0),true)] 2,oQ [n0F,(.le (.c 0) fnT,false)] 5,
  ⟨[n0F,(.le (.c 0) fnT,true)],.tp [.ag [.it .i64 (.v 4),.sl (.n 0) (.c 0) (.op .add (.v 1) (.c (-1))) (.d 0)],.it .i64 (.c 0)],[(0,.arr kT (.ap 27 (.v 0) (.v 1) fnT (.c 0) (.c 0) (.c 0)) (.op .add (.v 1) (.c (-1))) 62 (.d 0))],1,1,[(.le (.op .add (.v 1) (.c (-1))) (.d 0),true),(.lt (.c 0) (.v 1),true)]⟩]⟩
def nwT:SI:=.op .imin (.op .add (.v 4) (.c 1)) (.c 1099511627776)
def duT:SI:=.ap 28 (.v 0) (.v 1) nwT (.c 0) (.c 0) (.c 0)
def bTt:List (Nat×Int×Int):=[(1,0,4096),(2,0,-1),(4,0,1099511627776)]
def qT':SV:=.ag [.it .i64 nwT,.sl (.k 0) (.op .add (.v 2) duT) (.op .add (.v 1) (.op .mul (.c (-1)) duT)) (.op .add (.v 3) (.op .mul (.c (-1)) duT))]
def lI2:SV:=.sl (.k 1) (.v 6) (.v 5) (.v 7)
def lI1:SV:=.sl (.k 0) (.v 2) (.v 1) (.v 3)
def gI1:List Gv:=[⟨0,.v 2,kI,0,.v 1⟩]
def gI2:List Gv:=[⟨0,.v 2,kI,0,.v 1⟩,⟨1,.v 6,kI,4,.v 5⟩]
def bI2:List (Nat×Int×Int):=[(1,0,4096),(2,0,-1),(5,0,4096),(6,0,-1)]
def bI1:List (Nat×Int×Int):=[(1,0,4096),(2,0,-1)]
def fI2:List (SB×Bool):=[(.le (.v 1) (.v 3),true),(.le (.c 0) (.v 3),true),(.le (.v 5) (.v 7),true),(.le (.c 0) (.v 7),true)]
def rSame:Con:=⟨24,[0,1,2,3,4,5,6,7],[lI1,lI2],gI2,bI2,fI2,o1 (.bo (.ap 23 (.v 0) (.v 1) (.v 4) (.v 5) (.c 0) (.c 0)))⟩
def rSame0:Con:=⟨24,[0,1,2,3],[.sn,lI1],gI1,bI1,fT,o1 (.bo (.eq (.v 1) (.c 0)))⟩
def rSame1:Con:=⟨24,[0,1,2,3],[lI1,.sn],gI1,bI1,fT,o1 (.bo (.eq (.v 1) (.c 0)))⟩
def rSame2:Con:=⟨24,[],[.sn,.sn],[],[],[],o1 (.bo (.c true))⟩
theorem same_suc {a b i:Int} (h:∀ j:Nat,(j:Int) < i→fl a j 0=fl b j 0) (h0:0≤i) (e:fl a i.toNat 0=fl b i.toNat 0):∀ j:Nat,(j:Int) < i+1→fl a j 0=fl b j 0:=fun j hj=>by
 by_cases hj':(j:Int) < i
 ·exact h j hj'
 ·have:j=i.toNat:=by omega
  subst this;exact e
theorem same_not {a n b m:Int} (h:n≠m):¬ sameI a n b m:=fun hh=>h hh.1
def rSame_T1:Tm:=⟨⟨24,26,[(5,(.it .i64 (.v 28))),(0,(.sl (.k 0) (.v 2) (.v 1) (.v 3))),(1,(.sl (.k 1) (.v 6) (.v 5) (.v 7)))],[(.code (atC Try.f24 [1,1,0,1,0,0])),(.inLoop (atC Try.f24 [1,1,0,1,0,0])),(.inBlock 0),(.code (atC Try.f24 [1,1,1]))],[],.none⟩,[],
    ⟨[],0,0,0,[((.eq (.v 1) (.v 5)),.true),((.le (.v 1) (.v 3)),.true),((.le (.c 0) (.v 3)),.true),((.le (.v 5) (.v 7)),.true),((.le (.c 0) (.v 7)),.true)],[2,1,0],[(1,(0,4096)),(2,(0,(-1))),(5,(0,4096)),(6,(0,(-1))),(28,(0,(-1)))]⟩,[28]⟩
def rSame_L0:List Lf:=
 let f0_:List (SB×Bool):=[((.le (.v 1) (.v 3)),.true),((.le (.c 0) (.v 3)),.true),((.le (.v 5) (.v 7)),.true),((.le (.c 0) (.v 7)),.true)]
 [(.cut (((.eq (.v 1) (.v 5)),.true)::f0_) 1 ⟨⟨[(28,(.c 0))],[]⟩,[],[],[]⟩ [] (shT rSame_T1 ⟨⟨[(28,(.c 0))],[]⟩,[],[],[]⟩)),
  (.fin (((.eq (.v 1) (.v 5)),.false)::f0_) 0 ⟨⟨[],[]⟩,[],[],[]⟩ [(.eb (.ap 23 (.v 0) (.v 1) (.v 4) (.v 5) (.c 0) (.c 0)) (.c .false))] [])]
def rSame_L1:List Lf:=
 let x0_:SI:=(.ap 3 (.v 0) (.v 28) (.c 0) (.c 0) (.c 0) (.c 0))
 let x1_:SI:=(.ap 3 (.v 4) (.v 28) (.c 0) (.c 0) (.c 0) (.c 0))
 let f0_:List (SB×Bool):=[((.eq (.v 1) (.v 5)),.true),((.le (.v 1) (.v 3)),.true),((.le (.c 0) (.v 3)),.true),((.le (.v 5) (.v 7)),.true),((.le (.c 0) (.v 7)),.true)]
 let f1_:List (SB×Bool):=((.lt (.v 28) (.v 1)),.true)::f0_
 [(.cut (((.eq x0_ x1_),.true)::f1_) 1 ⟨⟨[(28,(.op .add (.v 28) (.c 1)))],[]⟩,[],[],[]⟩ [] (shT rSame_T1 ⟨⟨[(28,(.op .add (.v 28) (.c 1)))],[]⟩,[],[],[]⟩)),
  (.fin (((.eq x0_ x1_),.false)::f1_) 0 ⟨⟨[],[]⟩,[],[],[]⟩ [(.eb (.ap 23 (.v 0) (.v 1) (.v 4) (.v 5) (.c 0) (.c 0)) (.c .false))] []),
  (.fin (((.lt (.v 28) (.v 1)),.false)::f0_) 0 ⟨⟨[],[]⟩,[],[],[]⟩ [(.eb (.ap 23 (.v 0) (.v 1) (.v 4) (.v 5) (.c 0) (.c 0)) (.c .true))] [])]
def rSame_run (T:Tm):=(ex (ccOf Try.prog BF [62,32] rSame) ((fun _=>[]) (ccOf Try.prog BF [62,32] rSame)) (dw (ccOf Try.prog BF [62,32] rSame) ((fun _=>[]) (ccOf Try.prog BF [62,32] rSame)) 1000 4) (stopX []) 4000 T.f T.fs T.H).lfs (ccOf Try.prog BF [62,32] rSame) ((tm0 rSame Try.f24 (Try.f24.body.getD .skip))::[rSame_T1]) rSame.os
theorem rSame_h0:rSame_run (tm0 rSame Try.f24 (Try.f24.body.getD .skip))=some rSame_L0:=by kernel_rfl
theorem rSame_h1:rSame_run rSame_T1=some rSame_L1:=by kernel_rfl
def rSame_inv:(Nat→Int)→(Nat→Bool)→Nat→(Nat→Int)→(Nat→Bool)→Prop:=fun iv0 _ k iv _=>match k with | 0=>True | _=>0≤iv 28∧iv 28≤iv0 1∧∀ j:Nat,(j:Int) < iv 28→fl (iv0 0) j 0=fl (iv0 4) j 0
def rSame_mu:(Nat→Int)→(Nat→Bool)→Nat→(Nat→Int)→(Nat→Bool)→Nat:=fun iv0 _ k iv _=>match k with | 0=>2 ^ 90 | _=>(iv0 1 - iv 28).toNat
theorem rSame_b {iv0:Nat→Int} (hin:InB rSame.B iv0):(0≤iv0 1∧iv0 1≤4096)∧0≤iv0 2∧(0≤iv0 5∧iv0 5≤4096)∧0≤iv0 6:=by
 have b1:=hin 1 0 4096 (by simp [rSame,kI,kT,lT,qT,gT,bT,bT5,bT6,fT,fnT,pnT,oQ,n0F,a0F,a1T,nwT,duT,bTt,qT',lI1,lI2,gI1,gI2,bI1,bI2,fI2,i64b])
 simp only [Int.reduceLE,reduceIte,Int.reduceNeg] at b1
 have b2:=hin 2 0 (-1) (by simp [rSame,kI,kT,lT,qT,gT,bT,bT5,bT6,fT,fnT,pnT,oQ,n0F,a0F,a1T,nwT,duT,bTt,qT',lI1,lI2,gI1,gI2,bI1,bI2,fI2,i64b])
 simp only [Int.reduceLE,reduceIte,Int.reduceNeg] at b2
 have b5:=hin 5 0 4096 (by simp [rSame,kI,kT,lT,qT,gT,bT,bT5,bT6,fT,fnT,pnT,oQ,n0F,a0F,a1T,nwT,duT,bTt,qT',lI1,lI2,gI1,gI2,bI1,bI2,fI2,i64b])
 simp only [Int.reduceLE,reduceIte,Int.reduceNeg] at b5
 have b6:=hin 6 0 (-1) (by simp [rSame,kI,kT,lT,qT,gT,bT,bT5,bT6,fT,fnT,pnT,oQ,n0F,a0F,a1T,nwT,duT,bTt,qT',lI1,lI2,gI1,gI2,bI1,bI2,fI2,i64b])
 simp only [Int.reduceLE,reduceIte,Int.reduceNeg] at b6
 exact ⟨b1,b2.1,b5,b6.1⟩
def rSame_ob (k:Nat) (l:List Lf):Prop:=∀ (kv:Kv) (iv0:Nat→Int) (bv0:Nat→Bool),InB rSame.B iv0→FT (sta FI FB kv iv0 bv0) (dlt dyn0) rSame.F→∀ (iv:Nat→Int) (bv:Nat→Bool),Agr 8 iv0 bv0 iv bv→rSame_inv iv0 bv0 k iv bv→∀ lf∈l,LfT (sta FI FB kv) rSame.os (rSame_inv iv0 bv0) (rSame_mu iv0 bv0) k iv bv lf
theorem rSame_o0:rSame_ob 0 rSame_L0:=by
 intro kv iv0 bv0 hin hF iv bv ha hi
 unfold rSame_L0
 refine List.forall_mem_cons.2 ⟨?_,List.forall_mem_cons.2 ⟨?_,List.forall_mem_nil _⟩⟩
 all_goals
  intro δ hf
 all_goals
  obtain ⟨b1,b2,b5,b6⟩:=rSame_b hin
 all_goals
  have a0:=ha.1 0 (by omega)
  have a1:=ha.1 1 (by omega)
  have a2:=ha.1 2 (by omega)
  have a3:=ha.1 3 (by omega)
  have a4:=ha.1 4 (by omega)
  have a5:=ha.1 5 (by omega)
  have a6:=ha.1 6 (by omega)
  have a7:=ha.1 7 (by omega)
 all_goals
  simp only [FT,TP,SB.tp,SI.tv,sta,IB.eval,and_true,true_and,ObsT,Ob.Tv,rowT,kix,In.tiv,↓tbvT,In.tbv,get_cons,get_nil,reduceIte,Nat.reduceEqDiff,Int.reduceToNat,Int.reduceAdd,Int.reduceSub,Int.reduceLE,Int.reduceLT,Int.reduceEq,ne_eq,Bool.false_eq_true,not_true_eq_false,not_false_eq_true,true_iff,false_iff,iff_true,iff_false,false_implies,implies_true,decT,decide_true,decide_false,Bool.decide_eq_true,ap2,pb2,FI_3,FI_8,FI_9,FI_3g,FI_3k,FI_8s,FI_8l,FI_8d,FB_1h,FB_1a,Int.toNat_natCast,Int.toNat_zero,FI_23,FI_24,FB_23,rSame_inv,rSame_mu,rSame,o1,othT,kI,kT,lT,qT,gT,bT,bT5,bT6,fT,fnT,pnT,oQ,n0F,a0F,a1T,nwT,duT,bTt,qT',lI1,lI2,gI1,gI2,bI1,bI2,fI2,i64b,a0,a1,a2,a3,a4,a5,a6,a7] at hf hi ⊢
 all_goals
  have hs:=@same_not (iv0 0) (iv0 1) (iv0 4) (iv0 5)
 all_goals
  (repeat' (with_reducible apply And.intro))<;>first
  | omega
  | assumption
  | (unfold inM;omega)
  | exact trivial
  | (intro j hj;omega)
  | (intro h;exact h.1)
  | (clear hin hF ha;grind)
theorem rSame_o1:rSame_ob 1 rSame_L1:=by
 intro kv iv0 bv0 hin hF iv bv ha hi
 unfold rSame_L1
 refine List.forall_mem_cons.2 ⟨?_,List.forall_mem_cons.2 ⟨?_,List.forall_mem_cons.2 ⟨?_,List.forall_mem_nil _⟩⟩⟩
 all_goals
  intro δ hf
 all_goals
  obtain ⟨b1,b2,b5,b6⟩:=rSame_b hin
 all_goals
  have a0:=ha.1 0 (by omega)
  have a1:=ha.1 1 (by omega)
  have a2:=ha.1 2 (by omega)
  have a3:=ha.1 3 (by omega)
  have a4:=ha.1 4 (by omega)
  have a5:=ha.1 5 (by omega)
  have a6:=ha.1 6 (by omega)
  have a7:=ha.1 7 (by omega)
 all_goals
  simp only [FT,TP,SB.tp,SI.tv,sta,IB.eval,and_true,true_and,ObsT,Ob.Tv,rowT,kix,In.tiv,↓tbvT,In.tbv,get_cons,get_nil,reduceIte,Nat.reduceEqDiff,Int.reduceToNat,Int.reduceAdd,Int.reduceSub,Int.reduceLE,Int.reduceLT,Int.reduceEq,ne_eq,Bool.false_eq_true,not_true_eq_false,not_false_eq_true,true_iff,false_iff,iff_true,iff_false,false_implies,implies_true,decT,decide_true,decide_false,Bool.decide_eq_true,ap2,pb2,FI_3,FI_8,FI_9,FI_3g,FI_3k,FI_8s,FI_8l,FI_8d,FB_1h,FB_1a,Int.toNat_natCast,Int.toNat_zero,FI_23,FI_24,FB_23,rSame_inv,rSame_mu,rSame,o1,othT,kI,kT,lT,qT,gT,bT,bT5,bT6,fT,fnT,pnT,oQ,n0F,a0F,a1T,nwT,duT,bTt,qT',lI1,lI2,gI1,gI2,bI1,bI2,fI2,i64b,a0,a1,a2,a3,a4,a5,a6,a7] at hf hi ⊢
 all_goals
  obtain ⟨g0,g1,g2⟩:=hi
 all_goals
  (repeat' (with_reducible apply And.intro))<;>first
  | omega
  | assumption
  | (unfold inM;omega)
  | (exact same_suc g2 g0 (by omega))
  | (exact ⟨by omega,fun j hj=>g2 j (by omega)⟩)
  | (intro h;exact absurd (h.2 (iv 28).toNat (by omega)) (by omega))
  | (clear hin hF ha;grind)
theorem rSame_c:LsC ((tm0 rSame Try.f24 (Try.f24.body.getD .skip))::[rSame_T1]) rSame.os [rSame_L0,rSame_L1]:=by
 unfold rSame_L0 rSame_L1
 exact ⟨List.forall_mem_cons.2 ⟨⟨⟨_,rfl,rfl⟩,by kernel_rfl⟩,List.forall_mem_cons.2 ⟨⟨⟨_,rfl,rfl⟩,by kernel_rfl⟩,List.forall_mem_nil _⟩⟩,List.forall_mem_cons.2 ⟨⟨⟨_,rfl,rfl⟩,by kernel_rfl⟩,List.forall_mem_cons.2 ⟨⟨⟨_,rfl,rfl⟩,by kernel_rfl⟩,List.forall_mem_cons.2 ⟨⟨⟨_,rfl,rfl⟩,by kernel_rfl⟩,List.forall_mem_nil _⟩⟩⟩,trivial⟩
theorem rSame_ok:rSame.Ok Try.prog FI FB:=
 Con.of_plain (body:=Try.f24.body.getD .skip) pok fiok EntsFor.nil rSame Try.func24 (by kernel_rfl) 8 [rSame_T1] (by kernel_rfl) [rSame_L0,rSame_L1] ⟨rSame_h0,rSame_h1,trivial⟩ rSame_c
  rSame_inv rSame_mu (fun _ _ _=>trivial) fun kv iv0 bv0 hin hF k l iv bv hk ha hi=>match k,hk,hi with
  | 0,hk,hi=>by
    cases hk
    exact rSame_o0 kv iv0 bv0 hin hF iv bv ha hi
  | 1,hk,hi=>by
    cases hk
    exact rSame_o1 kv iv0 bv0 hin hF iv bv ha hi
  | k+2,hk,_=>by simp at hk
def rSame0_L0:List Lf:=
 let f0_:List (SB×Bool):=[((.le (.v 1) (.v 3)),.true),((.le (.c 0) (.v 3)),.true)]
 [(.fin (((.eq (.c 0) (.v 1)),.true)::f0_) 0 ⟨⟨[],[]⟩,[],[],[]⟩ [(.eb (.eq (.v 1) (.c 0)) (.c .true))] []),
  (.fin (((.eq (.c 0) (.v 1)),.false)::f0_) 0 ⟨⟨[],[]⟩,[],[],[]⟩ [(.eb (.eq (.v 1) (.c 0)) (.c .false))] [])]
def rSame0_run (T:Tm):=(ex (ccOf Try.prog BF [62,32] rSame0) ((fun _=>[]) (ccOf Try.prog BF [62,32] rSame0)) (dw (ccOf Try.prog BF [62,32] rSame0) ((fun _=>[]) (ccOf Try.prog BF [62,32] rSame0)) 1000 4) (stopX [24]) 4000 T.f T.fs T.H).lfs (ccOf Try.prog BF [62,32] rSame0) ((tm0 rSame0 Try.f24 (Try.f24.body.getD .skip))::[]) rSame0.os
theorem rSame0_h0:rSame0_run (tm0 rSame0 Try.f24 (Try.f24.body.getD .skip))=some rSame0_L0:=by kernel_rfl
def rSame0_inv:(Nat→Int)→(Nat→Bool)→Nat→(Nat→Int)→(Nat→Bool)→Prop:=fun _ _ _ _ _=>True
def rSame0_mu:(Nat→Int)→(Nat→Bool)→Nat→(Nat→Int)→(Nat→Bool)→Nat:=fun _ _ _ _ _=>0
theorem rSame0_b {iv0:Nat→Int} (hin:InB rSame0.B iv0):(0≤iv0 1∧iv0 1≤4096)∧0≤iv0 2:=by
 have b1:=hin 1 0 4096 (by simp [rSame0,kI,kT,lT,qT,gT,bT,bT5,bT6,fT,fnT,pnT,oQ,n0F,a0F,a1T,nwT,duT,bTt,qT',lI1,lI2,gI1,gI2,bI1,bI2,fI2,i64b])
 simp only [Int.reduceLE,reduceIte,Int.reduceNeg] at b1
 have b2:=hin 2 0 (-1) (by simp [rSame0,kI,kT,lT,qT,gT,bT,bT5,bT6,fT,fnT,pnT,oQ,n0F,a0F,a1T,nwT,duT,bTt,qT',lI1,lI2,gI1,gI2,bI1,bI2,fI2,i64b])
 simp only [Int.reduceLE,reduceIte,Int.reduceNeg] at b2
 exact ⟨b1,b2.1⟩
def rSame0_ob (k:Nat) (l:List Lf):Prop:=∀ (kv:Kv) (iv0:Nat→Int) (bv0:Nat→Bool),InB rSame0.B iv0→FT (sta FI FB kv iv0 bv0) (dlt dyn0) rSame0.F→∀ (iv:Nat→Int) (bv:Nat→Bool),Agr 4 iv0 bv0 iv bv→rSame0_inv iv0 bv0 k iv bv→∀ lf∈l,LfT (sta FI FB kv) rSame0.os (rSame0_inv iv0 bv0) (rSame0_mu iv0 bv0) k iv bv lf
theorem rSame0_o0:rSame0_ob 0 rSame0_L0:=by
 intro kv iv0 bv0 hin hF iv bv ha hi
 unfold rSame0_L0
 refine List.forall_mem_cons.2 ⟨?_,List.forall_mem_cons.2 ⟨?_,List.forall_mem_nil _⟩⟩
 all_goals
  intro δ hf
 all_goals
  obtain ⟨b1,b2⟩:=rSame0_b hin
 all_goals
  have a0:=ha.1 0 (by omega)
  have a1:=ha.1 1 (by omega)
  have a2:=ha.1 2 (by omega)
  have a3:=ha.1 3 (by omega)
 all_goals
  simp only [FT,TP,SB.tp,SI.tv,sta,IB.eval,and_true,true_and,ObsT,Ob.Tv,rowT,kix,In.tiv,↓tbvT,In.tbv,get_cons,get_nil,reduceIte,Nat.reduceEqDiff,Int.reduceToNat,Int.reduceAdd,Int.reduceSub,Int.reduceLE,Int.reduceLT,Int.reduceEq,ne_eq,Bool.false_eq_true,not_true_eq_false,not_false_eq_true,true_iff,false_iff,iff_true,iff_false,false_implies,implies_true,decT,decide_true,decide_false,Bool.decide_eq_true,ap2,pb2,FI_3,FI_8,FI_9,FI_3g,FI_3k,FI_8s,FI_8l,FI_8d,FB_1h,FB_1a,Int.toNat_natCast,Int.toNat_zero,FI_24,rSame0_inv,rSame0_mu,rSame0,o1,othT,kI,kT,lT,qT,gT,bT,bT5,bT6,fT,fnT,pnT,oQ,n0F,a0F,a1T,nwT,duT,bTt,qT',lI1,lI2,gI1,gI2,bI1,bI2,fI2,i64b,a0,a1,a2,a3] at hf hi ⊢
 all_goals
  (repeat' (with_reducible apply And.intro))<;>first
  | omega
  | assumption
  | (unfold inM;omega)
  | exact trivial
  | (clear hin hF ha;grind)
theorem rSame0_c:LsC ((tm0 rSame0 Try.f24 (Try.f24.body.getD .skip))::[]) rSame0.os [rSame0_L0]:=by
 unfold rSame0_L0
 exact ⟨List.forall_mem_cons.2 ⟨⟨⟨_,rfl,rfl⟩,by kernel_rfl⟩,List.forall_mem_cons.2 ⟨⟨⟨_,rfl,rfl⟩,by kernel_rfl⟩,List.forall_mem_nil _⟩⟩,trivial⟩
theorem rSame0_ok:rSame0.Ok Try.prog FI FB:=
 Con.of_plain (body:=Try.f24.body.getD .skip) pok fiok EntsFor.nil rSame0 Try.func24 (by kernel_rfl) 4 [] (by kernel_rfl) [rSame0_L0] ⟨rSame0_h0,trivial⟩ rSame0_c
  rSame0_inv rSame0_mu (fun _ _ _=>trivial) fun kv iv0 bv0 hin hF k l iv bv hk ha hi=>match k,hk,hi with
  | 0,hk,hi=>by
    cases hk
    exact rSame0_o0 kv iv0 bv0 hin hF iv bv ha hi
  | k+1,hk,_=>by simp at hk
def rSame1_L0:List Lf:=
 let f0_:List (SB×Bool):=[((.le (.v 1) (.v 3)),.true),((.le (.c 0) (.v 3)),.true)]
 [(.fin (((.eq (.v 1) (.c 0)),.true)::f0_) 0 ⟨⟨[],[]⟩,[],[],[]⟩ [(.eb (.eq (.v 1) (.c 0)) (.c .true))] []),
  (.fin (((.eq (.v 1) (.c 0)),.false)::f0_) 0 ⟨⟨[],[]⟩,[],[],[]⟩ [(.eb (.eq (.v 1) (.c 0)) (.c .false))] [])]
def rSame1_run (T:Tm):=(ex (ccOf Try.prog BF [62,32] rSame1) ((fun _=>[]) (ccOf Try.prog BF [62,32] rSame1)) (dw (ccOf Try.prog BF [62,32] rSame1) ((fun _=>[]) (ccOf Try.prog BF [62,32] rSame1)) 1000 4) (stopX [24]) 4000 T.f T.fs T.H).lfs (ccOf Try.prog BF [62,32] rSame1) ((tm0 rSame1 Try.f24 (Try.f24.body.getD .skip))::[]) rSame1.os
theorem rSame1_h0:rSame1_run (tm0 rSame1 Try.f24 (Try.f24.body.getD .skip))=some rSame1_L0:=by kernel_rfl
def rSame1_inv:(Nat→Int)→(Nat→Bool)→Nat→(Nat→Int)→(Nat→Bool)→Prop:=fun _ _ _ _ _=>True
def rSame1_mu:(Nat→Int)→(Nat→Bool)→Nat→(Nat→Int)→(Nat→Bool)→Nat:=fun _ _ _ _ _=>0
theorem rSame1_b {iv0:Nat→Int} (hin:InB rSame1.B iv0):(0≤iv0 1∧iv0 1≤4096)∧0≤iv0 2:=by
 have b1:=hin 1 0 4096 (by simp [rSame1,kI,kT,lT,qT,gT,bT,bT5,bT6,fT,fnT,pnT,oQ,n0F,a0F,a1T,nwT,duT,bTt,qT',lI1,lI2,gI1,gI2,bI1,bI2,fI2,i64b])
 simp only [Int.reduceLE,reduceIte,Int.reduceNeg] at b1
 have b2:=hin 2 0 (-1) (by simp [rSame1,kI,kT,lT,qT,gT,bT,bT5,bT6,fT,fnT,pnT,oQ,n0F,a0F,a1T,nwT,duT,bTt,qT',lI1,lI2,gI1,gI2,bI1,bI2,fI2,i64b])
 simp only [Int.reduceLE,reduceIte,Int.reduceNeg] at b2
 exact ⟨b1,b2.1⟩
def rSame1_ob (k:Nat) (l:List Lf):Prop:=∀ (kv:Kv) (iv0:Nat→Int) (bv0:Nat→Bool),InB rSame1.B iv0→FT (sta FI FB kv iv0 bv0) (dlt dyn0) rSame1.F→∀ (iv:Nat→Int) (bv:Nat→Bool),Agr 4 iv0 bv0 iv bv→rSame1_inv iv0 bv0 k iv bv→∀ lf∈l,LfT (sta FI FB kv) rSame1.os (rSame1_inv iv0 bv0) (rSame1_mu iv0 bv0) k iv bv lf
theorem rSame1_o0:rSame1_ob 0 rSame1_L0:=by
 intro kv iv0 bv0 hin hF iv bv ha hi
 unfold rSame1_L0
 refine List.forall_mem_cons.2 ⟨?_,List.forall_mem_cons.2 ⟨?_,List.forall_mem_nil _⟩⟩
 all_goals
  intro δ hf
 all_goals
  obtain ⟨b1,b2⟩:=rSame1_b hin
 all_goals
  have a0:=ha.1 0 (by omega)
  have a1:=ha.1 1 (by omega)
  have a2:=ha.1 2 (by omega)
  have a3:=ha.1 3 (by omega)
 all_goals
  simp only [FT,TP,SB.tp,SI.tv,sta,IB.eval,and_true,true_and,ObsT,Ob.Tv,rowT,kix,In.tiv,↓tbvT,In.tbv,get_cons,get_nil,reduceIte,Nat.reduceEqDiff,Int.reduceToNat,Int.reduceAdd,Int.reduceSub,Int.reduceLE,Int.reduceLT,Int.reduceEq,ne_eq,Bool.false_eq_true,not_true_eq_false,not_false_eq_true,true_iff,false_iff,iff_true,iff_false,false_implies,implies_true,decT,decide_true,decide_false,Bool.decide_eq_true,ap2,pb2,FI_3,FI_8,FI_9,FI_3g,FI_3k,FI_8s,FI_8l,FI_8d,FB_1h,FB_1a,Int.toNat_natCast,Int.toNat_zero,FI_24,rSame1_inv,rSame1_mu,rSame1,o1,othT,kI,kT,lT,qT,gT,bT,bT5,bT6,fT,fnT,pnT,oQ,n0F,a0F,a1T,nwT,duT,bTt,qT',lI1,lI2,gI1,gI2,bI1,bI2,fI2,i64b,a0,a1,a2,a3] at hf hi ⊢
 all_goals
  (repeat' (with_reducible apply And.intro))<;>first
  | omega
  | assumption
  | (unfold inM;omega)
  | exact trivial
  | (clear hin hF ha;grind)
theorem rSame1_c:LsC ((tm0 rSame1 Try.f24 (Try.f24.body.getD .skip))::[]) rSame1.os [rSame1_L0]:=by
 unfold rSame1_L0
 exact ⟨List.forall_mem_cons.2 ⟨⟨⟨_,rfl,rfl⟩,by kernel_rfl⟩,List.forall_mem_cons.2 ⟨⟨⟨_,rfl,rfl⟩,by kernel_rfl⟩,List.forall_mem_nil _⟩⟩,trivial⟩
theorem rSame1_ok:rSame1.Ok Try.prog FI FB:=
 Con.of_plain (body:=Try.f24.body.getD .skip) pok fiok EntsFor.nil rSame1 Try.func24 (by kernel_rfl) 4 [] (by kernel_rfl) [rSame1_L0] ⟨rSame1_h0,trivial⟩ rSame1_c
  rSame1_inv rSame1_mu (fun _ _ _=>trivial) fun kv iv0 bv0 hin hF k l iv bv hk ha hi=>match k,hk,hi with
  | 0,hk,hi=>by
    cases hk
    exact rSame1_o0 kv iv0 bv0 hin hF iv bv ha hi
  | k+1,hk,_=>by simp at hk
def rSame2_L0:List Lf:=
 [(.fin ([]) 0 ⟨⟨[],[]⟩,[],[],[]⟩ [] [])]
def rSame2_run (T:Tm):=(ex (ccOf Try.prog BF [62,32] rSame2) ((fun _=>[]) (ccOf Try.prog BF [62,32] rSame2)) (dw (ccOf Try.prog BF [62,32] rSame2) ((fun _=>[]) (ccOf Try.prog BF [62,32] rSame2)) 1000 4) (stopX [24]) 4000 T.f T.fs T.H).lfs (ccOf Try.prog BF [62,32] rSame2) ((tm0 rSame2 Try.f24 (Try.f24.body.getD .skip))::[]) rSame2.os
theorem rSame2_h0:rSame2_run (tm0 rSame2 Try.f24 (Try.f24.body.getD .skip))=some rSame2_L0:=by kernel_rfl
def rSame2_inv:(Nat→Int)→(Nat→Bool)→Nat→(Nat→Int)→(Nat→Bool)→Prop:=fun _ _ _ _ _=>True
def rSame2_mu:(Nat→Int)→(Nat→Bool)→Nat→(Nat→Int)→(Nat→Bool)→Nat:=fun _ _ _ _ _=>0
def rSame2_ob (k:Nat) (l:List Lf):Prop:=∀ (kv:Kv) (iv0:Nat→Int) (bv0:Nat→Bool),InB rSame2.B iv0→FT (sta FI FB kv iv0 bv0) (dlt dyn0) rSame2.F→∀ (iv:Nat→Int) (bv:Nat→Bool),Agr 0 iv0 bv0 iv bv→rSame2_inv iv0 bv0 k iv bv→∀ lf∈l,LfT (sta FI FB kv) rSame2.os (rSame2_inv iv0 bv0) (rSame2_mu iv0 bv0) k iv bv lf
theorem rSame2_o0:rSame2_ob 0 rSame2_L0:=by
 intro kv iv0 bv0 hin hF iv bv ha hi
 unfold rSame2_L0
 refine List.forall_mem_cons.2 ⟨?_,List.forall_mem_nil _⟩
 all_goals
  intro δ hf
 all_goals
  simp only [FT,TP,SB.tp,SI.tv,sta,IB.eval,and_true,true_and,ObsT,Ob.Tv,rowT,kix,In.tiv,↓tbvT,In.tbv,get_cons,get_nil,reduceIte,Nat.reduceEqDiff,Int.reduceToNat,Int.reduceAdd,Int.reduceSub,Int.reduceLE,Int.reduceLT,Int.reduceEq,ne_eq,Bool.false_eq_true,not_true_eq_false,not_false_eq_true,true_iff,false_iff,iff_true,iff_false,false_implies,implies_true,decT,decide_true,decide_false,Bool.decide_eq_true,ap2,pb2,FI_3,FI_8,FI_9,FI_3g,FI_3k,FI_8s,FI_8l,FI_8d,FB_1h,FB_1a,Int.toNat_natCast,Int.toNat_zero,FI_24,rSame2_inv,rSame2_mu,rSame2,o1,othT,kI,kT,lT,qT,gT,bT,bT5,bT6,fT,fnT,pnT,oQ,n0F,a0F,a1T,nwT,duT,bTt,qT',lI1,lI2,gI1,gI2,bI1,bI2,fI2,i64b] at hf hi ⊢
 all_goals
  (repeat' (with_reducible apply And.intro))<;>first
  | omega
  | assumption
  | (unfold inM;omega)
  | exact trivial
  | (clear hin hF ha;grind)
theorem rSame2_c:LsC ((tm0 rSame2 Try.f24 (Try.f24.body.getD .skip))::[]) rSame2.os [rSame2_L0]:=by
 unfold rSame2_L0
 exact ⟨List.forall_mem_cons.2 ⟨⟨⟨_,rfl,rfl⟩,by kernel_rfl⟩,List.forall_mem_nil _⟩,trivial⟩
theorem rSame2_ok:rSame2.Ok Try.prog FI FB:=
 Con.of_plain (body:=Try.f24.body.getD .skip) pok fiok EntsFor.nil rSame2 Try.func24 (by kernel_rfl) 0 [] (by kernel_rfl) [rSame2_L0] ⟨rSame2_h0,trivial⟩ rSame2_c
  rSame2_inv rSame2_mu (fun _ _ _=>trivial) fun kv iv0 bv0 hin hF k l iv bv hk ha hi=>match k,hk,hi with
  | 0,hk,hi=>by
    cases hk
    exact rSame2_o0 kv iv0 bv0 hin hF iv bv ha hi
  | k+1,hk,_=>by simp at hk
end
end Go.Sx.Ti
