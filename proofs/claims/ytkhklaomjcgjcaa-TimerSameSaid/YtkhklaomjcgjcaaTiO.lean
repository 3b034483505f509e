/- Timers: Tick, by contract. -/
import Derived.Test.YtkhklaomjcgjcaaTiN
namespace Go.Sx.Ti
set_option linter.unusedVariables false
set_option linter.unusedSimpArgs false
set_option maxRecDepth 100000
set_option maxHeartbeats 0
noncomputable section
open Go Go.Sx Go.Proofs
def nwS:SI:=.op .imin (.op .add (.v 0) (.c 1)) (.c 1099511627776)
def duS:SI:=.ap 22 (.v 1) nwS (.c 0) (.c 0) (.c 0) (.c 0)
def lnS1:SI:=.ap 8 (.v 1) (.c 0) (.c 0) (.c 0) (.c 2) (.c 0)
def qP:SV:=.pt (.n 0) (.c 0)
def mQ (now c:SI):List (Nat×Bk):=[(0,.cells [.it .i64 now,.mp (.n 1)] 52),(1,.mapc .i64 .i64 c)]
def rmS:SI:=.ap 23 (.v 1) duS (.c 0) (.c 0) (.c 0) (.c 0)
def bQ:List (Nat×Int×Int):=[(0,0,1099511627776)]
def fQ:List (SB×Bool):=[(.ap 20 (.v 1) (.c 0) (.c 0) (.c 0) (.c 0) (.c 0),true),(.le lnS1 (.c 4096),true)]
def tTick:Com:=⟨14,[0,1],[qP],mQ (.v 0) (.v 1),2,bQ,fQ,
 [⟨[(.lt (.c 0) duS,false)],.tp [.sn,.it .i64 (.c 0)],mQ nwS (.v 1),2,0,[]⟩,⟨[(.lt (.c 0) duS,true)],.tp [.sl (.n 2) (.c 0) duS (.d 0),.it .i64 (.c 0)],(2,.arr kI (.ap 20 (.v 1) (.c 0) (.c 0) (.c 0) (.c 0) (.c 0)) duS 3 (.d 0))::mQ nwS rmS,3,1,[(.le duS (.d 0),true),(.le duS lnS1,true)]⟩],.c 0⟩
def tTick_T1:Tm:=⟨⟨40,21,[(9,(.it .i64 (.c 0))),(8,(.it .i64 (.ap 8 (.v 1) (.c 0) (.c 0) (.c 0) (.c 2) (.c 0)))),(7,(.sl (.n 9) (.c 0) (.ap 8 (.v 1) (.c 0) (.c 0) (.c 0) (.c 2) (.c 0)) (.v 22))),(0,(.yl 8)),(1,(.pt (.n 5) (.c 0)))],[(.code (atC Try.f40 [0,1,1,0,0])),(.inLoop (atC Try.f40 [0,1,1,0,0])),(.inBlock 0),(.inScope (atC Try.f40 [0]))],[],.none⟩,[⟨14,36,[(2,(.pt (.n 3) (.c 0)))],[(.inRangeFunc 8),(.inBlock 0),(.code (atC Try.f14 [1,1,1,1,1]))],[7],.none⟩],
    ⟨[(0,(.cells [(.it .i64 (.op .imin (.op .add (.v 0) (.c 1)) (.c 1099511627776))),(.mp (.n 1))] 52)),(1,(.mapc .i64 .i64 (.v 1))),(2,(.cells [(.pt (.n 0) (.c 0))] 23)),(3,(.cells [.sn] 35)),(5,(.cells [(.mp (.n 6))] 30)),(6,(.mapc .i64 .i64 (.v 1))),(7,.dfr),(8,(.loop .ready .none 14 36 [(16,(.fn 40 [] [(.pt (.n 5) (.c 0))])),(15,(.pt (.n 0) (.c 0))),(13,(.fn 34 [(.pt (.n 0) (.c 0))] [])),(4,(.fn 34 [(.pt (.n 0) (.c 0))] [])),(12,(.fn 34 [(.pt (.n 0) (.c 0))] [])),(11,(.pt (.n 0) (.c 0))),(10,(.pt (.n 0) (.c 0))),(9,(.pt (.n 0) (.c 0))),(8,(.bo (.c .false))),(7,(.pt (.n 0) (.c 0))),(3,(.it .i64 (.c 0))),(2,(.pt (.n 3) (.c 0))),(1,(.pt (.n 2) (.c 0))),(0,(.pt (.n 0) (.c 0)))] #[17,18] (atC Try.f14 [1,1,1,1,0,1,0,0]) (atC Try.f14 [1,1,1,1,0,1,0,1]) 7)),(9,(.arr [(.nt .i64)] (.ap 20 (.v 1) (.c 0) (.c 0) (.c 0) (.c 0) (.c 0)) (.ap 8 (.v 1) (.c 0) (.c 0) (.c 0) (.c 2) (.c 0)) 3 (.v 22)))],10,0,0,[((.le (.ap 8 (.v 1) (.c 0) (.c 0) (.c 0) (.c 2) (.c 0)) (.v 22)),.true),((.lt (.c 0) (.ap 8 (.v 1) (.c 0) (.c 0) (.c 0) (.c 2) (.c 0))),.true),((.ap 20 (.v 1) (.c 0) (.c 0) (.c 0) (.c 0) (.c 0)),.true),((.le (.ap 8 (.v 1) (.c 0) (.c 0) (.c 0) (.c 2) (.c 0)) (.c 4096)),.true)],[0],[(0,(0,1099511627776))]⟩,[22]⟩
def tTick_T2:Tm:=⟨⟨40,21,[(9,(.it .i64 (.c 0))),(8,(.it .i64 (.c 0))),(7,.sn),(0,(.yl 8)),(1,(.pt (.n 5) (.c 0)))],[(.code (atC Try.f40 [0,1,1,0,0])),(.inLoop (atC Try.f40 [0,1,1,0,0])),(.inBlock 0),(.inScope (atC Try.f40 [0]))],[],.none⟩,[⟨14,36,[(2,(.pt (.n 3) (.c 0)))],[(.inRangeFunc 8),(.inBlock 0),(.code (atC Try.f14 [1,1,1,1,1]))],[7],.none⟩],
    ⟨[(0,(.cells [(.it .i64 (.op .imin (.op .add (.v 0) (.c 1)) (.c 1099511627776))),(.mp (.n 1))] 52)),(1,(.mapc .i64 .i64 (.v 1))),(2,(.cells [(.pt (.n 0) (.c 0))] 23)),(3,(.cells [.sn] 35)),(5,(.cells [(.mp (.n 6))] 30)),(6,(.mapc .i64 .i64 (.v 1))),(7,.dfr),(8,(.loop .ready .none 14 36 [(16,(.fn 40 [] [(.pt (.n 5) (.c 0))])),(15,(.pt (.n 0) (.c 0))),(13,(.fn 34 [(.pt (.n 0) (.c 0))] [])),(4,(.fn 34 [(.pt (.n 0) (.c 0))] [])),(12,(.fn 34 [(.pt (.n 0) (.c 0))] [])),(11,(.pt (.n 0) (.c 0))),(10,(.pt (.n 0) (.c 0))),(9,(.pt (.n 0) (.c 0))),(8,(.bo (.c .false))),(7,(.pt (.n 0) (.c 0))),(3,(.it .i64 (.c 0))),(2,(.pt (.n 3) (.c 0))),(1,(.pt (.n 2) (.c 0))),(0,(.pt (.n 0) (.c 0)))] #[17,18] (atC Try.f14 [1,1,1,1,0,1,0,0]) (atC Try.f14 [1,1,1,1,0,1,0,1]) 7))],9,0,0,[((.lt (.c 0) (.ap 8 (.v 1) (.c 0) (.c 0) (.c 0) (.c 2) (.c 0))),.false),((.ap 20 (.v 1) (.c 0) (.c 0) (.c 0) (.c 0) (.c 0)),.true),((.le (.ap 8 (.v 1) (.c 0) (.c 0) (.c 0) (.c 2) (.c 0)) (.c 4096)),.true)],[0],[(0,(0,1099511627776))]⟩,[]⟩
def tTick_T3:Tm:=⟨⟨40,21,[(9,(.it .i64 (.v 28))),(8,(.it .i64 (.ap 8 (.v 1) (.c 0) (.c 0) (.c 0) (.c 2) (.c 0)))),(7,(.sl (.n 9) (.c 0) (.ap 8 (.v 1) (.c 0) (.c 0) (.c 0) (.c 2) (.c 0)) (.v 22))),(0,(.yl 8)),(1,(.pt (.n 5) (.c 0)))],[(.code (atC Try.f40 [0,1,1,0,0])),(.inLoop (atC Try.f40 [0,1,1,0,0])),(.inBlock 0),(.inScope (atC Try.f40 [0]))],[],.none⟩,[⟨14,36,[(2,(.pt (.n 3) (.c 0)))],[(.inRangeFunc 8),(.inBlock 0),(.code (atC Try.f14 [1,1,1,1,1]))],[7],.none⟩],
    ⟨[(0,(.cells [(.it .i64 (.op .imin (.op .add (.v 0) (.c 1)) (.c 1099511627776))),(.mp (.n 1))] 52)),(1,(.mapc .i64 .i64 (.v 29))),(2,(.cells [(.pt (.n 0) (.c 0))] 23)),(3,(.cells [(.sl (.n 11) (.c 0) (.v 28) (.v 24))] 35)),(5,(.cells [(.mp (.n 6))] 30)),(6,(.mapc .i64 .i64 (.v 1))),(7,.dfr),(8,(.loop .ready .none 14 36 [(16,(.fn 40 [] [(.pt (.n 5) (.c 0))])),(15,(.pt (.n 0) (.c 0))),(13,(.fn 34 [(.pt (.n 0) (.c 0))] [])),(4,(.fn 34 [(.pt (.n 0) (.c 0))] [])),(12,(.fn 34 [(.pt (.n 0) (.c 0))] [])),(11,(.pt (.n 0) (.c 0))),(10,(.pt (.n 0) (.c 0))),(9,(.pt (.n 0) (.c 0))),(8,(.bo (.c .false))),(7,(.pt (.n 0) (.c 0))),(3,(.it .i64 (.c 0))),(2,(.pt (.n 3) (.c 0))),(1,(.pt (.n 2) (.c 0))),(0,(.pt (.n 0) (.c 0)))] #[17,18] (atC Try.f14 [1,1,1,1,0,1,0,0]) (atC Try.f14 [1,1,1,1,0,1,0,1]) 7)),(9,(.arr [(.nt .i64)] (.ap 20 (.v 1) (.c 0) (.c 0) (.c 0) (.c 0) (.c 0)) (.ap 8 (.v 1) (.c 0) (.c 0) (.c 0) (.c 2) (.c 0)) 3 (.v 22))),(11,(.arr [(.nt .i64)] (.v 30) (.v 28) 3 (.v 24)))],12,0,0,[((.lt (.op .imin (.op .add (.v 0) (.c 1)) (.c 1099511627776)) (.ap 3 (.v 1) (.ap 3 (.ap 20 (.v 1) (.c 0) (.c 0) (.c 0) (.c 0) (.c 0)) (.c 0) (.c 0) (.c 0) (.c 0) (.c 0)) (.c 0) (.c 1) (.c 0) (.c 0))),.false),((.le (.ap 8 (.v 1) (.c 0) (.c 0) (.c 0) (.c 2) (.c 0)) (.v 22)),.true),((.lt (.c 0) (.ap 8 (.v 1) (.c 0) (.c 0) (.c 0) (.c 2) (.c 0))),.true),((.ap 20 (.v 1) (.c 0) (.c 0) (.c 0) (.c 0) (.c 0)),.true),((.le (.ap 8 (.v 1) (.c 0) (.c 0) (.c 0) (.c 2) (.c 0)) (.c 4096)),.true),((.le (.v 28) (.v 24)),.true)],[0],[(28,(1,4096)),(0,(0,1099511627776))]⟩,[28,29,30,24]⟩
def tTick_L0:List Lf:=
 let x0_:SI:=(.ap 8 (.v 1) (.c 0) (.c 0) (.c 0) (.c 2) (.c 0))
 let f0_:List (SB×Bool):=[((.ap 20 (.v 1) (.c 0) (.c 0) (.c 0) (.c 0) (.c 0)),.true),((.le x0_ (.c 4096)),.true)]
 [(let i_:In:=⟨⟨[(22,(.d 0))],[]⟩,[(1,1),(2,2),(0,0),(6,6),(7,7),(3,3),(5,5),(8,8),(9,9)],[],[]⟩;.cut (((.le x0_ (.d 0)),.true)::((.lt (.c 0) x0_),.true)::f0_) 1 i_ [] (shT tTick_T1 i_)),
  (let i_:In:=⟨⟨[],[]⟩,[(1,1),(2,2),(0,0),(6,6),(7,7),(3,3),(5,5),(8,8)],[],[]⟩;.cut (((.lt (.c 0) x0_),.false)::f0_) 2 i_ [] (shT tTick_T2 i_))]
def tTick_L1:List Lf:=
 let x0_:SI:=(.ap 8 (.v 1) (.c 0) (.c 0) (.c 0) (.c 2) (.c 0))
 let x1_:SI:=(.ap 20 (.v 1) (.c 0) (.c 0) (.c 0) (.c 0) (.c 0))
 let x2_:SI:=(.op .imin (.op .add (.v 0) (.c 1)) (.c 1099511627776))
 let x3_:SI:=(.ap 3 x1_ (.c 0) (.c 0) (.c 0) (.c 0) (.c 0))
 let x4_:SI:=(.ap 3 (.v 1) x3_ (.c 0) (.c 1) (.c 0) (.c 0))
 let f0_:List (SB×Bool):=[((.le x0_ (.v 22)),.true),((.lt (.c 0) x0_),.true),((.ap 20 (.v 1) (.c 0) (.c 0) (.c 0) (.c 0) (.c 0)),.true),((.le x0_ (.c 4096)),.true)]
 [(.fin (((.lt x2_ x4_),.true)::f0_) 0 ⟨⟨[],[]⟩,[(1,1),(0,0)],[],[]⟩ [] [.none,.none]),
  (let i_:In:=⟨⟨[(29,(.ap 8 (.v 1) x3_ (.c 0) (.c 0) (.c 3) (.c 0))),(30,(.ap 8 (.c 0) (.c 0) (.c 0) x3_ (.c 0) (.c 0))),(24,(.d 0)),(28,(.c 1))],[]⟩,[(1,1),(2,2),(0,0),(6,6),(11,11),(7,7),(3,3),(5,5),(8,8),(9,9)],[],[]⟩;.cut (((.le (.c 1) (.d 0)),.true)::((.lt x2_ x4_),.false)::f0_) 3 i_ [(.ei (.ap 3 (.ap 8 (.c 0) (.c 0) (.c 0) x3_ (.c 0) (.c 0)) (.c 0) (.c 0) (.c 0) (.c 0) (.c 0)) (.ap 3 x1_ (.c 0) (.c 0) (.c 0) (.c 0) (.c 0))),(.fa (.le (.c 1) (.c 1)) .true),(.fa (.le (.c 1) (.d 0)) .true)] (shT tTick_T3 i_))]
def tTick_L2:List Lf:=
 let x0_:SI:=(.ap 8 (.v 1) (.c 0) (.c 0) (.c 0) (.c 2) (.c 0))
 [(.fin ([((.lt (.c 0) x0_),.false),((.ap 20 (.v 1) (.c 0) (.c 0) (.c 0) (.c 0) (.c 0)),.true),((.le x0_ (.c 4096)),.true)]) 0 ⟨⟨[],[]⟩,[(1,1),(0,0)],[],[]⟩ [] [.none,.none])]
def tTick_L3:List Lf:=
 let x0_:SI:=(.ap 8 (.v 1) (.c 0) (.c 0) (.c 0) (.c 2) (.c 0))
 let x1_:SI:=(.ap 20 (.v 1) (.c 0) (.c 0) (.c 0) (.c 0) (.c 0))
 let x2_:SI:=(.op .imin (.op .add (.v 0) (.c 1)) (.c 1099511627776))
 let x3_:SI:=(.ap 3 x1_ (.v 28) (.c 0) (.c 0) (.c 0) (.c 0))
 let x4_:SI:=(.ap 22 (.v 1) x2_ (.c 0) (.c 0) (.c 0) (.c 0))
 let x5_:SI:=(.ap 3 (.v 1) x3_ (.c 0) (.c 1) (.c 0) (.c 0))
 let f0_:List (SB×Bool):=[((.lt x2_ (.ap 3 (.v 1) (.ap 3 x1_ (.c 0) (.c 0) (.c 0) (.c 0) (.c 0)) (.c 0) (.c 1) (.c 0) (.c 0))),.false),((.le x0_ (.v 22)),.true),((.lt (.c 0) x0_),.true),((.ap 20 (.v 1) (.c 0) (.c 0) (.c 0) (.c 0) (.c 0)),.true),((.le x0_ (.c 4096)),.true),((.le (.v 28) (.v 24)),.true)]
 let f1_:List (SB×Bool):=((.lt (.v 28) x0_),.true)::f0_
 [(.fin (((.lt x2_ x5_),.true)::f1_) 1 ⟨⟨[],[]⟩,[(2,11),(1,1),(0,0)],[(0,(.v 24))],[]⟩ [(.ei (.ap 22 (.v 1) x2_ (.c 0) (.c 0) (.c 0) (.c 0)) (.v 28)),(.ar [(.nt .i64)] (.ap 20 (.v 1) (.c 0) (.c 0) (.c 0) (.c 0) (.c 0)) (.v 30) (.ap 22 (.v 1) x2_ (.c 0) (.c 0) (.c 0) (.c 0))),(.fa (.le x4_ (.v 28)) .true),(.ei (.ap 23 (.v 1) x4_ (.c 0) (.c 0) (.c 0) (.c 0)) (.v 29)),(.fa (.le x4_ (.v 24)) .true),(.fa (.le x4_ x0_) .true)] [.none,.none,.none]),
  (let i_:In:=⟨⟨[(29,(.ap 8 (.v 29) x3_ (.c 0) (.c 0) (.c 3) (.c 0))),(30,(.ap 8 (.v 30) (.v 28) (.c 0) x3_ (.c 0) (.c 0))),(24,(.d 0)),(28,(.op .add (.v 28) (.c 1)))],[]⟩,[(1,1),(2,2),(0,0),(6,6),(11,13),(7,7),(3,3),(5,5),(8,8),(9,9)],[],[]⟩;.cut (((.le (.op .add (.v 28) (.c 1)) (.d 0)),.true)::((.lt x2_ x5_),.false)::f1_) 3 i_ [(.rn (.op .add (.v 28) (.c 1)) 1 4096)] (shT tTick_T3 i_)),
  (.fin (((.lt (.v 28) x0_),.false)::f0_) 1 ⟨⟨[],[]⟩,[(2,11),(1,1),(0,0)],[(0,(.v 24))],[]⟩ [(.ei (.ap 22 (.v 1) x2_ (.c 0) (.c 0) (.c 0) (.c 0)) (.v 28)),(.ar [(.nt .i64)] (.ap 20 (.v 1) (.c 0) (.c 0) (.c 0) (.c 0) (.c 0)) (.v 30) (.ap 22 (.v 1) x2_ (.c 0) (.c 0) (.c 0) (.c 0))),(.fa (.le x4_ (.v 28)) .true),(.ei (.ap 23 (.v 1) x4_ (.c 0) (.c 0) (.c 0) (.c 0)) (.v 29)),(.fa (.le x4_ (.v 24)) .true),(.fa (.le x4_ x0_) .true)] [.none,.none,.none])]
def tTick_run (T:Tm):=(ex (ccM Try.prog BF [62,32]) ((fun cc=>[tKeys.ent cc,tClone.ent cc]) (ccM Try.prog BF [62,32])) (dw (ccM Try.prog BF [62,32]) ((fun cc=>[tKeys.ent cc,tClone.ent cc]) (ccM Try.prog BF [62,32])) 1000 4) (stopX []) 4000 T.f T.fs T.H).lfsM 2 (ccM Try.prog BF [62,32]) ((tmM tTick Try.f14 (Try.f14.body.getD .skip))::[tTick_T1,tTick_T2,tTick_T3]) tTick.os
theorem tTick_h0:tTick_run (tmM tTick Try.f14 (Try.f14.body.getD .skip))=some tTick_L0:=by kernel_rfl
theorem tTick_h1:tTick_run tTick_T1=some tTick_L1:=by kernel_rfl
theorem tTick_h2:tTick_run tTick_T2=some tTick_L2:=by kernel_rfl
theorem tTick_h3:tTick_run tTick_T3=some tTick_L3:=by kernel_rfl
def tTick_inv:(Nat→Int)→(Nat→Bool)→Nat→(Nat→Int)→(Nat→Bool)→Prop:=fun iv0 _ k iv _=>match k with | 0=>True | 1=>True | 2=>True | _=>1≤iv 28∧iv 28≤lenC (iv0 1)∧iv 28≤4096∧iv 28≤iv 24∧iv 29=rmC (iv0 1) (iv 28)∧frdI (iv0 1) (iv 30) (iv 28) (if (1099511627776:Int) < iv0 0+1 then 1099511627776 else iv0 0+1)
def tTick_mu:(Nat→Int)→(Nat→Bool)→Nat→(Nat→Int)→(Nat→Bool)→Nat:=fun iv0 _ k iv _=>match k with | 0=>2 ^ 90 | 1=>2 ^ 80 | 2=>2 ^ 80 | _=>(lenC (iv0 1) - iv 28).toNat
theorem tTick_b {iv0:Nat→Int} (hin:InB tTick.B iv0):(0≤iv0 0∧iv0 0≤1099511627776):=by
 have b0:=hin 0 0 1099511627776 (by simp [tTick,kI,nwS,duS,lnS1,qP,mQ,rmS,bQ,fQ])
 simp only [Int.reduceLE,reduceIte,Int.reduceNeg] at b0
 exact b0
def tTick_ob (k:Nat) (l:List Lf):Prop:=∀ (kv:Kv) (iv0:Nat→Int) (bv0:Nat→Bool),InB tTick.B iv0→FT (sta FI FB kv iv0 bv0) (dlt dyn0) tTick.F→∀ (iv:Nat→Int) (bv:Nat→Bool),Agr 2 iv0 bv0 iv bv→tTick_inv iv0 bv0 k iv bv→∀ lf∈l,LfT (sta FI FB kv) tTick.os (tTick_inv iv0 bv0) (tTick_mu iv0 bv0) k iv bv lf
theorem tTick_o0:tTick_ob 0 tTick_L0:=by
 intro kv iv0 bv0 hin hF iv bv ha hi
 unfold tTick_L0
 refine List.forall_mem_cons.2 ⟨?_,List.forall_mem_cons.2 ⟨?_,List.forall_mem_nil _⟩⟩
 all_goals
  intro δ hf
 all_goals
  have b0:=tTick_b hin
 all_goals
  have a0:=ha.1 0 (by omega)
  have a1:=ha.1 1 (by omega)
 all_goals
  simp only [FT,TP,SB.tp,SI.tv,sta,IB.eval,and_true,true_and,ObsT,Ob.Tv,rowT,kix,In.tiv,↓tbvT,In.tbv,get_cons,get_nil,reduceIte,Nat.reduceEqDiff,Int.reduceToNat,Int.reduceAdd,Int.reduceSub,Int.reduceLE,Int.reduceLT,Int.reduceEq,ne_eq,Bool.false_eq_true,not_true_eq_false,not_false_eq_true,true_iff,false_iff,iff_true,iff_false,false_implies,implies_true,decT,decide_true,decide_false,Bool.decide_eq_true,ap2,pb2,FI_3,FI_8,FI_9,FI_3g,FI_3k,FI_8s,FI_8l,FI_8d,FB_1h,FB_1a,Int.toNat_natCast,Int.toNat_zero,FI_20,FI_22,FI_23,FB_20,FB_22,FB_23,tTick_inv,tTick_mu,tTick,o1,othT,kI,nwS,duS,lnS1,qP,mQ,rmS,bQ,fQ,a0,a1] at hf hi ⊢
 all_goals
  (repeat' (with_reducible apply And.intro))<;>first
  | omega
  | assumption
  | (unfold inM;omega)
  | exact trivial
  | (clear hin hF ha;grind)
theorem tTick_o1:tTick_ob 1 tTick_L1:=by
 intro kv iv0 bv0 hin hF iv bv ha hi
 unfold tTick_L1
 refine List.forall_mem_cons.2 ⟨?_,List.forall_mem_cons.2 ⟨?_,List.forall_mem_nil _⟩⟩
 all_goals
  intro δ hf
 all_goals
  have b0:=tTick_b hin
 all_goals
  have a0:=ha.1 0 (by omega)
  have a1:=ha.1 1 (by omega)
 all_goals
  simp only [FT,TP,SB.tp,SI.tv,sta,IB.eval,and_true,true_and,ObsT,Ob.Tv,rowT,kix,In.tiv,↓tbvT,In.tbv,get_cons,get_nil,reduceIte,Nat.reduceEqDiff,Int.reduceToNat,Int.reduceAdd,Int.reduceSub,Int.reduceLE,Int.reduceLT,Int.reduceEq,ne_eq,Bool.false_eq_true,not_true_eq_false,not_false_eq_true,true_iff,false_iff,iff_true,iff_false,false_implies,implies_true,decT,decide_true,decide_false,Bool.decide_eq_true,ap2,pb2,FI_3,FI_8,FI_9,FI_3g,FI_3k,FI_8s,FI_8l,FI_8d,FB_1h,FB_1a,Int.toNat_natCast,Int.toNat_zero,FI_20,FI_22,FI_23,FB_20,FB_22,FB_23,tTick_inv,tTick_mu,tTick,o1,othT,kI,nwS,duS,lnS1,qP,mQ,rmS,bQ,fQ,a0,a1] at hf hi ⊢
 all_goals
  have hK:kinC (iv0 1):=(by first | exact hf | exact hf.1 | exact hf.2.1 | exact hf.2.2.1 | exact hf.2.2.2.1 | exact hf.2.2.2.2.1 | exact hf.2.2.2.2.2.1 | exact hf.2.2.2.2.2.2.1 | exact hf.2.2.2.2.2.2.2.1 | exact hf.2.2.2.2.2.2.2.2.1 | exact hf.2.2.2.2.2.2.2.2.2.1 | exact hf.2.2.2.2.2.2.2.2.2.2.1 | exact hf.2.2.2.2.2.2.2.2.2.2.2.1 | exact hf.2.2.2.2.2.2.2.2.2.2.2.2.1 | exact hf.2.2.2.2.2.2.2.2.2.2.2.2.2.1 | exact hf.2 | exact hf.2.2 | exact hf.2.2.2 | exact hf.2.2.2.2 | exact hf.2.2.2.2.2 | exact hf.2.2.2.2.2.2 | exact hf.2.2.2.2.2.2.2 | exact hf.2.2.2.2.2.2.2.2 | exact hf.2.2.2.2.2.2.2.2.2 | exact hf.2.2.2.2.2.2.2.2.2.2 | exact hf.2.2.2.2.2.2.2.2.2.2.2 | exact hf.2.2.2.2.2.2.2.2.2.2.2.2 | exact hf.2.2.2.2.2.2.2.2.2.2.2.2.2)
 all_goals
  have hR:∀ j:Nat,(j:Int) < lenC (iv0 1)→fl (KS (iv0 1)) j 0=kL (iv0 1) j:=fun j hj=>fl_KS hK hj
 all_goals
  have hl0:=lenC_nn (iv0 1)
 all_goals
  have hl4:lenC (iv0 1)≤4096:=(by first | exact hf | exact hf.1 | exact hf.2.1 | exact hf.2.2.1 | exact hf.2.2.2.1 | exact hf.2.2.2.2.1 | exact hf.2.2.2.2.2.1 | exact hf.2.2.2.2.2.2.1 | exact hf.2.2.2.2.2.2.2.1 | exact hf.2.2.2.2.2.2.2.2.1 | exact hf.2.2.2.2.2.2.2.2.2.1 | exact hf.2.2.2.2.2.2.2.2.2.2.1 | exact hf.2.2.2.2.2.2.2.2.2.2.2.1 | exact hf.2.2.2.2.2.2.2.2.2.2.2.2.1 | exact hf.2.2.2.2.2.2.2.2.2.2.2.2.2.1 | exact hf.2 | exact hf.2.2 | exact hf.2.2.2 | exact hf.2.2.2.2 | exact hf.2.2.2.2.2 | exact hf.2.2.2.2.2.2 | exact hf.2.2.2.2.2.2.2 | exact hf.2.2.2.2.2.2.2.2 | exact hf.2.2.2.2.2.2.2.2.2 | exact hf.2.2.2.2.2.2.2.2.2.2 | exact hf.2.2.2.2.2.2.2.2.2.2.2 | exact hf.2.2.2.2.2.2.2.2.2.2.2.2 | exact hf.2.2.2.2.2.2.2.2.2.2.2.2.2)
 all_goals
  have hD:=fun i h0 hi h hn=>dueC_eq (c:=iv0 1) (now:=(if (1099511627776:Int) < iv0 0+1 then 1099511627776 else iv0 0+1)) (i:=i) h0 hi hl4 h hn
 all_goals
  try simp only [rmC_0] at hi ⊢
 all_goals
  have hR0:=hR 0
 all_goals
  have hD0:=hD 0 (by omega) (by omega) (fun j hj=>by omega)
 all_goals
  (repeat' (with_reducible apply And.intro))<;>first
  | omega
  | assumption
  | (unfold inM;omega)
  | exact trivial
  | (intro _ h;rw [hD0 (fun _=>by simp only [Int.toNat_zero];rw [← hR0 (by omega)];omega)] at h;omega)
  | (rw [fl_set0 _ _ _ (fl_has _ _ _),if_pos (by simp)])
  | (rw [rmC_1,hR0 (by omega)])
  | (exact frd_1 (fl_has _ _ _) (hR0 (by omega)) (by omega))
  | (clear hin hF ha;grind)
theorem tTick_o2:tTick_ob 2 tTick_L2:=by
 intro kv iv0 bv0 hin hF iv bv ha hi
 unfold tTick_L2
 refine List.forall_mem_cons.2 ⟨?_,List.forall_mem_nil _⟩
 all_goals
  intro δ hf
 all_goals
  have b0:=tTick_b hin
 all_goals
  have a0:=ha.1 0 (by omega)
  have a1:=ha.1 1 (by omega)
 all_goals
  simp only [FT,TP,SB.tp,SI.tv,sta,IB.eval,and_true,true_and,ObsT,Ob.Tv,rowT,kix,In.tiv,↓tbvT,In.tbv,get_cons,get_nil,reduceIte,Nat.reduceEqDiff,Int.reduceToNat,Int.reduceAdd,Int.reduceSub,Int.reduceLE,Int.reduceLT,Int.reduceEq,ne_eq,Bool.false_eq_true,not_true_eq_false,not_false_eq_true,true_iff,false_iff,iff_true,iff_false,false_implies,implies_true,decT,decide_true,decide_false,Bool.decide_eq_true,ap2,pb2,FI_3,FI_8,FI_9,FI_3g,FI_3k,FI_8s,FI_8l,FI_8d,FB_1h,FB_1a,Int.toNat_natCast,Int.toNat_zero,FI_20,FI_22,FI_23,FB_20,FB_22,FB_23,tTick_inv,tTick_mu,tTick,o1,othT,kI,nwS,duS,lnS1,qP,mQ,rmS,bQ,fQ,a0,a1] at hf hi ⊢
 all_goals
  have hl0:=lenC_nn (iv0 1)
 all_goals
  have hd:=(dueC_spec (c:=iv0 1) (now:=(if (1099511627776:Int) < iv0 0+1 then 1099511627776 else iv0 0+1)) (by omega)).2.1
 all_goals
  (repeat' (with_reducible apply And.intro))<;>first
  | omega
  | assumption
  | (unfold inM;omega)
  | exact trivial
  | (intro _ h;omega)
  | (clear hin hF ha;grind)
theorem tTick_o3:tTick_ob 3 tTick_L3:=by
 intro kv iv0 bv0 hin hF iv bv ha hi
 unfold tTick_L3
 refine List.forall_mem_cons.2 ⟨?_,List.forall_mem_cons.2 ⟨?_,List.forall_mem_cons.2 ⟨?_,List.forall_mem_nil _⟩⟩⟩
 all_goals
  intro δ hf
 all_goals
  have b0:=tTick_b hin
 all_goals
  have a0:=ha.1 0 (by omega)
  have a1:=ha.1 1 (by omega)
 all_goals
  simp only [FT,TP,SB.tp,SI.tv,sta,IB.eval,and_true,true_and,ObsT,Ob.Tv,rowT,kix,In.tiv,↓tbvT,In.tbv,get_cons,get_nil,reduceIte,Nat.reduceEqDiff,Int.reduceToNat,Int.reduceAdd,Int.reduceSub,Int.reduceLE,Int.reduceLT,Int.reduceEq,ne_eq,Bool.false_eq_true,not_true_eq_false,not_false_eq_true,true_iff,false_iff,iff_true,iff_false,false_implies,implies_true,decT,decide_true,decide_false,Bool.decide_eq_true,ap2,pb2,FI_3,FI_8,FI_9,FI_3g,FI_3k,FI_8s,FI_8l,FI_8d,FB_1h,FB_1a,Int.toNat_natCast,Int.toNat_zero,FI_20,FI_22,FI_23,FB_20,FB_22,FB_23,tTick_inv,tTick_mu,tTick,o1,othT,kI,nwS,duS,lnS1,qP,mQ,rmS,bQ,fQ,a0,a1] at hf hi ⊢
 all_goals
  have hK:kinC (iv0 1):=(by first | exact hf | exact hf.1 | exact hf.2.1 | exact hf.2.2.1 | exact hf.2.2.2.1 | exact hf.2.2.2.2.1 | exact hf.2.2.2.2.2.1 | exact hf.2.2.2.2.2.2.1 | exact hf.2.2.2.2.2.2.2.1 | exact hf.2.2.2.2.2.2.2.2.1 | exact hf.2.2.2.2.2.2.2.2.2.1 | exact hf.2.2.2.2.2.2.2.2.2.2.1 | exact hf.2.2.2.2.2.2.2.2.2.2.2.1 | exact hf.2.2.2.2.2.2.2.2.2.2.2.2.1 | exact hf.2.2.2.2.2.2.2.2.2.2.2.2.2.1 | exact hf.2 | exact hf.2.2 | exact hf.2.2.2 | exact hf.2.2.2.2 | exact hf.2.2.2.2.2 | exact hf.2.2.2.2.2.2 | exact hf.2.2.2.2.2.2.2 | exact hf.2.2.2.2.2.2.2.2 | exact hf.2.2.2.2.2.2.2.2.2 | exact hf.2.2.2.2.2.2.2.2.2.2 | exact hf.2.2.2.2.2.2.2.2.2.2.2 | exact hf.2.2.2.2.2.2.2.2.2.2.2.2 | exact hf.2.2.2.2.2.2.2.2.2.2.2.2.2)
 all_goals
  have hR:∀ j:Nat,(j:Int) < lenC (iv0 1)→fl (KS (iv0 1)) j 0=kL (iv0 1) j:=fun j hj=>fl_KS hK hj
 all_goals
  have hl0:=lenC_nn (iv0 1)
 all_goals
  have hl4:lenC (iv0 1)≤4096:=(by first | exact hf | exact hf.1 | exact hf.2.1 | exact hf.2.2.1 | exact hf.2.2.2.1 | exact hf.2.2.2.2.1 | exact hf.2.2.2.2.2.1 | exact hf.2.2.2.2.2.2.1 | exact hf.2.2.2.2.2.2.2.1 | exact hf.2.2.2.2.2.2.2.2.1 | exact hf.2.2.2.2.2.2.2.2.2.1 | exact hf.2.2.2.2.2.2.2.2.2.2.1 | exact hf.2.2.2.2.2.2.2.2.2.2.2.1 | exact hf.2.2.2.2.2.2.2.2.2.2.2.2.1 | exact hf.2.2.2.2.2.2.2.2.2.2.2.2.2.1 | exact hf.2 | exact hf.2.2 | exact hf.2.2.2 | exact hf.2.2.2.2 | exact hf.2.2.2.2.2 | exact hf.2.2.2.2.2.2 | exact hf.2.2.2.2.2.2.2 | exact hf.2.2.2.2.2.2.2.2 | exact hf.2.2.2.2.2.2.2.2.2 | exact hf.2.2.2.2.2.2.2.2.2.2 | exact hf.2.2.2.2.2.2.2.2.2.2.2 | exact hf.2.2.2.2.2.2.2.2.2.2.2.2 | exact hf.2.2.2.2.2.2.2.2.2.2.2.2.2)
 all_goals
  have hD:=fun i h0 hi h hn=>dueC_eq (c:=iv0 1) (now:=(if (1099511627776:Int) < iv0 0+1 then 1099511627776 else iv0 0+1)) (i:=i) h0 hi hl4 h hn
 all_goals
  try simp only [rmC_0] at hi ⊢
 all_goals
  obtain ⟨g1,g2,g3,g4,g5,g6⟩:=hi
 all_goals
  have hRi:=hR (iv 28).toNat
 all_goals
  have hDi:=hD (iv 28) (by omega) g2 (fun j hj=>(g6 j hj).2)
 all_goals
  have e1:¬ iv 28 < lenC (iv0 1)→dueC (iv0 1) (if (1099511627776:Int) < iv0 0+1 then 1099511627776 else iv0 0+1)=iv 28:=fun h=>hDi (fun hh=>absurd hh h)
 all_goals
  have e2:iv 28 < lenC (iv0 1)→(if (1099511627776:Int) < iv0 0+1 then 1099511627776 else iv0 0+1) < mg (iv0 1) (fl (KS (iv0 1)) (iv 28).toNat 0)→dueC (iv0 1) (if (1099511627776:Int) < iv0 0+1 then 1099511627776 else iv0 0+1)=iv 28:=fun h h2=>hDi (fun _=>by rw [← hRi (by omega)];omega)
 all_goals
  have e3:dueC (iv0 1) (if (1099511627776:Int) < iv0 0+1 then 1099511627776 else iv0 0+1)=iv 28→rmC (iv0 1) (dueC (iv0 1) (if (1099511627776:Int) < iv0 0+1 then 1099511627776 else iv0 0+1))=iv 29:=fun e=>by rw [e,g5]
 all_goals
  have e4:∀ m:Int,m=iv 28→∀ j:Nat,(j:Int) < m→fl (KS (iv0 1)) j 0=fl (iv 30) j 0:=fun m e j hj=>by rw [(g6 j (by omega)).1,hR j (by omega)]
 all_goals
  (repeat' (with_reducible apply And.intro))<;>first
  | omega
  | assumption
  | (unfold inM;omega)
  | (first | exact e1 (by omega) | exact e2 (by omega) (by omega))
  | (first | exact e3 (e1 (by omega)) | exact e3 (e2 (by omega) (by omega)))
  | (first | exact e4 _ (e1 (by omega)) | exact e4 _ (e2 (by omega) (by omega)))
  | (first | (have:=e1 (by omega);omega) | (have:=e2 (by omega) (by omega);omega))
  | (rw [fl_set0 _ _ _ (fl_has _ _ _),if_pos (by omega)])
  | (rw [rmC_suc (by omega),← g5,hRi (by omega)])
  | (exact frd_suc g6 (by omega) (fl_has _ _ _) (hRi (by omega)) (by omega))
  | (clear hin hF ha;grind)
theorem tTick_c:LsCM 2 ((tmM tTick Try.f14 (Try.f14.body.getD .skip))::[tTick_T1,tTick_T2,tTick_T3]) tTick.os [tTick_L0,tTick_L1,tTick_L2,tTick_L3]:=by
 unfold tTick_L0 tTick_L1 tTick_L2 tTick_L3
 exact ⟨List.forall_mem_cons.2 ⟨⟨⟨⟨_,rfl,rfl⟩,by kernel_rfl⟩,by kernel_rfl⟩,List.forall_mem_cons.2 ⟨⟨⟨⟨_,rfl,rfl⟩,by kernel_rfl⟩,by kernel_rfl⟩,List.forall_mem_nil _⟩⟩,List.forall_mem_cons.2 ⟨⟨⟨⟨_,rfl,rfl⟩,by kernel_rfl⟩,by kernel_rfl⟩,List.forall_mem_cons.2 ⟨⟨⟨⟨_,rfl,rfl⟩,by kernel_rfl⟩,by kernel_rfl⟩,List.forall_mem_nil _⟩⟩,List.forall_mem_cons.2 ⟨⟨⟨⟨_,rfl,rfl⟩,by kernel_rfl⟩,by kernel_rfl⟩,List.forall_mem_nil _⟩,List.forall_mem_cons.2 ⟨⟨⟨⟨_,rfl,rfl⟩,by kernel_rfl⟩,by kernel_rfl⟩,List.forall_mem_cons.2 ⟨⟨⟨⟨_,rfl,rfl⟩,by kernel_rfl⟩,by kernel_rfl⟩,List.forall_mem_cons.2 ⟨⟨⟨⟨_,rfl,rfl⟩,by kernel_rfl⟩,by kernel_rfl⟩,List.forall_mem_nil _⟩⟩⟩,trivial⟩
theorem tTick_ok:tTick.Ok Try.prog FI FB:=
 Com.of_plain (body:=Try.f14.body.getD .skip) pok fiok (EntsFor.consM tKeys_ok (EntsFor.consM tClone_ok EntsFor.nil)) tTick Try.func14 (by kernel_rfl) 2 [tTick_T1,tTick_T2,tTick_T3] (by kernel_rfl) [tTick_L0,tTick_L1,tTick_L2,tTick_L3] ⟨tTick_h0,tTick_h1,tTick_h2,tTick_h3,trivial⟩ tTick_c
  tTick_inv tTick_mu (fun _ _ _=>trivial) fun kv iv0 bv0 hin hF k l iv bv hk ha hi=>match k,hk,hi with
  | 0,hk,hi=>by
    cases hk
    exact tTick_o0 kv iv0 bv0 hin hF iv bv ha hi
  | 1,hk,hi=>by
    cases hk
    exact tTick_o1 kv iv0 bv0 hin hF iv bv ha hi
  | 2,hk,hi=>by
    cases hk
    exact tTick_o2 kv iv0 bv0 hin hF iv bv ha hi
  | 3,hk,hi=>by
    cases hk
    exact tTick_o3 kv iv0 bv0 hin hF iv bv ha hi
  | k+4,hk,_=>by simp at hk
end
end Go.Sx.Ti
