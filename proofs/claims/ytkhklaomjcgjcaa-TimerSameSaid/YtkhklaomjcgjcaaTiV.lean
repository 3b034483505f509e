/- Timers: does a queue stand as the document's, by contract. -/
import Derived.Test.YtkhklaomjcgjcaaTiU
namespace Go.Sx.Ti
set_option linter.unusedVariables false
set_option linter.unusedSimpArgs false
set_option maxRecDepth 100000
set_option maxHeartbeats 0
noncomputable section
open Go Go.Sx Go.Proofs
def mW:List (Nat×Bk):=(2,.arr kT (.v 2) (.v 3) 62 (.v 4))::mQ (.v 0) (.v 1)
def wT:SV:=.ag [.it .i64 (.v 0),.sl (.n 2) (.op .mul (.v 5) (.c 2)) (.v 6) (.v 7)]
def bIs:List (Nat×Int×Int):=[i64b 0,i64b 8]
def relS:SB:=.ap 21 (.v 1) (.v 2) (.v 5) (.v 6) (.c 0) (.c 0)
def fIs:List (SB×Bool):=[(relS,true),(.le (.op .add (.v 5) (.v 6)) (.v 3),true),(.le (.v 6) (.v 7),true),(.le (.c 0) (.v 5),true),(.le (.c 0) (.v 6),true),(.le (.v 6) (.c 4096),true),(.le (.v 3) (.c 8192),true)]
def tIs:Com:=⟨18,[0,1,2,3,4,5,6,7,8],[qP,wT,.it .i64 (.v 8)],mW,3,bIs,fIs,[⟨[],.bo (.c true),mW,3,0,[]⟩],.c 0⟩
def tIs0:Com:=⟨18,[0,1,8],[qP,.ag [.it .i64 (.v 0),.sn],.it .i64 (.v 8)],mQ (.v 0) (.v 1),2,[i64b 0,i64b 8],[(.ap 20 (.v 1) (.c 0) (.c 0) (.c 0) (.c 0) (.c 0),true),(.eq lnS1 (.c 0),true)],[⟨[],.bo (.c true),mQ (.v 0) (.v 1),2,0,[]⟩],.c 0⟩
theorem rel_row {c d o n i:Int} (h:relO c d o n) (ho:0≤o) (h0:0≤i) (hi:i < n):fl d (o+i).toNat 0=fl (KS c) i.toNat 0∧fl d (o+i).toNat 1=mg c (fl (KS c) i.toNat 0):=by
 obtain ⟨h1,h2,h3⟩:=h
 have:=h3 i.toNat (by omega)
 rw [fl_KS h1 (by omega),show (o+i).toNat=o.toNat+i.toNat by omega]
 exact this
def tIs0_T1:Tm:=⟨⟨40,21,[(9,(.it .i64 (.c 0))),(8,(.it .i64 (.c 0))),(7,.sn),(0,(.yl 9)),(1,(.pt (.n 5) (.c 0)))],[(.code (atC Try.f40 [0,1,1,0,0])),(.inLoop (atC Try.f40 [0,1,1,0,0])),(.inBlock 0),(.inScope (atC Try.f40 [0]))],[],.none⟩,[⟨18,62,[(8,(.pt (.n 7) (.c 0))),(6,(.pt (.n 4) (.c 0))),(5,(.pt (.n 3) (.c 0))),(4,(.pt (.n 2) (.c 0)))],[(.inRangeFunc 9),(.inBlock 0),(.code (atC Try.f18 [1,1,1,1,1]))],[8],.none⟩],
    ⟨[(0,(.cells [(.it .i64 (.v 0)),(.mp (.n 1))] 52)),(1,(.mapc .i64 .i64 (.v 1))),(2,(.cells [(.it .i64 (.v 0)),.sn] 44)),(3,(.cells [(.it .i64 (.v 8))] 3)),(4,(.cells [(.bo (.c .false))] 4)),(5,(.cells [(.mp (.n 6))] 30)),(6,(.mapc .i64 .i64 (.v 1))),(7,(.cells [(.it .i64 (.c 0))] 3)),(8,.dfr),(9,(.loop .ready .none 18 62 [(30,(.fn 40 [] [(.pt (.n 5) (.c 0))])),(8,(.pt (.n 7) (.c 0))),(29,(.bo (.c .false))),(28,(.bo (.c .false))),(27,(.it .i64 (.c 0))),(26,.sn),(25,(.pt (.n 2) (.c 1))),(24,(.it .i64 (.ap 8 (.v 1) (.c 0) (.c 0) (.c 0) (.c 2) (.c 0)))),(23,(.pt (.n 0) (.c 0))),(22,(.bo (.c .false))),(21,(.bo (.c .false))),(20,(.bo (.c .false))),(19,(.it .i64 (.v 0))),(18,(.pt (.n 2) (.c 0))),(17,(.it .i64 (.v 0))),(16,(.pt (.n 0) (.c 0))),(15,(.bo (.c .false))),(14,(.bo (.c .false))),(13,(.fn 40 [] [(.pt (.n 5) (.c 0))])),(7,(.fn 40 [] [(.pt (.n 5) (.c 0))])),(12,(.fn 40 [] [(.pt (.n 5) (.c 0))])),(11,(.pt (.n 0) (.c 0))),(6,(.pt (.n 4) (.c 0))),(5,(.pt (.n 3) (.c 0))),(4,(.pt (.n 2) (.c 0))),(0,(.pt (.n 0) (.c 0))),(1,(.ag [(.it .i64 (.v 0)),.sn])),(2,(.it .i64 (.v 8)))] #[31,32] (atC Try.f18 [1,1,1,1,0,1,0,0]) (atC Try.f18 [1,1,1,1,0,1,0,1]) 8))],10,0,0,[((.ap 20 (.v 1) (.c 0) (.c 0) (.c 0) (.c 0) (.c 0)),.true),((.eq (.ap 8 (.v 1) (.c 0) (.c 0) (.c 0) (.c 2) (.c 0)) (.c 0)),.true)],[0],[(0,((-9223372036854775808),9223372036854775807)),(8,((-9223372036854775808),9223372036854775807))]⟩,[]⟩
def tIs0_L0:List Lf:=
 [(let i_:In:=⟨⟨[],[]⟩,[(1,1),(0,0),(6,6),(8,8),(2,2),(3,3),(4,4),(7,7),(5,5),(9,9)],[],[]⟩;.cut ([((.ap 20 (.v 1) (.c 0) (.c 0) (.c 0) (.c 0) (.c 0)),.true),((.eq (.ap 8 (.v 1) (.c 0) (.c 0) (.c 0) (.c 2) (.c 0)) (.c 0)),.true)]) 1 i_ [] (shT tIs0_T1 i_))]
def tIs0_L1:List Lf:=
 [(.fin ([((.ap 20 (.v 1) (.c 0) (.c 0) (.c 0) (.c 0) (.c 0)),.true),((.eq (.ap 8 (.v 1) (.c 0) (.c 0) (.c 0) (.c 2) (.c 0)) (.c 0)),.true)]) 0 ⟨⟨[],[]⟩,[(1,1),(0,0)],[],[]⟩ [] [.none,.none])]
def tIs0_run (T:Tm):=(ex (ccM Try.prog BF [62,32]) ((fun cc=>[tKeys.ent cc,tClone.ent cc]) (ccM Try.prog BF [62,32])) (dw (ccM Try.prog BF [62,32]) ((fun cc=>[tKeys.ent cc,tClone.ent cc]) (ccM Try.prog BF [62,32])) 1000 4) (stopX []) 4000 T.f T.fs T.H).lfsM 2 (ccM Try.prog BF [62,32]) ((tmM tIs0 Try.f18 (Try.f18.body.getD .skip))::[tIs0_T1]) tIs0.os
theorem tIs0_h0:tIs0_run (tmM tIs0 Try.f18 (Try.f18.body.getD .skip))=some tIs0_L0:=by kernel_rfl
theorem tIs0_h1:tIs0_run tIs0_T1=some tIs0_L1:=by kernel_rfl
def tIs0_inv:(Nat→Int)→(Nat→Bool)→Nat→(Nat→Int)→(Nat→Bool)→Prop:=fun _ _ _ _ _=>True
def tIs0_mu:(Nat→Int)→(Nat→Bool)→Nat→(Nat→Int)→(Nat→Bool)→Nat:=fun _ _ k _ _=>match k with | 0=>1 | _=>0
theorem tIs0_b {iv0:Nat→Int} (hin:InB tIs0.B iv0):((-9223372036854775808)≤iv0 0∧iv0 0≤9223372036854775807)∧((-9223372036854775808)≤iv0 8∧iv0 8≤9223372036854775807):=by
 have b0:=hin 0 (-9223372036854775808) 9223372036854775807 (by simp [tIs0,kI,kT,i64b,lnS1,qP,mQ,mW,wT,bIs,relS,fIs])
 simp only [Int.reduceLE,reduceIte,Int.reduceNeg] at b0
 have b8:=hin 8 (-9223372036854775808) 9223372036854775807 (by simp [tIs0,kI,kT,i64b,lnS1,qP,mQ,mW,wT,bIs,relS,fIs])
 simp only [Int.reduceLE,reduceIte,Int.reduceNeg] at b8
 exact ⟨b0,b8⟩
def tIs0_ob (k:Nat) (l:List Lf):Prop:=∀ (kv:Kv) (iv0:Nat→Int) (bv0:Nat→Bool),InB tIs0.B iv0→FT (sta FI FB kv iv0 bv0) (dlt dyn0) tIs0.F→∀ (iv:Nat→Int) (bv:Nat→Bool),Agr 9 iv0 bv0 iv bv→tIs0_inv iv0 bv0 k iv bv→∀ lf∈l,LfT (sta FI FB kv) tIs0.os (tIs0_inv iv0 bv0) (tIs0_mu iv0 bv0) k iv bv lf
theorem tIs0_o0:tIs0_ob 0 tIs0_L0:=by
 intro kv iv0 bv0 hin hF iv bv ha hi
 unfold tIs0_L0
 refine List.forall_mem_cons.2 ⟨?_,List.forall_mem_nil _⟩
 all_goals
  intro δ hf
 all_goals
  obtain ⟨b0,b8⟩:=tIs0_b hin
 all_goals
  have a0:=ha.1 0 (by omega)
  have a1:=ha.1 1 (by omega)
  have a8:=ha.1 8 (by omega)
 all_goals
  simp only [FT,TP,SB.tp,SI.tv,sta,IB.eval,and_true,true_and,ObsT,Ob.Tv,rowT,kix,In.tiv,↓tbvT,In.tbv,get_cons,get_nil,reduceIte,Nat.reduceEqDiff,Int.reduceToNat,Int.reduceAdd,Int.reduceSub,Int.reduceLE,Int.reduceLT,Int.reduceEq,ne_eq,Bool.false_eq_true,not_true_eq_false,not_false_eq_true,true_iff,false_iff,iff_true,iff_false,false_implies,implies_true,decT,decide_true,decide_false,Bool.decide_eq_true,ap2,pb2,FI_3,FI_8,FI_9,FI_3g,FI_3k,FI_8s,FI_8l,FI_8d,FB_1h,FB_1a,Int.toNat_natCast,Int.toNat_zero,FI_20,FB_20,tIs0_inv,tIs0_mu,tIs0,o1,othT,kI,kT,i64b,lnS1,qP,mQ,mW,wT,bIs,relS,fIs,a0,a1,a8] at hf hi ⊢
 all_goals
  (repeat' (with_reducible apply And.intro))<;>first
  | omega
  | assumption
  | (unfold inM;omega)
  | exact trivial
  | (clear hin hF ha;grind)
theorem tIs0_o1:tIs0_ob 1 tIs0_L1:=by
 intro kv iv0 bv0 hin hF iv bv ha hi
 unfold tIs0_L1
 refine List.forall_mem_cons.2 ⟨?_,List.forall_mem_nil _⟩
 all_goals
  intro δ hf
 all_goals
  obtain ⟨b0,b8⟩:=tIs0_b hin
 all_goals
  have a0:=ha.1 0 (by omega)
  have a1:=ha.1 1 (by omega)
  have a8:=ha.1 8 (by omega)
 all_goals
  simp only [FT,TP,SB.tp,SI.tv,sta,IB.eval,and_true,true_and,ObsT,Ob.Tv,rowT,kix,In.tiv,↓tbvT,In.tbv,get_cons,get_nil,reduceIte,Nat.reduceEqDiff,Int.reduceToNat,Int.reduceAdd,Int.reduceSub,Int.reduceLE,Int.reduceLT,Int.reduceEq,ne_eq,Bool.false_eq_true,not_true_eq_false,not_false_eq_true,true_iff,false_iff,iff_true,iff_false,false_implies,implies_true,decT,decide_true,decide_false,Bool.decide_eq_true,ap2,pb2,FI_3,FI_8,FI_9,FI_3g,FI_3k,FI_8s,FI_8l,FI_8d,FB_1h,FB_1a,Int.toNat_natCast,Int.toNat_zero,FI_20,FB_20,tIs0_inv,tIs0_mu,tIs0,o1,othT,kI,kT,i64b,lnS1,qP,mQ,mW,wT,bIs,relS,fIs,a0,a1,a8] at hf hi ⊢
 all_goals
  (repeat' (with_reducible apply And.intro))<;>first
  | omega
  | assumption
  | (unfold inM;omega)
  | exact trivial
  | (clear hin hF ha;grind)
theorem tIs0_c:LsCM 2 ((tmM tIs0 Try.f18 (Try.f18.body.getD .skip))::[tIs0_T1]) tIs0.os [tIs0_L0,tIs0_L1]:=by
 unfold tIs0_L0 tIs0_L1
 exact ⟨List.forall_mem_cons.2 ⟨⟨⟨⟨_,rfl,rfl⟩,by kernel_rfl⟩,by kernel_rfl⟩,List.forall_mem_nil _⟩,List.forall_mem_cons.2 ⟨⟨⟨⟨_,rfl,rfl⟩,by kernel_rfl⟩,by kernel_rfl⟩,List.forall_mem_nil _⟩,trivial⟩
theorem tIs0_ok:tIs0.Ok Try.prog FI FB:=
 Com.of_plain (body:=Try.f18.body.getD .skip) pok fiok (EntsFor.consM tKeys_ok (EntsFor.consM tClone_ok EntsFor.nil)) tIs0 Try.func18 (by kernel_rfl) 9 [tIs0_T1] (by kernel_rfl) [tIs0_L0,tIs0_L1] ⟨tIs0_h0,tIs0_h1,trivial⟩ tIs0_c
  tIs0_inv tIs0_mu (fun _ _ _=>trivial) fun kv iv0 bv0 hin hF k l iv bv hk ha hi=>match k,hk,hi with
  | 0,hk,hi=>by
    cases hk
    exact tIs0_o0 kv iv0 bv0 hin hF iv bv ha hi
  | 1,hk,hi=>by
    cases hk
    exact tIs0_o1 kv iv0 bv0 hin hF iv bv ha hi
  | k+2,hk,_=>by simp at hk
def tIs_T1:Tm:=⟨⟨40,21,[(9,(.it .i64 (.v 31))),(8,(.it .i64 (.ap 8 (.v 1) (.c 0) (.c 0) (.c 0) (.c 2) (.c 0)))),(7,(.sl (.n 11) (.c 0) (.ap 8 (.v 1) (.c 0) (.c 0) (.c 0) (.c 2) (.c 0)) (.v 29))),(0,(.yl 10)),(1,(.pt (.n 6) (.c 0)))],[(.code (atC Try.f40 [0,1,1,0,0])),(.inLoop (atC Try.f40 [0,1,1,0,0])),(.inBlock 0),(.inScope (atC Try.f40 [0]))],[],.none⟩,[⟨18,62,[(8,(.pt (.n 8) (.c 0))),(6,(.pt (.n 5) (.c 0))),(5,(.pt (.n 4) (.c 0))),(4,(.pt (.n 3) (.c 0)))],[(.inRangeFunc 10),(.inBlock 0),(.code (atC Try.f18 [1,1,1,1,1]))],[9],.none⟩],
    ⟨[(0,(.cells [(.it .i64 (.v 0)),(.mp (.n 1))] 52)),(1,(.mapc .i64 .i64 (.v 1))),(2,(.arr [(.nt .i64),(.nt .i64)] (.v 2) (.v 3) 62 (.v 4))),(3,(.cells [(.it .i64 (.v 0)),(.sl (.n 2) (.op .mul (.v 5) (.c 2)) (.v 6) (.v 7))] 44)),(4,(.cells [(.it .i64 (.v 8))] 3)),(5,(.cells [(.bo (.c .false))] 4)),(6,(.cells [(.mp (.n 7))] 30)),(7,(.mapc .i64 .i64 (.v 1))),(8,(.cells [(.it .i64 (.v 31))] 3)),(9,.dfr),(10,(.loop .ready .none 18 62 [(30,(.fn 40 [] [(.pt (.n 6) (.c 0))])),(8,(.pt (.n 8) (.c 0))),(29,(.bo (.not (.eq (.ap 8 (.v 1) (.c 0) (.c 0) (.c 0) (.c 2) (.c 0)) (.v 6))))),(28,(.bo (.not (.eq (.ap 8 (.v 1) (.c 0) (.c 0) (.c 0) (.c 2) (.c 0)) (.v 6))))),(27,(.it .i64 (.v 6))),(26,(.sl (.n 2) (.op .mul (.v 5) (.c 2)) (.v 6) (.v 7))),(25,(.pt (.n 3) (.c 1))),(24,(.it .i64 (.ap 8 (.v 1) (.c 0) (.c 0) (.c 0) (.c 2) (.c 0)))),(23,(.pt (.n 0) (.c 0))),(22,(.bo (.c .false))),(21,(.bo (.c .false))),(20,(.bo (.c .false))),(19,(.it .i64 (.v 0))),(18,(.pt (.n 3) (.c 0))),(17,(.it .i64 (.v 0))),(16,(.pt (.n 0) (.c 0))),(15,(.bo (.c .false))),(14,(.bo (.c .false))),(13,(.fn 40 [] [(.pt (.n 6) (.c 0))])),(7,(.fn 40 [] [(.pt (.n 6) (.c 0))])),(12,(.fn 40 [] [(.pt (.n 6) (.c 0))])),(11,(.pt (.n 0) (.c 0))),(6,(.pt (.n 5) (.c 0))),(5,(.pt (.n 4) (.c 0))),(4,(.pt (.n 3) (.c 0))),(0,(.pt (.n 0) (.c 0))),(1,(.ag [(.it .i64 (.v 0)),(.sl (.n 2) (.op .mul (.v 5) (.c 2)) (.v 6) (.v 7))])),(2,(.it .i64 (.v 8)))] #[31,32] (atC Try.f18 [1,1,1,1,0,1,0,0]) (atC Try.f18 [1,1,1,1,0,1,0,1]) 9)),(11,(.arr [(.nt .i64)] (.ap 20 (.v 1) (.c 0) (.c 0) (.c 0) (.c 0) (.c 0)) (.ap 8 (.v 1) (.c 0) (.c 0) (.c 0) (.c 2) (.c 0)) 3 (.v 29)))],12,0,0,[((.lt (.c 0) (.ap 8 (.v 1) (.c 0) (.c 0) (.c 0) (.c 2) (.c 0))),.true),((.ap 20 (.v 1) (.c 0) (.c 0) (.c 0) (.c 0) (.c 0)),.true),((.eq (.ap 8 (.v 1) (.c 0) (.c 0) (.c 0) (.c 2) (.c 0)) (.v 6)),.true),((.ap 21 (.v 1) (.v 2) (.v 5) (.v 6) (.c 0) (.c 0)),.true),((.le (.op .add (.v 5) (.v 6)) (.v 3)),.true),((.le (.v 6) (.v 7)),.true),((.le (.c 0) (.v 5)),.true),((.le (.c 0) (.v 6)),.true),((.le (.v 6) (.c 4096)),.true),((.le (.v 3) (.c 8192)),.true)],[0],[(31,(0,1000000)),(6,(0,4096)),(5,(0,(-1))),(0,((-9223372036854775808),9223372036854775807)),(8,((-9223372036854775808),9223372036854775807))]⟩,[31,29]⟩
def tIs_T2:Tm:=⟨⟨40,21,[(9,(.it .i64 (.c 0))),(8,(.it .i64 (.c 0))),(7,.sn),(0,(.yl 10)),(1,(.pt (.n 6) (.c 0)))],[(.code (atC Try.f40 [0,1,1,0,0])),(.inLoop (atC Try.f40 [0,1,1,0,0])),(.inBlock 0),(.inScope (atC Try.f40 [0]))],[],.none⟩,[⟨18,62,[(8,(.pt (.n 8) (.c 0))),(6,(.pt (.n 5) (.c 0))),(5,(.pt (.n 4) (.c 0))),(4,(.pt (.n 3) (.c 0)))],[(.inRangeFunc 10),(.inBlock 0),(.code (atC Try.f18 [1,1,1,1,1]))],[9],.none⟩],
    ⟨[(0,(.cells [(.it .i64 (.v 0)),(.mp (.n 1))] 52)),(1,(.mapc .i64 .i64 (.v 1))),(2,(.arr [(.nt .i64),(.nt .i64)] (.v 2) (.v 3) 62 (.v 4))),(3,(.cells [(.it .i64 (.v 0)),(.sl (.n 2) (.op .mul (.v 5) (.c 2)) (.v 6) (.v 7))] 44)),(4,(.cells [(.it .i64 (.v 8))] 3)),(5,(.cells [(.bo (.c .false))] 4)),(6,(.cells [(.mp (.n 7))] 30)),(7,(.mapc .i64 .i64 (.v 1))),(8,(.cells [(.it .i64 (.c 0))] 3)),(9,.dfr),(10,(.loop .ready .none 18 62 [(30,(.fn 40 [] [(.pt (.n 6) (.c 0))])),(8,(.pt (.n 8) (.c 0))),(29,(.bo (.not (.eq (.ap 8 (.v 1) (.c 0) (.c 0) (.c 0) (.c 2) (.c 0)) (.v 6))))),(28,(.bo (.not (.eq (.ap 8 (.v 1) (.c 0) (.c 0) (.c 0) (.c 2) (.c 0)) (.v 6))))),(27,(.it .i64 (.v 6))),(26,(.sl (.n 2) (.op .mul (.v 5) (.c 2)) (.v 6) (.v 7))),(25,(.pt (.n 3) (.c 1))),(24,(.it .i64 (.ap 8 (.v 1) (.c 0) (.c 0) (.c 0) (.c 2) (.c 0)))),(23,(.pt (.n 0) (.c 0))),(22,(.bo (.c .false))),(21,(.bo (.c .false))),(20,(.bo (.c .false))),(19,(.it .i64 (.v 0))),(18,(.pt (.n 3) (.c 0))),(17,(.it .i64 (.v 0))),(16,(.pt (.n 0) (.c 0))),(15,(.bo (.c .false))),(14,(.bo (.c .false))),(13,(.fn 40 [] [(.pt (.n 6) (.c 0))])),(7,(.fn 40 [] [(.pt (.n 6) (.c 0))])),(12,(.fn 40 [] [(.pt (.n 6) (.c 0))])),(11,(.pt (.n 0) (.c 0))),(6,(.pt (.n 5) (.c 0))),(5,(.pt (.n 4) (.c 0))),(4,(.pt (.n 3) (.c 0))),(0,(.pt (.n 0) (.c 0))),(1,(.ag [(.it .i64 (.v 0)),(.sl (.n 2) (.op .mul (.v 5) (.c 2)) (.v 6) (.v 7))])),(2,(.it .i64 (.v 8)))] #[31,32] (atC Try.f18 [1,1,1,1,0,1,0,0]) (atC Try.f18 [1,1,1,1,0,1,0,1]) 9))],11,0,0,[((.lt (.c 0) (.ap 8 (.v 1) (.c 0) (.c 0) (.c 0) (.c 2) (.c 0))),.false),((.ap 20 (.v 1) (.c 0) (.c 0) (.c 0) (.c 0) (.c 0)),.true),((.eq (.ap 8 (.v 1) (.c 0) (.c 0) (.c 0) (.c 2) (.c 0)) (.v 6)),.true),((.ap 21 (.v 1) (.v 2) (.v 5) (.v 6) (.c 0) (.c 0)),.true),((.le (.op .add (.v 5) (.v 6)) (.v 3)),.true),((.le (.v 6) (.v 7)),.true),((.le (.c 0) (.v 5)),.true),((.le (.c 0) (.v 6)),.true),((.le (.v 6) (.c 4096)),.true),((.le (.v 3) (.c 8192)),.true)],[0],[(6,(0,4096)),(5,(0,(-1))),(6,(0,4096)),(6,(0,4096)),(0,((-9223372036854775808),9223372036854775807)),(8,((-9223372036854775808),9223372036854775807)),(5,(0,(-1))),(6,(0,(-1)))]⟩,[]⟩
def tIs_L0:List Lf:=
 let x0_:SI:=(.ap 8 (.v 1) (.c 0) (.c 0) (.c 0) (.c 2) (.c 0))
 let f0_:List (SB×Bool):=[((.ap 21 (.v 1) (.v 2) (.v 5) (.v 6) (.c 0) (.c 0)),.true),((.le (.op .add (.v 5) (.v 6)) (.v 3)),.true),((.le (.v 6) (.v 7)),.true),((.le (.c 0) (.v 5)),.true),((.le (.c 0) (.v 6)),.true),((.le (.v 6) (.c 4096)),.true),((.le (.v 3) (.c 8192)),.true)]
 let f1_:List (SB×Bool):=((.eq x0_ (.v 6)),.true)::f0_
 let f2_:List (SB×Bool):=((.ap 20 (.v 1) (.c 0) (.c 0) (.c 0) (.c 0) (.c 0)),.true)::f1_
 [(let i_:In:=⟨⟨[(29,(.d 0)),(31,(.c 0))],[]⟩,[(1,1),(0,0),(7,7),(2,2),(9,9),(3,3),(4,4),(5,5),(8,8),(6,6),(10,10),(11,11)],[],[]⟩;.cut (((.le x0_ (.d 0)),.true)::((.lt (.c 0) x0_),.true)::f2_) 1 i_ [] (shT tIs_T1 i_)),
  (let i_:In:=⟨⟨[],[]⟩,[(1,1),(0,0),(7,7),(2,2),(9,9),(3,3),(4,4),(5,5),(8,8),(6,6),(10,10)],[],[]⟩;.cut (((.lt (.c 0) x0_),.false)::f2_) 2 i_ [] (shT tIs_T2 i_)),
  (.bad (((.ap 20 (.v 1) (.c 0) (.c 0) (.c 0) (.c 0) (.c 0)),.false)::f1_)),
  (.fin (((.eq x0_ (.v 6)),.false)::f0_) 0 ⟨⟨[],[]⟩,[(2,2),(1,1),(0,0)],[],[]⟩ [(.eb (.c .true) (.c .false))] [.none,.none,.none])]
def tIs_L1:List Lf:=
 let x0_:SI:=(.op .add (.v 5) (.v 31))
 let x1_:SI:=(.ap 8 (.v 1) (.c 0) (.c 0) (.c 0) (.c 2) (.c 0))
 let x2_:SI:=(.ap 3 (.v 2) x0_ (.c 0) (.c 0) (.c 0) (.c 0))
 let x3_:SI:=(.ap 3 (.v 2) x0_ (.c 1) (.c 0) (.c 0) (.c 0))
 let x4_:SI:=(.ap 3 (.ap 20 (.v 1) (.c 0) (.c 0) (.c 0) (.c 0) (.c 0)) (.v 31) (.c 0) (.c 0) (.c 0) (.c 0))
 let x5_:SI:=(.ap 3 (.v 1) x4_ (.c 0) (.c 1) (.c 0) (.c 0))
 let f0_:List (SB×Bool):=[((.lt (.c 0) x1_),.true),((.ap 20 (.v 1) (.c 0) (.c 0) (.c 0) (.c 0) (.c 0)),.true),((.eq x1_ (.v 6)),.true),((.ap 21 (.v 1) (.v 2) (.v 5) (.v 6) (.c 0) (.c 0)),.true),((.le (.op .add (.v 5) (.v 6)) (.v 3)),.true),((.le (.v 6) (.v 7)),.true),((.le (.c 0) (.v 5)),.true),((.le (.c 0) (.v 6)),.true),((.le (.v 6) (.c 4096)),.true),((.le (.v 3) (.c 8192)),.true)]
 let f1_:List (SB×Bool):=((.lt (.v 31) x1_),.true)::f0_
 let f2_:List (SB×Bool):=((.lt x0_ (.v 3)),.true)::f1_
 let f3_:List (SB×Bool):=((.eq x2_ x4_),.true)::f2_
 let f4_:List (SB×Bool):=((.eq x3_ x5_),.true)::f3_
 [(.fin (((.le (.v 8) (.op .add (.v 31) (.c 1))),.true)::f4_) 0 ⟨⟨[],[]⟩,[(2,2),(1,1),(0,0)],[],[]⟩ [(.eb (.c .true) (.eq (.op .add (.v 31) (.c 1)) (.op .imin (.v 6) (.op .imax (.c 1) (.v 8)))))] [.none,.none,.none]),
  (let i_:In:=⟨⟨[(29,(.v 29)),(31,(.op .add (.v 31) (.c 1)))],[]⟩,[(1,1),(0,0),(7,7),(2,2),(9,9),(3,3),(4,4),(5,5),(8,8),(6,6),(10,10),(11,11)],[],[]⟩;.cut (((.le (.v 8) (.op .add (.v 31) (.c 1))),.false)::f4_) 1 i_ [(.rn (.op .add (.v 31) (.c 1)) 0 1000000)] (shT tIs_T1 i_)),
  (.fin (((.eq x3_ x5_),.false)::f3_) 0 ⟨⟨[],[]⟩,[(2,2),(1,1),(0,0)],[],[]⟩ [(.eb (.c .true) (.c .false))] [.none,.none,.none]),
  (.fin (((.eq x2_ x4_),.false)::f2_) 0 ⟨⟨[],[]⟩,[(2,2),(1,1),(0,0)],[],[]⟩ [(.eb (.c .true) (.c .false))] [.none,.none,.none]),
  (.bad (((.lt x0_ (.v 3)),.false)::f1_)),
  (.fin (((.lt (.v 31) x1_),.false)::f0_) 0 ⟨⟨[],[]⟩,[(2,2),(1,1),(0,0)],[],[]⟩ [(.eb (.c .true) (.eq (.v 31) (.op .imin (.v 6) (.op .imax (.c 1) (.v 8)))))] [.none,.none,.none])]
def tIs_L2:List Lf:=
 let x0_:SI:=(.ap 8 (.v 1) (.c 0) (.c 0) (.c 0) (.c 2) (.c 0))
 [(.fin ([((.lt (.c 0) x0_),.false),((.ap 20 (.v 1) (.c 0) (.c 0) (.c 0) (.c 0) (.c 0)),.true),((.eq x0_ (.v 6)),.true),((.ap 21 (.v 1) (.v 2) (.v 5) (.v 6) (.c 0) (.c 0)),.true),((.le (.op .add (.v 5) (.v 6)) (.v 3)),.true),((.le (.v 6) (.v 7)),.true),((.le (.c 0) (.v 5)),.true),((.le (.c 0) (.v 6)),.true),((.le (.v 6) (.c 4096)),.true),((.le (.v 3) (.c 8192)),.true)]) 0 ⟨⟨[],[]⟩,[(2,2),(1,1),(0,0)],[],[]⟩ [(.eb (.c .true) (.eq (.c 0) (.op .imin (.v 6) (.op .imax (.c 1) (.v 8)))))] [.none,.none,.none])]
def tIs_run (T:Tm):=(ex (ccM Try.prog BF [62,32]) ((fun cc=>[tKeys.ent cc,tClone.ent cc]) (ccM Try.prog BF [62,32])) (dw (ccM Try.prog BF [62,32]) ((fun cc=>[tKeys.ent cc,tClone.ent cc]) (ccM Try.prog BF [62,32])) 1000 4) (stopX []) 4000 T.f T.fs T.H).lfsM 3 (ccM Try.prog BF [62,32]) ((tmM tIs Try.f18 (Try.f18.body.getD .skip))::[tIs_T1,tIs_T2]) tIs.os
theorem tIs_h0:tIs_run (tmM tIs Try.f18 (Try.f18.body.getD .skip))=some tIs_L0:=by kernel_rfl
theorem tIs_h1:tIs_run tIs_T1=some tIs_L1:=by kernel_rfl
theorem tIs_h2:tIs_run tIs_T2=some tIs_L2:=by kernel_rfl
def tIs_inv:(Nat→Int)→(Nat→Bool)→Nat→(Nat→Int)→(Nat→Bool)→Prop:=fun iv0 _ k iv _=>match k with | 0=>True | 1=>0≤iv 31∧iv 31≤iv0 6∧(iv 31=0∨iv 31 < iv0 8) | _=>True
def tIs_mu:(Nat→Int)→(Nat→Bool)→Nat→(Nat→Int)→(Nat→Bool)→Nat:=fun iv0 _ k iv _=>match k with | 0=>2 ^ 90 | 1=>(iv0 6 - iv 31).toNat | _=>2 ^ 80
theorem tIs_b {iv0:Nat→Int} (hin:InB tIs.B iv0):((-9223372036854775808)≤iv0 0∧iv0 0≤9223372036854775807)∧((-9223372036854775808)≤iv0 8∧iv0 8≤9223372036854775807):=by
 have b0:=hin 0 (-9223372036854775808) 9223372036854775807 (by simp [tIs,kI,kT,i64b,lnS1,qP,mQ,mW,wT,bIs,relS,fIs])
 simp only [Int.reduceLE,reduceIte,Int.reduceNeg] at b0
 have b8:=hin 8 (-9223372036854775808) 9223372036854775807 (by simp [tIs,kI,kT,i64b,lnS1,qP,mQ,mW,wT,bIs,relS,fIs])
 simp only [Int.reduceLE,reduceIte,Int.reduceNeg] at b8
 exact ⟨b0,b8⟩
def tIs_ob (k:Nat) (l:List Lf):Prop:=∀ (kv:Kv) (iv0:Nat→Int) (bv0:Nat→Bool),InB tIs.B iv0→FT (sta FI FB kv iv0 bv0) (dlt dyn0) tIs.F→∀ (iv:Nat→Int) (bv:Nat→Bool),Agr 9 iv0 bv0 iv bv→tIs_inv iv0 bv0 k iv bv→∀ lf∈l,LfT (sta FI FB kv) tIs.os (tIs_inv iv0 bv0) (tIs_mu iv0 bv0) k iv bv lf
theorem tIs_o0:tIs_ob 0 tIs_L0:=by
 intro kv iv0 bv0 hin hF iv bv ha hi
 unfold tIs_L0
 refine List.forall_mem_cons.2 ⟨?_,List.forall_mem_cons.2 ⟨?_,List.forall_mem_cons.2 ⟨?_,List.forall_mem_cons.2 ⟨?_,List.forall_mem_nil _⟩⟩⟩⟩
 all_goals
  intro δ hf
 all_goals
  obtain ⟨b0,b8⟩:=tIs_b hin
 all_goals
  have a0:=ha.1 0 (by omega)
  have a1:=ha.1 1 (by omega)
  have a2:=ha.1 2 (by omega)
  have a3:=ha.1 3 (by omega)
  have a4:=ha.1 4 (by omega)
  have a5:=ha.1 5 (by omega)
  have a6:=ha.1 6 (by omega)
  have a7:=ha.1 7 (by omega)
  have a8:=ha.1 8 (by omega)
 all_goals
  simp only [FT,TP,SB.tp,SI.tv,sta,IB.eval,and_true,true_and,ObsT,Ob.Tv,rowT,kix,In.tiv,↓tbvT,In.tbv,get_cons,get_nil,reduceIte,Nat.reduceEqDiff,Int.reduceToNat,Int.reduceAdd,Int.reduceSub,Int.reduceLE,Int.reduceLT,Int.reduceEq,ne_eq,Bool.false_eq_true,not_true_eq_false,not_false_eq_true,true_iff,false_iff,iff_true,iff_false,false_implies,implies_true,decT,decide_true,decide_false,Bool.decide_eq_true,ap2,pb2,FI_3,FI_8,FI_9,FI_3g,FI_3k,FI_8s,FI_8l,FI_8d,FB_1h,FB_1a,Int.toNat_natCast,Int.toNat_zero,FI_20,FI_21,FB_20,FB_21,tIs_inv,tIs_mu,tIs,o1,othT,kI,kT,i64b,lnS1,qP,mQ,mW,wT,bIs,relS,fIs,a0,a1,a2,a3,a4,a5,a6,a7,a8] at hf hi ⊢
 all_goals
  have hR:relO (iv0 1) (iv0 2) (iv0 5) (iv0 6)→kinC (iv0 1)∧iv0 6=lenC (iv0 1):=fun h=>⟨h.1,h.2.1⟩
 all_goals
  have hl:=lenC_nn (iv0 1)
 all_goals
  (repeat' (with_reducible apply And.intro))<;>first
  | omega
  | assumption
  | (unfold inM;omega)
  | exact trivial
  | (clear hin hF ha;grind)
theorem tIs_o1:tIs_ob 1 tIs_L1:=by
 intro kv iv0 bv0 hin hF iv bv ha hi
 unfold tIs_L1
 refine List.forall_mem_cons.2 ⟨?_,List.forall_mem_cons.2 ⟨?_,List.forall_mem_cons.2 ⟨?_,List.forall_mem_cons.2 ⟨?_,List.forall_mem_cons.2 ⟨?_,List.forall_mem_cons.2 ⟨?_,List.forall_mem_nil _⟩⟩⟩⟩⟩⟩
 all_goals
  intro δ hf
 all_goals
  obtain ⟨b0,b8⟩:=tIs_b hin
 all_goals
  have a0:=ha.1 0 (by omega)
  have a1:=ha.1 1 (by omega)
  have a2:=ha.1 2 (by omega)
  have a3:=ha.1 3 (by omega)
  have a4:=ha.1 4 (by omega)
  have a5:=ha.1 5 (by omega)
  have a6:=ha.1 6 (by omega)
  have a7:=ha.1 7 (by omega)
  have a8:=ha.1 8 (by omega)
 all_goals
  simp only [FT,TP,SB.tp,SI.tv,sta,IB.eval,and_true,true_and,ObsT,Ob.Tv,rowT,kix,In.tiv,↓tbvT,In.tbv,get_cons,get_nil,reduceIte,Nat.reduceEqDiff,Int.reduceToNat,Int.reduceAdd,Int.reduceSub,Int.reduceLE,Int.reduceLT,Int.reduceEq,ne_eq,Bool.false_eq_true,not_true_eq_false,not_false_eq_true,true_iff,false_iff,iff_true,iff_false,false_implies,implies_true,decT,decide_true,decide_false,Bool.decide_eq_true,ap2,pb2,FI_3,FI_8,FI_9,FI_3g,FI_3k,FI_8s,FI_8l,FI_8d,FB_1h,FB_1a,Int.toNat_natCast,Int.toNat_zero,FI_20,FI_21,FB_20,FB_21,tIs_inv,tIs_mu,tIs,o1,othT,kI,kT,i64b,lnS1,qP,mQ,mW,wT,bIs,relS,fIs,a0,a1,a2,a3,a4,a5,a6,a7,a8] at hf hi ⊢
 all_goals
  have hR:relO (iv0 1) (iv0 2) (iv0 5) (iv0 6):=(by first | exact hf | exact hf.1 | exact hf.2.1 | exact hf.2.2.1 | exact hf.2.2.2.1 | exact hf.2.2.2.2.1 | exact hf.2.2.2.2.2.1 | exact hf.2.2.2.2.2.2.1 | exact hf.2.2.2.2.2.2.2.1 | exact hf.2.2.2.2.2.2.2.2.1 | exact hf.2.2.2.2.2.2.2.2.2.1 | exact hf.2.2.2.2.2.2.2.2.2.2.1 | exact hf.2.2.2.2.2.2.2.2.2.2.2.1 | exact hf.2.2.2.2.2.2.2.2.2.2.2.2.1 | exact hf.2.2.2.2.2.2.2.2.2.2.2.2.2.1 | exact hf.2 | exact hf.2.2 | exact hf.2.2.2 | exact hf.2.2.2.2 | exact hf.2.2.2.2.2 | exact hf.2.2.2.2.2.2 | exact hf.2.2.2.2.2.2.2 | exact hf.2.2.2.2.2.2.2.2 | exact hf.2.2.2.2.2.2.2.2.2 | exact hf.2.2.2.2.2.2.2.2.2.2 | exact hf.2.2.2.2.2.2.2.2.2.2.2 | exact hf.2.2.2.2.2.2.2.2.2.2.2.2 | exact hf.2.2.2.2.2.2.2.2.2.2.2.2.2)
 all_goals
  obtain ⟨g0,g1,g2⟩:=hi
 all_goals
  have r0:=hR.1
 all_goals
  have r1:=hR.2.1
 all_goals
  have r2:=fun h=>rel_row hR (by omega) g0 h
 all_goals
  (repeat' (with_reducible apply And.intro))<;>first
  | omega
  | assumption
  | (unfold inM;omega)
  | (have r3:=r2 (by omega);clear hR r2 hin hF ha;grind)
  | (clear hin hF ha;grind)
theorem tIs_o2:tIs_ob 2 tIs_L2:=by
 intro kv iv0 bv0 hin hF iv bv ha hi
 unfold tIs_L2
 refine List.forall_mem_cons.2 ⟨?_,List.forall_mem_nil _⟩
 all_goals
  intro δ hf
 all_goals
  obtain ⟨b0,b8⟩:=tIs_b hin
 all_goals
  have a0:=ha.1 0 (by omega)
  have a1:=ha.1 1 (by omega)
  have a2:=ha.1 2 (by omega)
  have a3:=ha.1 3 (by omega)
  have a4:=ha.1 4 (by omega)
  have a5:=ha.1 5 (by omega)
  have a6:=ha.1 6 (by omega)
  have a7:=ha.1 7 (by omega)
  have a8:=ha.1 8 (by omega)
 all_goals
  simp only [FT,TP,SB.tp,SI.tv,sta,IB.eval,and_true,true_and,ObsT,Ob.Tv,rowT,kix,In.tiv,↓tbvT,In.tbv,get_cons,get_nil,reduceIte,Nat.reduceEqDiff,Int.reduceToNat,Int.reduceAdd,Int.reduceSub,Int.reduceLE,Int.reduceLT,Int.reduceEq,ne_eq,Bool.false_eq_true,not_true_eq_false,not_false_eq_true,true_iff,false_iff,iff_true,iff_false,false_implies,implies_true,decT,decide_true,decide_false,Bool.decide_eq_true,ap2,pb2,FI_3,FI_8,FI_9,FI_3g,FI_3k,FI_8s,FI_8l,FI_8d,FB_1h,FB_1a,Int.toNat_natCast,Int.toNat_zero,FI_20,FI_21,FB_20,FB_21,tIs_inv,tIs_mu,tIs,o1,othT,kI,kT,i64b,lnS1,qP,mQ,mW,wT,bIs,relS,fIs,a0,a1,a2,a3,a4,a5,a6,a7,a8] at hf hi ⊢
 all_goals
  have hR:relO (iv0 1) (iv0 2) (iv0 5) (iv0 6):=(by first | exact hf | exact hf.1 | exact hf.2.1 | exact hf.2.2.1 | exact hf.2.2.2.1 | exact hf.2.2.2.2.1 | exact hf.2.2.2.2.2.1 | exact hf.2.2.2.2.2.2.1 | exact hf.2.2.2.2.2.2.2.1 | exact hf.2.2.2.2.2.2.2.2.1 | exact hf.2.2.2.2.2.2.2.2.2.1 | exact hf.2.2.2.2.2.2.2.2.2.2.1 | exact hf.2.2.2.2.2.2.2.2.2.2.2.1 | exact hf.2.2.2.2.2.2.2.2.2.2.2.2.1 | exact hf.2.2.2.2.2.2.2.2.2.2.2.2.2.1 | exact hf.2 | exact hf.2.2 | exact hf.2.2.2 | exact hf.2.2.2.2 | exact hf.2.2.2.2.2 | exact hf.2.2.2.2.2.2 | exact hf.2.2.2.2.2.2.2 | exact hf.2.2.2.2.2.2.2.2 | exact hf.2.2.2.2.2.2.2.2.2 | exact hf.2.2.2.2.2.2.2.2.2.2 | exact hf.2.2.2.2.2.2.2.2.2.2.2 | exact hf.2.2.2.2.2.2.2.2.2.2.2.2 | exact hf.2.2.2.2.2.2.2.2.2.2.2.2.2)
 all_goals
  have r1:=hR.2.1
 all_goals
  (repeat' (with_reducible apply And.intro))<;>first
  | omega
  | assumption
  | (unfold inM;omega)
  | exact trivial
  | (clear hin hF ha;grind)
theorem tIs_c:LsCM 3 ((tmM tIs Try.f18 (Try.f18.body.getD .skip))::[tIs_T1,tIs_T2]) tIs.os [tIs_L0,tIs_L1,tIs_L2]:=by
 unfold tIs_L0 tIs_L1 tIs_L2
 exact ⟨List.forall_mem_cons.2 ⟨⟨⟨⟨_,rfl,rfl⟩,by kernel_rfl⟩,by kernel_rfl⟩,List.forall_mem_cons.2 ⟨⟨⟨⟨_,rfl,rfl⟩,by kernel_rfl⟩,by kernel_rfl⟩,List.forall_mem_cons.2 ⟨⟨trivial,rfl⟩,List.forall_mem_cons.2 ⟨⟨⟨⟨_,rfl,rfl⟩,by kernel_rfl⟩,by kernel_rfl⟩,List.forall_mem_nil _⟩⟩⟩⟩,List.forall_mem_cons.2 ⟨⟨⟨⟨_,rfl,rfl⟩,by kernel_rfl⟩,by kernel_rfl⟩,List.forall_mem_cons.2 ⟨⟨⟨⟨_,rfl,rfl⟩,by kernel_rfl⟩,by kernel_rfl⟩,List.forall_mem_cons.2 ⟨⟨⟨⟨_,rfl,rfl⟩,by kernel_rfl⟩,by kernel_rfl⟩,List.forall_mem_cons.2 ⟨⟨⟨⟨_,rfl,rfl⟩,by kernel_rfl⟩,by kernel_rfl⟩,List.forall_mem_cons.2 ⟨⟨trivial,rfl⟩,List.forall_mem_cons.2 ⟨⟨⟨⟨_,rfl,rfl⟩,by kernel_rfl⟩,by kernel_rfl⟩,List.forall_mem_nil _⟩⟩⟩⟩⟩⟩,List.forall_mem_cons.2 ⟨⟨⟨⟨_,rfl,rfl⟩,by kernel_rfl⟩,by kernel_rfl⟩,List.forall_mem_nil _⟩,trivial⟩
theorem tIs_ok:tIs.Ok Try.prog FI FB:=
 Com.of_plain (body:=Try.f18.body.getD .skip) pok fiok (EntsFor.consM tKeys_ok (EntsFor.consM tClone_ok EntsFor.nil)) tIs Try.func18 (by kernel_rfl) 9 [tIs_T1,tIs_T2] (by kernel_rfl) [tIs_L0,tIs_L1,tIs_L2] ⟨tIs_h0,tIs_h1,tIs_h2,trivial⟩ tIs_c
  tIs_inv tIs_mu (fun _ _ _=>trivial) fun kv iv0 bv0 hin hF k l iv bv hk ha hi=>match k,hk,hi with
  | 0,hk,hi=>by
    cases hk
    exact tIs_o0 kv iv0 bv0 hin hF iv bv ha hi
  | 1,hk,hi=>by
    cases hk
    exact tIs_o1 kv iv0 bv0 hin hF iv bv ha hi
  | 2,hk,hi=>by
    cases hk
    exact tIs_o2 kv iv0 bv0 hin hF iv bv ha hi
  | k+3,hk,_=>by simp at hk
end
end Go.Sx.Ti
