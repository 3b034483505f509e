/- The pool: the chapter's rows. -/
import Derived.Test.YtbcbpicfnfkdeaaPkD
namespace Go.Sx.Pk
set_option linter.unusedVariables false
set_option linter.unusedSimpArgs false
set_option maxRecDepth 100000
open Go Go.Sx Go.Proofs
noncomputable def pWks:Con:=⟨7,[],[],[],[],[],o1 (.bo (.c true)),[29]⟩
noncomputable def pWks_L0:List Lf:=
 [(.fin ([((.le (.c 2) (.d 7)),.true),((.le (.c 1) (.d 6)),.true),((.le (.c 2) (.d 5)),.true),((.le (.c 1) (.d 4)),.true),((.le (.c 3) (.d 3)),.true),((.le (.c 3) (.d 2)),.true),((.le (.c 2) (.d 1)),.true),((.le (.c 1) (.d 0)),.true)]) 0 ⟨⟨[],[]⟩,[],[],[]⟩ [] [])]
noncomputable def pWks_run (T:Tm):=(ex (ccOf Try.prog BF [] pWks) ((fun _=>[]) (ccOf Try.prog BF [] pWks)) (dw (ccOf Try.prog BF [] pWks) ((fun _=>[]) (ccOf Try.prog BF [] pWks)) 1000 4) (stopX [0,1,2,3,4,5,6,7,8,9,10,11,12,13,14,15,16,17,18,19,20,21,22,23,24,25,26,27,28,29,30,31,32,33,34,35,36,37,38,39,40,41,42,43,44,45,46,47,48,49,50,51,52,53,54,55,56,57,58,59,60,61,62,63,64,65,66,67,68,69,70,71,72,73,74,75,76,77,78,79,80,81,82,83,84,85,86,87,88,89,90,91,92,93,94,95,96,97,98,99,100,101,102,103,104,105,106,107,108,109,110,111,112,113,114,115,116,117,118,119,120,121,122,123,124,125,126,127,128,129,130,131,132,133,134,135,136,137,138,139,140,141,142,143,144,145,146,147,148,149,150,151,152,153,154,155,156,157,158,159,160,161,162,163,164,165,166,167,168,169,170,171,172,173,174,175,176,177,178,179,180,181,182,183,184,185,186,187,188,189,190,191,192,193,194,195,196,197,198,199,200,201,202,203,204,205,206,207,208,209,210,211,212,213,214,215,216,217,218,219,220,221,222,223,224,225,226,227,228,229,230,231,232,233,234,235,236,237,238,239,240,241,242,243,244,245,246,247,248,249]) 200000 T.f T.fs T.H).lfs (ccOf Try.prog BF [] pWks) ((tm0 pWks Try.f7 (Try.f7.body.getD .skip))::[]) pWks.os
theorem pWks_h0:pWks_run (tm0 pWks Try.f7 (Try.f7.body.getD .skip))=some pWks_L0:=by kernel_rfl
def pWks_inv:(Nat→Int)→(Nat→Bool)→Nat→(Nat→Int)→(Nat→Bool)→Prop:=fun _ _ _ _ _=>True
noncomputable def pWks_mu:(Nat→Int)→(Nat→Bool)→Nat→(Nat→Int)→(Nat→Bool)→Nat:=fun _ _ _ _ _=>0
def pWks_ob (k:Nat) (l:List Lf):Prop:=∀ (kv:Kv) (iv0:Nat→Int) (bv0:Nat→Bool),InB pWks.B iv0→FT (sta FI FB kv iv0 bv0) (dlt dyn0) pWks.F→∀ (iv:Nat→Int) (bv:Nat→Bool),Agr 0 iv0 bv0 iv bv→pWks_inv iv0 bv0 k iv bv→∀ lf∈l,LfT (sta FI FB kv) pWks.os (pWks_inv iv0 bv0) (pWks_mu iv0 bv0) k iv bv lf
set_option maxHeartbeats 0 in
theorem pWks_o0:pWks_ob 0 pWks_L0:=by
 intro kv iv0 bv0 hin hF iv bv ha hi
 unfold pWks_L0
 refine List.forall_mem_cons.2 ⟨?_,List.forall_mem_nil _⟩
 all_goals
  intro δ hf
 all_goals
  simp only [FT,TP,SB.tp,SI.tv,sta,IB.eval,and_true,true_and,ObsT,Ob.Tv,rowT,kix,In.tiv,↓tbvT,In.tbv,get_cons,get_nil,reduceIte,Nat.reduceEqDiff,Int.reduceToNat,Int.reduceAdd,Int.reduceSub,Int.reduceLE,Int.reduceLT,Int.reduceEq,ne_eq,Bool.false_eq_true,not_true_eq_false,not_false_eq_true,true_iff,false_iff,iff_true,iff_false,false_implies,implies_true,decT,decide_true,decide_false,Bool.decide_eq_true,ap2,pb2,FI_3,FI_4,FI_8,FI_9,FI_8c,FI_8z,FB_2,Int.toNat_natCast,Int.toNat_zero,pWks_inv,pWks_mu,pWks,o1,othT,o1] at hf hi ⊢
 all_goals
  (repeat' (with_reducible apply And.intro))<;>first
  | omega
  | assumption
  | (unfold inM;omega)
  | exact trivial
theorem pWks_c:LsC ((tm0 pWks Try.f7 (Try.f7.body.getD .skip))::[]) pWks.os [pWks_L0]:=by
 unfold pWks_L0
 exact ⟨List.forall_mem_cons.2 ⟨⟨⟨_,rfl,rfl⟩,by kernel_rfl⟩,List.forall_mem_nil _⟩,trivial⟩
theorem pWks_ok:pWks.Ok Try.prog FI FB:=
 Con.of_plain (body:=Try.f7.body.getD .skip) pok fiok EntsFor.nil pWks Try.func7 (by kernel_rfl) 0 [] (by kernel_rfl) [pWks_L0] ⟨pWks_h0,trivial⟩ pWks_c
  pWks_inv pWks_mu (fun _ _ _=>trivial) fun kv iv0 bv0 hin hF k l iv bv hk ha hi=>match k,hk,hi with
  | 0,hk,hi=>by
    cases hk
    exact pWks_o0 kv iv0 bv0 hin hF iv bv ha hi
  | k+1,hk,_=>by simp at hk
end Go.Sx.Pk
