/- Tokens: the chapter's rows. -/
import Derived.Test.YtfailpbjhlhhiaaGreatTkD
namespace Go.Sx.Tk
set_option linter.unusedVariables false
set_option linter.unusedSimpArgs false
set_option maxRecDepth 100000
open Go Go.Sx Go.Proofs
noncomputable def cWorks:Con:=⟨9,[],[],[],[],[],o1 (.bo (.c true)),[2,3,4,71,75,100,188]⟩
noncomputable def cWorks_L0:List Lf:=
 [(.fin ([((.le (.c 1) (.d 31)),.true),((.le (.c 1) (.d 30)),.true),((.le (.c 1) (.d 29)),.true),((.le (.c 1) (.d 28)),.true),((.le (.c 1) (.d 27)),.true),((.le (.c 1) (.d 26)),.true),((.le (.c 2) (.d 25)),.true),((.le (.c 1) (.d 24)),.true),((.le (.c 1) (.d 23)),.true),((.le (.c 1) (.d 22)),.true),((.le (.c 1) (.d 21)),.true),((.le (.c 1) (.d 20)),.true),((.le (.c 2) (.d 19)),.true),((.le (.c 1) (.d 18)),.true),((.le (.c 1) (.d 17)),.true),((.le (.c 1) (.d 16)),.true),((.le (.c 1) (.d 15)),.true),((.le (.c 1) (.d 14)),.true),((.le (.c 2) (.d 13)),.true),((.le (.c 1) (.d 12)),.true),((.le (.c 1) (.d 11)),.true),((.le (.c 1) (.d 10)),.true),((.le (.c 1) (.d 9)),.true),((.le (.c 1) (.d 8)),.true),((.le (.c 2) (.d 7)),.true),((.le (.c 1) (.d 6)),.true),((.le (.c 1) (.d 5)),.true),((.le (.c 1) (.d 4)),.true),((.le (.c 1) (.d 3)),.true),((.le (.c 2) (.d 2)),.true),((.le (.c 1) (.d 1)),.true),((.le (.c 2) (.d 0)),.true)]) 0 ⟨⟨[],[]⟩,[],[],[]⟩ [] [])]
noncomputable def cWorks_run (T:Tm):=(ex (ccOf Tryz.prog BF [29,73,75,100] cWorks) ((fun _=>[]) (ccOf Tryz.prog BF [29,73,75,100] cWorks)) (dw (ccOf Tryz.prog BF [29,73,75,100] cWorks) ((fun _=>[]) (ccOf Tryz.prog BF [29,73,75,100] cWorks)) 30000 12) (stopX [0,1,2,3,4,5,6,7,8,9,10,11,12,13,14,15,16,17,18,19,20,21,22,23,24,25,26,27,28,29,30,31,32,33,34,35,36,37,38,39,40,41,42,43,44,45,46,47,48,49,50,51,52,53,54,55,56,57,58,59,60,61,62,63,64,65,66,67,68,69,70,71,72,73,74,75,76,77,78,79,80,81,82,83,84,85,86,87,88,89,90,91,92,93,94,95,96,97,98,99,100,101,102,103,104,105,106,107,108,109,110,111,112,113,114,115,116,117,118,119,120,121,122,123,124,125,126,127,128,129,130,131,132,133,134,135,136,137,138,139,140,141,142,143,144,145,146,147,148,149,150,151,152,153,154,155,156,157,158,159,160,161,162,163,164,165,166,167,168,169,170,171,172,173,174,175,176,177,178,179,180,181,182,183,184,185,186,187,188,189,190,191,192,193,194,195,196,197,198,199,200,201,202,203,204,205,206,207,208,209,210,211,212,213,214,215,216,217,218,219,220,221,222,223,224,225,226,227,228,229,230,231,232,233,234,235,236,237,238,239,240,241,242,243,244,245,246,247,248,249,250,251,252,253,254,255,256,257,258,259,260,261,262,263,264,265,266,267,268,269,270,271,272,273,274,275,276,277,278,279,280,281,282,283,284,285,286,287,288,289,290,291,292,293,294,295,296,297,298,299,300,301,302,303,304,305,306,307,308,309,310,311,312,313,314,315,316,317,318,319,320,321,322,323,324,325,326,327,328,329,330,331,332,333,334,335,336,337,338,339,340,341,342,343,344,345,346,347,348,349,350,351,352,353,354,355,356,357,358,359,360,361,362,363,364,365,366,367,368,369,370,371,372,373,374,375,376,377,378,379,380,381,382,383,384,385,386,387,388,389,390,391,392,393,394,395,396,397,398,399]) 30000 T.f T.fs T.H).lfs (ccOf Tryz.prog BF [29,73,75,100] cWorks) ((tm0 cWorks Tryz.f9 (Tryz.f9.body.getD .skip))::[]) cWorks.os
theorem cWorks_h0:cWorks_run (tm0 cWorks Tryz.f9 (Tryz.f9.body.getD .skip))=some cWorks_L0:=by kernel_rfl
def cWorks_inv:(Nat→Int)→(Nat→Bool)→Nat→(Nat→Int)→(Nat→Bool)→Prop:=fun _ _ _ _ _=>True
noncomputable def cWorks_mu:(Nat→Int)→(Nat→Bool)→Nat→(Nat→Int)→(Nat→Bool)→Nat:=fun _ _ _ _ _=>0
def cWorks_ob (k:Nat) (l:List Lf):Prop:=∀ (kv:Kv) (iv0:Nat→Int) (bv0:Nat→Bool),InB cWorks.B iv0→FT (sta FI FB kv iv0 bv0) (dlt dyn0) cWorks.F→∀ (iv:Nat→Int) (bv:Nat→Bool),Agr 0 iv0 bv0 iv bv→cWorks_inv iv0 bv0 k iv bv→∀ lf∈l,LfT (sta FI FB kv) cWorks.os (cWorks_inv iv0 bv0) (cWorks_mu iv0 bv0) k iv bv lf
set_option maxHeartbeats 0 in
theorem cWorks_o0:cWorks_ob 0 cWorks_L0:=by
 intro kv iv0 bv0 hin hF iv bv ha hi
 unfold cWorks_L0
 refine List.forall_mem_cons.2 ⟨?_,List.forall_mem_nil _⟩
 all_goals
  intro δ hf
 all_goals
  simp only [FT,TP,SB.tp,SI.tv,sta,IB.eval,and_true,true_and,ObsT,Ob.Tv,rowT,kix,In.tiv,↓tbvT,In.tbv,get_cons,get_nil,reduceIte,Nat.reduceEqDiff,Int.reduceToNat,Int.reduceAdd,Int.reduceSub,Int.reduceLE,Int.reduceLT,Int.reduceEq,ne_eq,Bool.false_eq_true,not_true_eq_false,not_false_eq_true,true_iff,false_iff,iff_true,iff_false,false_implies,implies_true,decT,decide_true,decide_false,Bool.decide_eq_true,ap2,pb2,FI_3,FI_3g,FI_4,FI_8,FI_8m,FI_9,FI_8c,FI_8z,FB_0,FB_2,Int.toNat_natCast,Int.toNat_zero,cWorks_inv,cWorks_mu,cWorks,o1,othT,o1] at hf hi ⊢
 all_goals
  (repeat' (with_reducible apply And.intro))<;>first
  | omega
  | assumption
  | (unfold inM;omega)
  | exact trivial
theorem cWorks_c:LsC ((tm0 cWorks Tryz.f9 (Tryz.f9.body.getD .skip))::[]) cWorks.os [cWorks_L0]:=by
 unfold cWorks_L0
 exact ⟨List.forall_mem_cons.2 ⟨⟨⟨_,rfl,rfl⟩,by kernel_rfl⟩,List.forall_mem_nil _⟩,trivial⟩
theorem cWorks_ok:cWorks.Ok Tryz.prog FI FB:=
 Con.of_plain (body:=Tryz.f9.body.getD .skip) pok fiok EntsFor.nil cWorks Tryz.func9 (by kernel_rfl) 0 [] (by kernel_rfl) [cWorks_L0] ⟨cWorks_h0,trivial⟩ cWorks_c
  cWorks_inv cWorks_mu (fun _ _ _=>trivial) fun kv iv0 bv0 hin hF k l iv bv hk ha hi=>match k,hk,hi with
  | 0,hk,hi=>by
    cases hk
    exact cWorks_o0 kv iv0 bv0 hin hF iv bv ha hi
  | k+1,hk,_=>by simp at hk
end Go.Sx.Tk
