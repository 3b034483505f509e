/- Tokens: counters that change, copies. -/
import Derived.Test.YtfailpbjhlhhiaaGreatTkD
namespace Go.Sx.Tk
set_option linter.unusedVariables false
set_option linter.unusedSimpArgs false
set_option maxRecDepth 100000
set_option maxHeartbeats 0
noncomputable section
open Go Go.Sx Go.Proofs
def ap4 (f:Nat):SI:=.ap f (.v 0) (.v 1) (.v 2) (.v 3) (.c 0) (.c 0)
def cR (a:Nat):SV:=.tp [.ag [.it .i64 (ap4 a),.it .i64 (ap4 (Nat.add a 1)),.it .u64 (ap4 (Nat.add a 2))],.it .i64 (ap4 (Nat.add a 3))]
def eC:Con:=⟨124,[0,1,2,3],[.ag [.it .i64 (.v 0),.it .i64 (.v 1),.it .u64 (.v 2)],.it .i64 (.v 3)],[],i64b 0::i64b 1::u64b 2::i64b 3::[],[],o1 (cR 70),[]⟩
def rC:Con:=⟨129,[0,1,2,3],[.ag [.it .i64 (.v 0),.it .i64 (.v 1),.it .u64 (.v 2)],.it .i64 (.v 3)],[],i64b 0::i64b 1::u64b 2::i64b 3::[],[],o1 (cR 70),[]⟩
def eX:Con:=⟨52,[0,1,2,3],[.ag [.it .i64 (.v 0),.it .i64 (.v 1),.it .u64 (.v 2)],.it .i64 (.v 3)],[],i64b 0::i64b 1::u64b 2::i64b 3::[],[],o1 (cR 74),[]⟩
def rX:Con:=⟨55,[0,1,2,3],[.ag [.it .i64 (.v 0),.it .i64 (.v 1),.it .u64 (.v 2)],.it .i64 (.v 3)],[],i64b 0::i64b 1::u64b 2::i64b 3::[],[],o1 (cR 74),[]⟩
def rCopy:Con:=⟨10,[0,1,2,3,4,5,6],[.ag [.it .i64 (.v 0),.fs 1 (.v 1),.fs 3 (.v 2),.fs 4 (.v 3),.it .i64 (.v 4),.it .i64 (.v 5),.it .u64 (.v 6)]],[],i64b 0::i64b 4::i64b 5::u64b 6::[],flF 1 300::flF 2 300::flF 3 300::[],o1 (.ag [.it .i64 (.v 0),.fs 1 (.v 1),.fs 3 (.v 2),.fs 4 (.v 3),.it .i64 (.v 4),.it .i64 (.v 5),.it .u64 (.v 6)]),[]⟩
def eC_L0:List Lf:=
 let x0_:SI:=(.wk .u64 (.op .sub (.c 9223372036854775807) (.wk .u64 (.v 0))))
 let f0_:List (SB×Bool):=[((.le (.v 2) (.c 4611686018427387904)),.true),((.le (.v 1) (.v 0)),.true)]
 let f1_:List (SB×Bool):=((.lt (.c 0) (.v 3)),.true)::f0_
 let f2_:List (SB×Bool):=((.lt x0_ (.v 3)),.false)::f1_
 [(.fin (((.lt x0_ (.v 3)),.true)::f1_) 0 ⟨⟨[],[]⟩,[],[],[]⟩ [(.ei (.ap 70 (.v 0) (.v 1) (.v 2) (.v 3) (.c 0) (.c 0)) (.c 0)),(.ei (.ap 71 (.v 0) (.v 1) (.v 2) (.v 3) (.c 0) (.c 0)) (.c 0)),(.ei (.ap 72 (.v 0) (.v 1) (.v 2) (.v 3) (.c 0) (.c 0)) (.c 0)),(.ei (.ap 73 (.v 0) (.v 1) (.v 2) (.v 3) (.c 0) (.c 0)) (.c 141))] []),
  (.fin (((.le (.c 4611686018427387904) (.v 2)),.true)::f2_) 0 ⟨⟨[],[]⟩,[],[],[]⟩ [(.ei (.ap 70 (.v 0) (.v 1) (.v 2) (.v 3) (.c 0) (.c 0)) (.c 0)),(.ei (.ap 71 (.v 0) (.v 1) (.v 2) (.v 3) (.c 0) (.c 0)) (.c 0)),(.ei (.ap 72 (.v 0) (.v 1) (.v 2) (.v 3) (.c 0) (.c 0)) (.c 0)),(.ei (.ap 73 (.v 0) (.v 1) (.v 2) (.v 3) (.c 0) (.c 0)) (.c 142))] []),
  (.fin (((.le (.c 4611686018427387904) (.v 2)),.false)::f2_) 0 ⟨⟨[],[]⟩,[],[],[]⟩ [(.ei (.ap 70 (.v 0) (.v 1) (.v 2) (.v 3) (.c 0) (.c 0)) (.wk .i64 (.wk .u64 (.op .add (.wk .u64 (.v 0)) (.v 3))))),(.ei (.ap 71 (.v 0) (.v 1) (.v 2) (.v 3) (.c 0) (.c 0)) (.v 1)),(.ei (.ap 72 (.v 0) (.v 1) (.v 2) (.v 3) (.c 0) (.c 0)) (.op .add (.v 2) (.c 1))),(.ei (.ap 73 (.v 0) (.v 1) (.v 2) (.v 3) (.c 0) (.c 0)) (.c 0))] []),
  (.fin (((.lt (.c 0) (.v 3)),.false)::f0_) 0 ⟨⟨[],[]⟩,[],[],[]⟩ [(.ei (.ap 70 (.v 0) (.v 1) (.v 2) (.v 3) (.c 0) (.c 0)) (.c 0)),(.ei (.ap 71 (.v 0) (.v 1) (.v 2) (.v 3) (.c 0) (.c 0)) (.c 0)),(.ei (.ap 72 (.v 0) (.v 1) (.v 2) (.v 3) (.c 0) (.c 0)) (.c 0)),(.ei (.ap 73 (.v 0) (.v 1) (.v 2) (.v 3) (.c 0) (.c 0)) (.c 2))] []),
  (.fin ([((.le (.v 2) (.c 4611686018427387904)),.false),((.le (.v 1) (.v 0)),.true)]) 0 ⟨⟨[],[]⟩,[],[],[]⟩ [(.ei (.ap 70 (.v 0) (.v 1) (.v 2) (.v 3) (.c 0) (.c 0)) (.c 0)),(.ei (.ap 71 (.v 0) (.v 1) (.v 2) (.v 3) (.c 0) (.c 0)) (.c 0)),(.ei (.ap 72 (.v 0) (.v 1) (.v 2) (.v 3) (.c 0) (.c 0)) (.c 0)),(.ei (.ap 73 (.v 0) (.v 1) (.v 2) (.v 3) (.c 0) (.c 0)) (.c 2))] []),
  (.fin ([((.le (.v 1) (.v 0)),.false)]) 0 ⟨⟨[],[]⟩,[],[],[]⟩ [(.ei (.ap 70 (.v 0) (.v 1) (.v 2) (.v 3) (.c 0) (.c 0)) (.c 0)),(.ei (.ap 71 (.v 0) (.v 1) (.v 2) (.v 3) (.c 0) (.c 0)) (.c 0)),(.ei (.ap 72 (.v 0) (.v 1) (.v 2) (.v 3) (.c 0) (.c 0)) (.c 0)),(.ei (.ap 73 (.v 0) (.v 1) (.v 2) (.v 3) (.c 0) (.c 0)) (.c 2))] [])]
def eC_run (T:Tm):=(ex (ccOf Tryz.prog BF [29,73,75,100] eC) ((fun _=>[]) (ccOf Tryz.prog BF [29,73,75,100] eC)) (dw (ccOf Tryz.prog BF [29,73,75,100] eC) ((fun _=>[]) (ccOf Tryz.prog BF [29,73,75,100] eC)) 1000 4) (stopX [0,1,2,3,4,5,6,7,8,9,10,11,12,13,14,15,16,17,18,19,20,21,22,23,24,25,26,27,28,29,30,31,32,33,34,35,36,37,38,39,40,41,42,43,44,45,46,47,48,49,50,51,52,53,54,55,56,57,58,59,60,61,62,63,64,65,66,67,68,69,70,71,72,73,74,75,76,77,78,79,80,81,82,83,84,85,86,87,88,89,90,91,92,93,94,95,96,97,98,99,100,101,102,103,104,105,106,107,108,109,110,111,112,113,114,115,116,117,118,119,120,121,122,123,124,125,126,127,128,129,130,131,132,133,134,135,136,137,138,139,140,141,142,143,144,145,146,147,148,149,150,151,152,153,154,155,156,157,158,159,160,161,162,163,164,165,166,167,168,169,170,171,172,173,174,175,176,177,178,179,180,181,182,183,184,185,186,187,188,189,190,191,192,193,194,195,196,197,198,199,200,201,202,203,204,205,206,207,208,209,210,211,212,213,214,215,216,217,218,219,220,221,222,223,224,225,226,227,228,229,230,231,232,233,234,235,236,237,238,239,240,241,242,243,244,245,246,247,248,249,250,251,252,253,254,255,256,257,258,259,260,261,262,263,264,265,266,267,268,269,270,271,272,273,274,275,276,277,278,279,280,281,282,283,284,285,286,287,288,289,290,291,292,293,294,295,296,297,298,299,300,301,302,303,304,305,306,307,308,309,310,311,312,313,314,315,316,317,318,319,320,321,322,323,324,325,326,327,328,329,330,331,332,333,334,335,336,337,338,339,340,341,342,343,344,345,346,347,348,349,350,351,352,353,354,355,356,357,358,359,360,361,362,363,364,365,366,367,368,369,370,371,372,373,374,375,376,377,378,379,380,381,382,383,384,385,386,387,388,389,390,391,392,393,394,395,396,397,398,399]) 4000 T.f T.fs T.H).lfs (ccOf Tryz.prog BF [29,73,75,100] eC) ((tm0 eC Tryz.f124 (Tryz.f124.body.getD .skip))::[]) eC.os
theorem eC_h0:eC_run (tm0 eC Tryz.f124 (Tryz.f124.body.getD .skip))=some eC_L0:=by kernel_rfl
def eC_inv:(Nat→Int)→(Nat→Bool)→Nat→(Nat→Int)→(Nat→Bool)→Prop:=fun _ _ _ _ _=>True
def eC_mu:(Nat→Int)→(Nat→Bool)→Nat→(Nat→Int)→(Nat→Bool)→Nat:=fun _ _ _ _ _=>0
theorem eC_b {iv0:Nat→Int} (hin:InB eC.B iv0):((-9223372036854775808)≤iv0 0∧iv0 0≤9223372036854775807)∧((-9223372036854775808)≤iv0 1∧iv0 1≤9223372036854775807)∧(0≤iv0 2∧iv0 2≤18446744073709551615)∧((-9223372036854775808)≤iv0 3∧iv0 3≤9223372036854775807):=by
 have b0:=hin 0 (-9223372036854775808) 9223372036854775807 (by simp [eC,o1,flF,SI.fl,flay,flayL,i64b,u64b,ap4,cR])
 simp only [Int.reduceLE,reduceIte,Int.reduceNeg] at b0
 have b1:=hin 1 (-9223372036854775808) 9223372036854775807 (by simp [eC,o1,flF,SI.fl,flay,flayL,i64b,u64b,ap4,cR])
 simp only [Int.reduceLE,reduceIte,Int.reduceNeg] at b1
 have b2:=hin 2 0 18446744073709551615 (by simp [eC,o1,flF,SI.fl,flay,flayL,i64b,u64b,ap4,cR])
 simp only [Int.reduceLE,reduceIte,Int.reduceNeg] at b2
 have b3:=hin 3 (-9223372036854775808) 9223372036854775807 (by simp [eC,o1,flF,SI.fl,flay,flayL,i64b,u64b,ap4,cR])
 simp only [Int.reduceLE,reduceIte,Int.reduceNeg] at b3
 exact ⟨b0,b1,b2,b3⟩
def eC_ob (k:Nat) (l:List Lf):Prop:=∀ (kv:Kv) (iv0:Nat→Int) (bv0:Nat→Bool),InB eC.B iv0→FT (sta FI FB kv iv0 bv0) (dlt dyn0) eC.F→∀ (iv:Nat→Int) (bv:Nat→Bool),Agr 4 iv0 bv0 iv bv→eC_inv iv0 bv0 k iv bv→∀ lf∈l,LfT (sta FI FB kv) eC.os (eC_inv iv0 bv0) (eC_mu iv0 bv0) k iv bv lf
theorem eC_o0:eC_ob 0 eC_L0:=by
 intro kv iv0 bv0 hin hF iv bv ha hi
 unfold eC_L0
 refine List.forall_mem_cons.2 ⟨?_,List.forall_mem_cons.2 ⟨?_,List.forall_mem_cons.2 ⟨?_,List.forall_mem_cons.2 ⟨?_,List.forall_mem_cons.2 ⟨?_,List.forall_mem_cons.2 ⟨?_,List.forall_mem_nil _⟩⟩⟩⟩⟩⟩
 all_goals
  intro δ hf
 all_goals
  obtain ⟨b0,b1,b2,b3⟩:=eC_b hin
 all_goals
  have a0:=ha.1 0 (by omega)
  have a1:=ha.1 1 (by omega)
  have a2:=ha.1 2 (by omega)
  have a3:=ha.1 3 (by omega)
 all_goals
  simp only [FT,TP,SB.tp,SI.tv,sta,IB.eval,and_true,true_and,ObsT,Ob.Tv,rowT,kix,In.tiv,↓tbvT,In.tbv,get_cons,get_nil,reduceIte,Nat.reduceEqDiff,Int.reduceToNat,Int.reduceAdd,Int.reduceSub,Int.reduceLE,Int.reduceLT,Int.reduceEq,ne_eq,Bool.false_eq_true,not_true_eq_false,not_false_eq_true,true_iff,false_iff,iff_true,iff_false,false_implies,implies_true,decT,decide_true,decide_false,Bool.decide_eq_true,ap2,pb2,FI_3,FI_3g,FI_4,FI_8,FI_8m,FI_9,FI_8c,FI_8z,FB_0,FB_2,Int.toNat_natCast,Int.toNat_zero,FI_70,FI_71,FI_72,FI_73,eC_inv,eC_mu,eC,o1,othT,o1,flF,SI.fl,flay,flayL,i64b,u64b,ap4,cR,a0,a1,a2,a3] at hf hi ⊢
 all_goals
  try simp only [wrap_i64,wrap_u64,onOk,dE,cE,xE] at hf
 all_goals
  try simp only [wrap_i64,wrap_u64,onOk,dE,cE,xE]
 all_goals
  first | omega | ((repeat' apply And.intro)<;>first | omega | trivial | ((repeat' split)<;>omega))
theorem eC_c:LsC ((tm0 eC Tryz.f124 (Tryz.f124.body.getD .skip))::[]) eC.os [eC_L0]:=by
 unfold eC_L0
 exact ⟨List.forall_mem_cons.2 ⟨⟨⟨_,rfl,rfl⟩,by kernel_rfl⟩,List.forall_mem_cons.2 ⟨⟨⟨_,rfl,rfl⟩,by kernel_rfl⟩,List.forall_mem_cons.2 ⟨⟨⟨_,rfl,rfl⟩,by kernel_rfl⟩,List.forall_mem_cons.2 ⟨⟨⟨_,rfl,rfl⟩,by kernel_rfl⟩,List.forall_mem_cons.2 ⟨⟨⟨_,rfl,rfl⟩,by kernel_rfl⟩,List.forall_mem_cons.2 ⟨⟨⟨_,rfl,rfl⟩,by kernel_rfl⟩,List.forall_mem_nil _⟩⟩⟩⟩⟩⟩,trivial⟩
theorem eC_ok:eC.Ok Tryz.prog FI FB:=
 Con.of_plain (body:=Tryz.f124.body.getD .skip) pok fiok EntsFor.nil eC Tryz.func124 (by kernel_rfl) 4 [] (by kernel_rfl) [eC_L0] ⟨eC_h0,trivial⟩ eC_c
  eC_inv eC_mu (fun _ _ _=>trivial) fun kv iv0 bv0 hin hF k l iv bv hk ha hi=>match k,hk,hi with
  | 0,hk,hi=>by
    cases hk
    exact eC_o0 kv iv0 bv0 hin hF iv bv ha hi
  | k+1,hk,_=>by simp at hk
def rC_L0:List Lf:=
 let f0_:List (SB×Bool):=[((.le (.v 2) (.c 4611686018427387904)),.true),((.le (.v 1) (.v 0)),.true)]
 let f1_:List (SB×Bool):=((.lt (.v 3) (.c 1)),.false)::f0_
 let f2_:List (SB×Bool):=((.lt (.op .sub (.c 9223372036854775807) (.v 3)) (.v 0)),.false)::f1_
 [(.fin (((.lt (.v 3) (.c 1)),.true)::f0_) 0 ⟨⟨[],[]⟩,[],[],[]⟩ [(.ei (.ap 70 (.v 0) (.v 1) (.v 2) (.v 3) (.c 0) (.c 0)) (.c 0)),(.ei (.ap 71 (.v 0) (.v 1) (.v 2) (.v 3) (.c 0) (.c 0)) (.c 0)),(.ei (.ap 72 (.v 0) (.v 1) (.v 2) (.v 3) (.c 0) (.c 0)) (.c 0)),(.ei (.ap 73 (.v 0) (.v 1) (.v 2) (.v 3) (.c 0) (.c 0)) (.c 2))] []),
  (.fin (((.lt (.op .sub (.c 9223372036854775807) (.v 3)) (.v 0)),.true)::f1_) 0 ⟨⟨[],[]⟩,[],[],[]⟩ [(.ei (.ap 70 (.v 0) (.v 1) (.v 2) (.v 3) (.c 0) (.c 0)) (.c 0)),(.ei (.ap 71 (.v 0) (.v 1) (.v 2) (.v 3) (.c 0) (.c 0)) (.c 0)),(.ei (.ap 72 (.v 0) (.v 1) (.v 2) (.v 3) (.c 0) (.c 0)) (.c 0)),(.ei (.ap 73 (.v 0) (.v 1) (.v 2) (.v 3) (.c 0) (.c 0)) (.c 141))] []),
  (.fin (((.eq (.v 2) (.c 4611686018427387904)),.true)::f2_) 0 ⟨⟨[],[]⟩,[],[],[]⟩ [(.ei (.ap 70 (.v 0) (.v 1) (.v 2) (.v 3) (.c 0) (.c 0)) (.c 0)),(.ei (.ap 71 (.v 0) (.v 1) (.v 2) (.v 3) (.c 0) (.c 0)) (.c 0)),(.ei (.ap 72 (.v 0) (.v 1) (.v 2) (.v 3) (.c 0) (.c 0)) (.c 0)),(.ei (.ap 73 (.v 0) (.v 1) (.v 2) (.v 3) (.c 0) (.c 0)) (.c 142))] []),
  (.fin (((.eq (.v 2) (.c 4611686018427387904)),.false)::f2_) 0 ⟨⟨[],[]⟩,[],[],[]⟩ [(.ei (.ap 70 (.v 0) (.v 1) (.v 2) (.v 3) (.c 0) (.c 0)) (.wk .i64 (.op .add (.v 0) (.v 3)))),(.ei (.ap 71 (.v 0) (.v 1) (.v 2) (.v 3) (.c 0) (.c 0)) (.v 1)),(.ei (.ap 72 (.v 0) (.v 1) (.v 2) (.v 3) (.c 0) (.c 0)) (.op .add (.v 2) (.c 1))),(.ei (.ap 73 (.v 0) (.v 1) (.v 2) (.v 3) (.c 0) (.c 0)) (.c 0))] []),
  (.fin ([((.le (.v 2) (.c 4611686018427387904)),.false),((.le (.v 1) (.v 0)),.true)]) 0 ⟨⟨[],[]⟩,[],[],[]⟩ [(.ei (.ap 70 (.v 0) (.v 1) (.v 2) (.v 3) (.c 0) (.c 0)) (.c 0)),(.ei (.ap 71 (.v 0) (.v 1) (.v 2) (.v 3) (.c 0) (.c 0)) (.c 0)),(.ei (.ap 72 (.v 0) (.v 1) (.v 2) (.v 3) (.c 0) (.c 0)) (.c 0)),(.ei (.ap 73 (.v 0) (.v 1) (.v 2) (.v 3) (.c 0) (.c 0)) (.c 2))] []),
  (.fin ([((.le (.v 1) (.v 0)),.false)]) 0 ⟨⟨[],[]⟩,[],[],[]⟩ [(.ei (.ap 70 (.v 0) (.v 1) (.v 2) (.v 3) (.c 0) (.c 0)) (.c 0)),(.ei (.ap 71 (.v 0) (.v 1) (.v 2) (.v 3) (.c 0) (.c 0)) (.c 0)),(.ei (.ap 72 (.v 0) (.v 1) (.v 2) (.v 3) (.c 0) (.c 0)) (.c 0)),(.ei (.ap 73 (.v 0) (.v 1) (.v 2) (.v 3) (.c 0) (.c 0)) (.c 2))] [])]
def rC_run (T:Tm):=(ex (ccOf Tryz.prog BF [29,73,75,100] rC) ((fun _=>[]) (ccOf Tryz.prog BF [29,73,75,100] rC)) (dw (ccOf Tryz.prog BF [29,73,75,100] rC) ((fun _=>[]) (ccOf Tryz.prog BF [29,73,75,100] rC)) 1000 4) (stopX [0,1,2,3,4,5,6,7,8,9,10,11,12,13,14,15,16,17,18,19,20,21,22,23,24,25,26,27,28,29,30,31,32,33,34,35,36,37,38,39,40,41,42,43,44,45,46,47,48,49,50,51,52,53,54,55,56,57,58,59,60,61,62,63,64,65,66,67,68,69,70,71,72,73,74,75,76,77,78,79,80,81,82,83,84,85,86,87,88,89,90,91,92,93,94,95,96,97,98,99,100,101,102,103,104,105,106,107,108,109,110,111,112,113,114,115,116,117,118,119,120,121,122,123,124,125,126,127,128,129,130,131,132,133,134,135,136,137,138,139,140,141,142,143,144,145,146,147,148,149,150,151,152,153,154,155,156,157,158,159,160,161,162,163,164,165,166,167,168,169,170,171,172,173,174,175,176,177,178,179,180,181,182,183,184,185,186,187,188,189,190,191,192,193,194,195,196,197,198,199,200,201,202,203,204,205,206,207,208,209,210,211,212,213,214,215,216,217,218,219,220,221,222,223,224,225,226,227,228,229,230,231,232,233,234,235,236,237,238,239,240,241,242,243,244,245,246,247,248,249,250,251,252,253,254,255,256,257,258,259,260,261,262,263,264,265,266,267,268,269,270,271,272,273,274,275,276,277,278,279,280,281,282,283,284,285,286,287,288,289,290,291,292,293,294,295,296,297,298,299,300,301,302,303,304,305,306,307,308,309,310,311,312,313,314,315,316,317,318,319,320,321,322,323,324,325,326,327,328,329,330,331,332,333,334,335,336,337,338,339,340,341,342,343,344,345,346,347,348,349,350,351,352,353,354,355,356,357,358,359,360,361,362,363,364,365,366,367,368,369,370,371,372,373,374,375,376,377,378,379,380,381,382,383,384,385,386,387,388,389,390,391,392,393,394,395,396,397,398,399]) 4000 T.f T.fs T.H).lfs (ccOf Tryz.prog BF [29,73,75,100] rC) ((tm0 rC Tryz.f129 (Tryz.f129.body.getD .skip))::[]) rC.os
theorem rC_h0:rC_run (tm0 rC Tryz.f129 (Tryz.f129.body.getD .skip))=some rC_L0:=by kernel_rfl
def rC_inv:(Nat→Int)→(Nat→Bool)→Nat→(Nat→Int)→(Nat→Bool)→Prop:=fun _ _ _ _ _=>True
def rC_mu:(Nat→Int)→(Nat→Bool)→Nat→(Nat→Int)→(Nat→Bool)→Nat:=fun _ _ _ _ _=>0
theorem rC_b {iv0:Nat→Int} (hin:InB rC.B iv0):((-9223372036854775808)≤iv0 0∧iv0 0≤9223372036854775807)∧((-9223372036854775808)≤iv0 1∧iv0 1≤9223372036854775807)∧(0≤iv0 2∧iv0 2≤18446744073709551615)∧((-9223372036854775808)≤iv0 3∧iv0 3≤9223372036854775807):=by
 have b0:=hin 0 (-9223372036854775808) 9223372036854775807 (by simp [rC,o1,flF,SI.fl,flay,flayL,i64b,u64b,ap4,cR])
 simp only [Int.reduceLE,reduceIte,Int.reduceNeg] at b0
 have b1:=hin 1 (-9223372036854775808) 9223372036854775807 (by simp [rC,o1,flF,SI.fl,flay,flayL,i64b,u64b,ap4,cR])
 simp only [Int.reduceLE,reduceIte,Int.reduceNeg] at b1
 have b2:=hin 2 0 18446744073709551615 (by simp [rC,o1,flF,SI.fl,flay,flayL,i64b,u64b,ap4,cR])
 simp only [Int.reduceLE,reduceIte,Int.reduceNeg] at b2
 have b3:=hin 3 (-9223372036854775808) 9223372036854775807 (by simp [rC,o1,flF,SI.fl,flay,flayL,i64b,u64b,ap4,cR])
 simp only [Int.reduceLE,reduceIte,Int.reduceNeg] at b3
 exact ⟨b0,b1,b2,b3⟩
def rC_ob (k:Nat) (l:List Lf):Prop:=∀ (kv:Kv) (iv0:Nat→Int) (bv0:Nat→Bool),InB rC.B iv0→FT (sta FI FB kv iv0 bv0) (dlt dyn0) rC.F→∀ (iv:Nat→Int) (bv:Nat→Bool),Agr 4 iv0 bv0 iv bv→rC_inv iv0 bv0 k iv bv→∀ lf∈l,LfT (sta FI FB kv) rC.os (rC_inv iv0 bv0) (rC_mu iv0 bv0) k iv bv lf
theorem rC_o0:rC_ob 0 rC_L0:=by
 intro kv iv0 bv0 hin hF iv bv ha hi
 unfold rC_L0
 refine List.forall_mem_cons.2 ⟨?_,List.forall_mem_cons.2 ⟨?_,List.forall_mem_cons.2 ⟨?_,List.forall_mem_cons.2 ⟨?_,List.forall_mem_cons.2 ⟨?_,List.forall_mem_cons.2 ⟨?_,List.forall_mem_nil _⟩⟩⟩⟩⟩⟩
 all_goals
  intro δ hf
 all_goals
  obtain ⟨b0,b1,b2,b3⟩:=rC_b hin
 all_goals
  have a0:=ha.1 0 (by omega)
  have a1:=ha.1 1 (by omega)
  have a2:=ha.1 2 (by omega)
  have a3:=ha.1 3 (by omega)
 all_goals
  simp only [FT,TP,SB.tp,SI.tv,sta,IB.eval,and_true,true_and,ObsT,Ob.Tv,rowT,kix,In.tiv,↓tbvT,In.tbv,get_cons,get_nil,reduceIte,Nat.reduceEqDiff,Int.reduceToNat,Int.reduceAdd,Int.reduceSub,Int.reduceLE,Int.reduceLT,Int.reduceEq,ne_eq,Bool.false_eq_true,not_true_eq_false,not_false_eq_true,true_iff,false_iff,iff_true,iff_false,false_implies,implies_true,decT,decide_true,decide_false,Bool.decide_eq_true,ap2,pb2,FI_3,FI_3g,FI_4,FI_8,FI_8m,FI_9,FI_8c,FI_8z,FB_0,FB_2,Int.toNat_natCast,Int.toNat_zero,FI_70,FI_71,FI_72,FI_73,rC_inv,rC_mu,rC,o1,othT,o1,flF,SI.fl,flay,flayL,i64b,u64b,ap4,cR,a0,a1,a2,a3] at hf hi ⊢
 all_goals
  try simp only [wrap_i64,wrap_u64,onOk,dE,cE,xE] at hf
 all_goals
  try simp only [wrap_i64,wrap_u64,onOk,dE,cE,xE]
 all_goals
  first | omega | ((repeat' apply And.intro)<;>first | omega | trivial | ((repeat' split)<;>omega))
theorem rC_c:LsC ((tm0 rC Tryz.f129 (Tryz.f129.body.getD .skip))::[]) rC.os [rC_L0]:=by
 unfold rC_L0
 exact ⟨List.forall_mem_cons.2 ⟨⟨⟨_,rfl,rfl⟩,by kernel_rfl⟩,List.forall_mem_cons.2 ⟨⟨⟨_,rfl,rfl⟩,by kernel_rfl⟩,List.forall_mem_cons.2 ⟨⟨⟨_,rfl,rfl⟩,by kernel_rfl⟩,List.forall_mem_cons.2 ⟨⟨⟨_,rfl,rfl⟩,by kernel_rfl⟩,List.forall_mem_cons.2 ⟨⟨⟨_,rfl,rfl⟩,by kernel_rfl⟩,List.forall_mem_cons.2 ⟨⟨⟨_,rfl,rfl⟩,by kernel_rfl⟩,List.forall_mem_nil _⟩⟩⟩⟩⟩⟩,trivial⟩
theorem rC_ok:rC.Ok Tryz.prog FI FB:=
 Con.of_plain (body:=Tryz.f129.body.getD .skip) pok fiok EntsFor.nil rC Tryz.func129 (by kernel_rfl) 4 [] (by kernel_rfl) [rC_L0] ⟨rC_h0,trivial⟩ rC_c
  rC_inv rC_mu (fun _ _ _=>trivial) fun kv iv0 bv0 hin hF k l iv bv hk ha hi=>match k,hk,hi with
  | 0,hk,hi=>by
    cases hk
    exact rC_o0 kv iv0 bv0 hin hF iv bv ha hi
  | k+1,hk,_=>by simp at hk
def eX_L0:List Lf:=
 let x0_:SI:=(.wk .u64 (.op .sub (.c 0) (.wk .u64 (.v 3))))
 let x1_:SI:=(.wk .u64 (.op .sub (.wk .u64 (.v 0)) (.wk .u64 (.v 1))))
 let f0_:List (SB×Bool):=[((.le (.v 1) (.v 0)),.true),((.lt (.c 0) (.v 3)),.false)]
 let f1_:List (SB×Bool):=((.le (.v 2) (.c 4611686018427387904)),.true)::f0_
 let f2_:List (SB×Bool):=((.lt (.v 3) (.c 0)),.true)::f1_
 let f3_:List (SB×Bool):=((.lt x1_ x0_),.false)::f2_
 [(.fin ([((.lt (.c 0) (.v 3)),.true)]) 0 ⟨⟨[],[]⟩,[],[],[]⟩ [(.ei (.ap 74 (.v 0) (.v 1) (.v 2) (.v 3) (.c 0) (.c 0)) (.ap 70 (.v 0) (.v 1) (.v 2) (.v 3) (.c 0) (.c 0))),(.ei (.ap 75 (.v 0) (.v 1) (.v 2) (.v 3) (.c 0) (.c 0)) (.ap 71 (.v 0) (.v 1) (.v 2) (.v 3) (.c 0) (.c 0))),(.ei (.ap 76 (.v 0) (.v 1) (.v 2) (.v 3) (.c 0) (.c 0)) (.ap 72 (.v 0) (.v 1) (.v 2) (.v 3) (.c 0) (.c 0))),(.ei (.ap 77 (.v 0) (.v 1) (.v 2) (.v 3) (.c 0) (.c 0)) (.ap 73 (.v 0) (.v 1) (.v 2) (.v 3) (.c 0) (.c 0)))] []),
  (.fin (((.lt x1_ x0_),.true)::f2_) 0 ⟨⟨[],[]⟩,[],[],[]⟩ [(.ei (.ap 74 (.v 0) (.v 1) (.v 2) (.v 3) (.c 0) (.c 0)) (.c 0)),(.ei (.ap 75 (.v 0) (.v 1) (.v 2) (.v 3) (.c 0) (.c 0)) (.c 0)),(.ei (.ap 76 (.v 0) (.v 1) (.v 2) (.v 3) (.c 0) (.c 0)) (.c 0)),(.ei (.ap 77 (.v 0) (.v 1) (.v 2) (.v 3) (.c 0) (.c 0)) (.c 140))] []),
  (.fin (((.le (.c 4611686018427387904) (.v 2)),.true)::f3_) 0 ⟨⟨[],[]⟩,[],[],[]⟩ [(.ei (.ap 74 (.v 0) (.v 1) (.v 2) (.v 3) (.c 0) (.c 0)) (.c 0)),(.ei (.ap 75 (.v 0) (.v 1) (.v 2) (.v 3) (.c 0) (.c 0)) (.c 0)),(.ei (.ap 76 (.v 0) (.v 1) (.v 2) (.v 3) (.c 0) (.c 0)) (.c 0)),(.ei (.ap 77 (.v 0) (.v 1) (.v 2) (.v 3) (.c 0) (.c 0)) (.c 142))] []),
  (.fin (((.le (.c 4611686018427387904) (.v 2)),.false)::f3_) 0 ⟨⟨[],[]⟩,[],[],[]⟩ [(.ei (.ap 74 (.v 0) (.v 1) (.v 2) (.v 3) (.c 0) (.c 0)) (.wk .i64 (.wk .u64 (.op .sub (.wk .u64 (.v 0)) x0_)))),(.ei (.ap 75 (.v 0) (.v 1) (.v 2) (.v 3) (.c 0) (.c 0)) (.v 1)),(.ei (.ap 76 (.v 0) (.v 1) (.v 2) (.v 3) (.c 0) (.c 0)) (.op .add (.v 2) (.c 1))),(.ei (.ap 77 (.v 0) (.v 1) (.v 2) (.v 3) (.c 0) (.c 0)) (.c 0))] []),
  (.fin (((.lt (.v 3) (.c 0)),.false)::f1_) 0 ⟨⟨[],[]⟩,[],[],[]⟩ [(.ei (.ap 74 (.v 0) (.v 1) (.v 2) (.v 3) (.c 0) (.c 0)) (.c 0)),(.ei (.ap 75 (.v 0) (.v 1) (.v 2) (.v 3) (.c 0) (.c 0)) (.c 0)),(.ei (.ap 76 (.v 0) (.v 1) (.v 2) (.v 3) (.c 0) (.c 0)) (.c 0)),(.ei (.ap 77 (.v 0) (.v 1) (.v 2) (.v 3) (.c 0) (.c 0)) (.c 2))] []),
  (.fin (((.le (.v 2) (.c 4611686018427387904)),.false)::f0_) 0 ⟨⟨[],[]⟩,[],[],[]⟩ [(.ei (.ap 74 (.v 0) (.v 1) (.v 2) (.v 3) (.c 0) (.c 0)) (.c 0)),(.ei (.ap 75 (.v 0) (.v 1) (.v 2) (.v 3) (.c 0) (.c 0)) (.c 0)),(.ei (.ap 76 (.v 0) (.v 1) (.v 2) (.v 3) (.c 0) (.c 0)) (.c 0)),(.ei (.ap 77 (.v 0) (.v 1) (.v 2) (.v 3) (.c 0) (.c 0)) (.c 2))] []),
  (.fin ([((.le (.v 1) (.v 0)),.false),((.lt (.c 0) (.v 3)),.false)]) 0 ⟨⟨[],[]⟩,[],[],[]⟩ [(.ei (.ap 74 (.v 0) (.v 1) (.v 2) (.v 3) (.c 0) (.c 0)) (.c 0)),(.ei (.ap 75 (.v 0) (.v 1) (.v 2) (.v 3) (.c 0) (.c 0)) (.c 0)),(.ei (.ap 76 (.v 0) (.v 1) (.v 2) (.v 3) (.c 0) (.c 0)) (.c 0)),(.ei (.ap 77 (.v 0) (.v 1) (.v 2) (.v 3) (.c 0) (.c 0)) (.c 2))] [])]
def eX_run (T:Tm):=(ex (ccOf Tryz.prog BF [29,73,75,100] eX) ((fun cc=>[eC.ent cc]) (ccOf Tryz.prog BF [29,73,75,100] eX)) (dw (ccOf Tryz.prog BF [29,73,75,100] eX) ((fun cc=>[eC.ent cc]) (ccOf Tryz.prog BF [29,73,75,100] eX)) 1000 4) (stopX [0,1,2,3,4,5,6,7,8,9,10,11,12,13,14,15,16,17,18,19,20,21,22,23,24,25,26,27,28,29,30,31,32,33,34,35,36,37,38,39,40,41,42,43,44,45,46,47,48,49,50,51,52,53,54,55,56,57,58,59,60,61,62,63,64,65,66,67,68,69,70,71,72,73,74,75,76,77,78,79,80,81,82,83,84,85,86,87,88,89,90,91,92,93,94,95,96,97,98,99,100,101,102,103,104,105,106,107,108,109,110,111,112,113,114,115,116,117,118,119,120,121,122,123,124,125,126,127,128,129,130,131,132,133,134,135,136,137,138,139,140,141,142,143,144,145,146,147,148,149,150,151,152,153,154,155,156,157,158,159,160,161,162,163,164,165,166,167,168,169,170,171,172,173,174,175,176,177,178,179,180,181,182,183,184,185,186,187,188,189,190,191,192,193,194,195,196,197,198,199,200,201,202,203,204,205,206,207,208,209,210,211,212,213,214,215,216,217,218,219,220,221,222,223,224,225,226,227,228,229,230,231,232,233,234,235,236,237,238,239,240,241,242,243,244,245,246,247,248,249,250,251,252,253,254,255,256,257,258,259,260,261,262,263,264,265,266,267,268,269,270,271,272,273,274,275,276,277,278,279,280,281,282,283,284,285,286,287,288,289,290,291,292,293,294,295,296,297,298,299,300,301,302,303,304,305,306,307,308,309,310,311,312,313,314,315,316,317,318,319,320,321,322,323,324,325,326,327,328,329,330,331,332,333,334,335,336,337,338,339,340,341,342,343,344,345,346,347,348,349,350,351,352,353,354,355,356,357,358,359,360,361,362,363,364,365,366,367,368,369,370,371,372,373,374,375,376,377,378,379,380,381,382,383,384,385,386,387,388,389,390,391,392,393,394,395,396,397,398,399]) 4000 T.f T.fs T.H).lfs (ccOf Tryz.prog BF [29,73,75,100] eX) ((tm0 eX Tryz.f52 (Tryz.f52.body.getD .skip))::[]) eX.os
theorem eX_h0:eX_run (tm0 eX Tryz.f52 (Tryz.f52.body.getD .skip))=some eX_L0:=by kernel_rfl
def eX_inv:(Nat→Int)→(Nat→Bool)→Nat→(Nat→Int)→(Nat→Bool)→Prop:=fun _ _ _ _ _=>True
def eX_mu:(Nat→Int)→(Nat→Bool)→Nat→(Nat→Int)→(Nat→Bool)→Nat:=fun _ _ _ _ _=>0
theorem eX_b {iv0:Nat→Int} (hin:InB eX.B iv0):((-9223372036854775808)≤iv0 0∧iv0 0≤9223372036854775807)∧((-9223372036854775808)≤iv0 1∧iv0 1≤9223372036854775807)∧(0≤iv0 2∧iv0 2≤18446744073709551615)∧((-9223372036854775808)≤iv0 3∧iv0 3≤9223372036854775807):=by
 have b0:=hin 0 (-9223372036854775808) 9223372036854775807 (by simp [eX,o1,flF,SI.fl,flay,flayL,i64b,u64b,ap4,cR])
 simp only [Int.reduceLE,reduceIte,Int.reduceNeg] at b0
 have b1:=hin 1 (-9223372036854775808) 9223372036854775807 (by simp [eX,o1,flF,SI.fl,flay,flayL,i64b,u64b,ap4,cR])
 simp only [Int.reduceLE,reduceIte,Int.reduceNeg] at b1
 have b2:=hin 2 0 18446744073709551615 (by simp [eX,o1,flF,SI.fl,flay,flayL,i64b,u64b,ap4,cR])
 simp only [Int.reduceLE,reduceIte,Int.reduceNeg] at b2
 have b3:=hin 3 (-9223372036854775808) 9223372036854775807 (by simp [eX,o1,flF,SI.fl,flay,flayL,i64b,u64b,ap4,cR])
 simp only [Int.reduceLE,reduceIte,Int.reduceNeg] at b3
 exact ⟨b0,b1,b2,b3⟩
def eX_ob (k:Nat) (l:List Lf):Prop:=∀ (kv:Kv) (iv0:Nat→Int) (bv0:Nat→Bool),InB eX.B iv0→FT (sta FI FB kv iv0 bv0) (dlt dyn0) eX.F→∀ (iv:Nat→Int) (bv:Nat→Bool),Agr 4 iv0 bv0 iv bv→eX_inv iv0 bv0 k iv bv→∀ lf∈l,LfT (sta FI FB kv) eX.os (eX_inv iv0 bv0) (eX_mu iv0 bv0) k iv bv lf
theorem eX_o0:eX_ob 0 eX_L0:=by
 intro kv iv0 bv0 hin hF iv bv ha hi
 unfold eX_L0
 refine List.forall_mem_cons.2 ⟨?_,List.forall_mem_cons.2 ⟨?_,List.forall_mem_cons.2 ⟨?_,List.forall_mem_cons.2 ⟨?_,List.forall_mem_cons.2 ⟨?_,List.forall_mem_cons.2 ⟨?_,List.forall_mem_cons.2 ⟨?_,List.forall_mem_nil _⟩⟩⟩⟩⟩⟩⟩
 all_goals
  intro δ hf
 all_goals
  obtain ⟨b0,b1,b2,b3⟩:=eX_b hin
 all_goals
  have a0:=ha.1 0 (by omega)
  have a1:=ha.1 1 (by omega)
  have a2:=ha.1 2 (by omega)
  have a3:=ha.1 3 (by omega)
 all_goals
  simp only [FT,TP,SB.tp,SI.tv,sta,IB.eval,and_true,true_and,ObsT,Ob.Tv,rowT,kix,In.tiv,↓tbvT,In.tbv,get_cons,get_nil,reduceIte,Nat.reduceEqDiff,Int.reduceToNat,Int.reduceAdd,Int.reduceSub,Int.reduceLE,Int.reduceLT,Int.reduceEq,ne_eq,Bool.false_eq_true,not_true_eq_false,not_false_eq_true,true_iff,false_iff,iff_true,iff_false,false_implies,implies_true,decT,decide_true,decide_false,Bool.decide_eq_true,ap2,pb2,FI_3,FI_3g,FI_4,FI_8,FI_8m,FI_9,FI_8c,FI_8z,FB_0,FB_2,Int.toNat_natCast,Int.toNat_zero,FI_70,FI_71,FI_72,FI_73,FI_74,FI_75,FI_76,FI_77,eX_inv,eX_mu,eX,o1,othT,o1,flF,SI.fl,flay,flayL,i64b,u64b,ap4,cR,a0,a1,a2,a3] at hf hi ⊢
 all_goals
  try simp only [wrap_i64,wrap_u64,onOk,dE,cE,xE] at hf
 all_goals
  try simp only [wrap_i64,wrap_u64,onOk,dE,cE,xE]
 all_goals
  first | omega | ((repeat' apply And.intro)<;>first | omega | trivial | ((repeat' split)<;>omega))
theorem eX_c:LsC ((tm0 eX Tryz.f52 (Tryz.f52.body.getD .skip))::[]) eX.os [eX_L0]:=by
 unfold eX_L0
 exact ⟨List.forall_mem_cons.2 ⟨⟨⟨_,rfl,rfl⟩,by kernel_rfl⟩,List.forall_mem_cons.2 ⟨⟨⟨_,rfl,rfl⟩,by kernel_rfl⟩,List.forall_mem_cons.2 ⟨⟨⟨_,rfl,rfl⟩,by kernel_rfl⟩,List.forall_mem_cons.2 ⟨⟨⟨_,rfl,rfl⟩,by kernel_rfl⟩,List.forall_mem_cons.2 ⟨⟨⟨_,rfl,rfl⟩,by kernel_rfl⟩,List.forall_mem_cons.2 ⟨⟨⟨_,rfl,rfl⟩,by kernel_rfl⟩,List.forall_mem_cons.2 ⟨⟨⟨_,rfl,rfl⟩,by kernel_rfl⟩,List.forall_mem_nil _⟩⟩⟩⟩⟩⟩⟩,trivial⟩
theorem eX_ok:eX.Ok Tryz.prog FI FB:=
 Con.of_plain (body:=Tryz.f52.body.getD .skip) pok fiok (EntsFor.cons eC_ok EntsFor.nil) eX Tryz.func52 (by kernel_rfl) 4 [] (by kernel_rfl) [eX_L0] ⟨eX_h0,trivial⟩ eX_c
  eX_inv eX_mu (fun _ _ _=>trivial) fun kv iv0 bv0 hin hF k l iv bv hk ha hi=>match k,hk,hi with
  | 0,hk,hi=>by
    cases hk
    exact eX_o0 kv iv0 bv0 hin hF iv bv ha hi
  | k+1,hk,_=>by simp at hk
def rX_L0:List Lf:=
 let x0_:SI:=(.op .add (.op .sub (.c (-1)) (.v 3)) (.c 1))
 let p1_:SB×Bool:=((.eq (.v 2) (.c 4611686018427387904)),.true)
 let p2_:SB×Bool:=((.eq (.v 2) (.c 4611686018427387904)),.false)
 let x3_:SI:=(.op .add (.op .add (.v 0) (.op .sub (.c (-1)) (.v 1))) (.c 1))
 let x4_:SI:=(.op .add (.op .sub (.c (-1)) (.v 3)) (.c (-9223372036854775806)))
 let p5_:SB×Bool:=((.lt (.c 9223372036854775807) x0_),.true)
 let p6_:SB×Bool:=((.lt (.c 9223372036854775807) x0_),.false)
 let x7_:SI:=(.op .sub (.wk .i64 (.op .add (.v 0) (.c (-9223372036854775807)))) x4_)
 let f0_:List (SB×Bool):=[((.le (.v 2) (.c 4611686018427387904)),.true),((.le (.v 1) (.v 0)),.true)]
 let f1_:List (SB×Bool):=((.eq (.v 3) (.c 0)),.false)::f0_
 let f2_:List (SB×Bool):=((.lt (.v 3) (.c 0)),.true)::f1_
 let f3_:List (SB×Bool):=((.lt (.v 1) (.c 0)),.true)::f2_
 let f4_:List (SB×Bool):=((.lt (.v 1) (.c 0)),.false)::f2_
 let f5_:List (SB×Bool):=((.le (.c 0) (.v 0)),.true)::f3_
 let f6_:List (SB×Bool):=((.le (.c 0) (.v 0)),.false)::f3_
 let f7_:List (SB×Bool):=((.lt (.wk .u64 (.wk .i64 (.op .sub (.v 0) (.v 1)))) x0_),.false)::f4_
 let f8_:List (SB×Bool):=((.lt x3_ x0_),.false)::f5_
 let f9_:List (SB×Bool):=((.lt (.wk .u64 (.op .sub (.v 0) (.v 1))) x0_),.false)::f6_
 let f10_:List (SB×Bool):=p2_::f7_
 let f11_:List (SB×Bool):=p2_::f8_
 let f12_:List (SB×Bool):=p2_::f9_
 [(.fin (((.eq (.v 3) (.c 0)),.true)::f0_) 0 ⟨⟨[],[]⟩,[],[],[]⟩ [(.ei (.ap 74 (.v 0) (.v 1) (.v 2) (.v 3) (.c 0) (.c 0)) (.c 0)),(.ei (.ap 75 (.v 0) (.v 1) (.v 2) (.v 3) (.c 0) (.c 0)) (.c 0)),(.ei (.ap 76 (.v 0) (.v 1) (.v 2) (.v 3) (.c 0) (.c 0)) (.c 0)),(.ei (.ap 77 (.v 0) (.v 1) (.v 2) (.v 3) (.c 0) (.c 0)) (.c 2))] []),
  (.fin (((.lt x3_ x0_),.true)::f5_) 0 ⟨⟨[],[]⟩,[],[],[]⟩ [(.ei (.ap 74 (.v 0) (.v 1) (.v 2) (.v 3) (.c 0) (.c 0)) (.c 0)),(.ei (.ap 75 (.v 0) (.v 1) (.v 2) (.v 3) (.c 0) (.c 0)) (.c 0)),(.ei (.ap 76 (.v 0) (.v 1) (.v 2) (.v 3) (.c 0) (.c 0)) (.c 0)),(.ei (.ap 77 (.v 0) (.v 1) (.v 2) (.v 3) (.c 0) (.c 0)) (.c 140))] []),
  (.fin (p1_::f8_) 0 ⟨⟨[],[]⟩,[],[],[]⟩ [(.ei (.ap 74 (.v 0) (.v 1) (.v 2) (.v 3) (.c 0) (.c 0)) (.c 0)),(.ei (.ap 75 (.v 0) (.v 1) (.v 2) (.v 3) (.c 0) (.c 0)) (.c 0)),(.ei (.ap 76 (.v 0) (.v 1) (.v 2) (.v 3) (.c 0) (.c 0)) (.c 0)),(.ei (.ap 77 (.v 0) (.v 1) (.v 2) (.v 3) (.c 0) (.c 0)) (.c 142))] []),
  (.fin (p5_::f11_) 0 ⟨⟨[],[]⟩,[],[],[]⟩ [(.ei (.ap 74 (.v 0) (.v 1) (.v 2) (.v 3) (.c 0) (.c 0)) (.op .sub (.op .add (.v 0) (.c (-9223372036854775807))) x4_)),(.ei (.ap 75 (.v 0) (.v 1) (.v 2) (.v 3) (.c 0) (.c 0)) (.v 1)),(.ei (.ap 76 (.v 0) (.v 1) (.v 2) (.v 3) (.c 0) (.c 0)) (.op .add (.v 2) (.c 1))),(.ei (.ap 77 (.v 0) (.v 1) (.v 2) (.v 3) (.c 0) (.c 0)) (.c 0))] []),
  (.fin (p6_::f11_) 0 ⟨⟨[],[]⟩,[],[],[]⟩ [(.ei (.ap 74 (.v 0) (.v 1) (.v 2) (.v 3) (.c 0) (.c 0)) (.op .sub (.v 0) x0_)),(.ei (.ap 75 (.v 0) (.v 1) (.v 2) (.v 3) (.c 0) (.c 0)) (.v 1)),(.ei (.ap 76 (.v 0) (.v 1) (.v 2) (.v 3) (.c 0) (.c 0)) (.op .add (.v 2) (.c 1))),(.ei (.ap 77 (.v 0) (.v 1) (.v 2) (.v 3) (.c 0) (.c 0)) (.c 0))] []),
  (.fin (((.lt (.wk .u64 (.op .sub (.v 0) (.v 1))) x0_),.true)::f6_) 0 ⟨⟨[],[]⟩,[],[],[]⟩ [(.ei (.ap 74 (.v 0) (.v 1) (.v 2) (.v 3) (.c 0) (.c 0)) (.c 0)),(.ei (.ap 75 (.v 0) (.v 1) (.v 2) (.v 3) (.c 0) (.c 0)) (.c 0)),(.ei (.ap 76 (.v 0) (.v 1) (.v 2) (.v 3) (.c 0) (.c 0)) (.c 0)),(.ei (.ap 77 (.v 0) (.v 1) (.v 2) (.v 3) (.c 0) (.c 0)) (.c 140))] []),
  (.fin (p1_::f9_) 0 ⟨⟨[],[]⟩,[],[],[]⟩ [(.ei (.ap 74 (.v 0) (.v 1) (.v 2) (.v 3) (.c 0) (.c 0)) (.c 0)),(.ei (.ap 75 (.v 0) (.v 1) (.v 2) (.v 3) (.c 0) (.c 0)) (.c 0)),(.ei (.ap 76 (.v 0) (.v 1) (.v 2) (.v 3) (.c 0) (.c 0)) (.c 0)),(.ei (.ap 77 (.v 0) (.v 1) (.v 2) (.v 3) (.c 0) (.c 0)) (.c 142))] []),
  (.fin (p5_::f12_) 0 ⟨⟨[],[]⟩,[],[],[]⟩ [(.ei (.ap 74 (.v 0) (.v 1) (.v 2) (.v 3) (.c 0) (.c 0)) (.wk .i64 x7_)),(.ei (.ap 75 (.v 0) (.v 1) (.v 2) (.v 3) (.c 0) (.c 0)) (.v 1)),(.ei (.ap 76 (.v 0) (.v 1) (.v 2) (.v 3) (.c 0) (.c 0)) (.op .add (.v 2) (.c 1))),(.ei (.ap 77 (.v 0) (.v 1) (.v 2) (.v 3) (.c 0) (.c 0)) (.c 0))] []),
  (.fin (p6_::f12_) 0 ⟨⟨[],[]⟩,[],[],[]⟩ [(.ei (.ap 74 (.v 0) (.v 1) (.v 2) (.v 3) (.c 0) (.c 0)) (.wk .i64 (.op .sub (.v 0) x0_))),(.ei (.ap 75 (.v 0) (.v 1) (.v 2) (.v 3) (.c 0) (.c 0)) (.v 1)),(.ei (.ap 76 (.v 0) (.v 1) (.v 2) (.v 3) (.c 0) (.c 0)) (.op .add (.v 2) (.c 1))),(.ei (.ap 77 (.v 0) (.v 1) (.v 2) (.v 3) (.c 0) (.c 0)) (.c 0))] []),
  (.fin (((.lt (.wk .u64 (.wk .i64 (.op .sub (.v 0) (.v 1)))) x0_),.true)::f4_) 0 ⟨⟨[],[]⟩,[],[],[]⟩ [(.ei (.ap 74 (.v 0) (.v 1) (.v 2) (.v 3) (.c 0) (.c 0)) (.c 0)),(.ei (.ap 75 (.v 0) (.v 1) (.v 2) (.v 3) (.c 0) (.c 0)) (.c 0)),(.ei (.ap 76 (.v 0) (.v 1) (.v 2) (.v 3) (.c 0) (.c 0)) (.c 0)),(.ei (.ap 77 (.v 0) (.v 1) (.v 2) (.v 3) (.c 0) (.c 0)) (.c 140))] []),
  (.fin (p1_::f7_) 0 ⟨⟨[],[]⟩,[],[],[]⟩ [(.ei (.ap 74 (.v 0) (.v 1) (.v 2) (.v 3) (.c 0) (.c 0)) (.c 0)),(.ei (.ap 75 (.v 0) (.v 1) (.v 2) (.v 3) (.c 0) (.c 0)) (.c 0)),(.ei (.ap 76 (.v 0) (.v 1) (.v 2) (.v 3) (.c 0) (.c 0)) (.c 0)),(.ei (.ap 77 (.v 0) (.v 1) (.v 2) (.v 3) (.c 0) (.c 0)) (.c 142))] []),
  (.fin (p5_::f10_) 0 ⟨⟨[],[]⟩,[],[],[]⟩ [(.ei (.ap 74 (.v 0) (.v 1) (.v 2) (.v 3) (.c 0) (.c 0)) (.wk .i64 x7_)),(.ei (.ap 75 (.v 0) (.v 1) (.v 2) (.v 3) (.c 0) (.c 0)) (.v 1)),(.ei (.ap 76 (.v 0) (.v 1) (.v 2) (.v 3) (.c 0) (.c 0)) (.op .add (.v 2) (.c 1))),(.ei (.ap 77 (.v 0) (.v 1) (.v 2) (.v 3) (.c 0) (.c 0)) (.c 0))] []),
  (.fin (p6_::f10_) 0 ⟨⟨[],[]⟩,[],[],[]⟩ [(.ei (.ap 74 (.v 0) (.v 1) (.v 2) (.v 3) (.c 0) (.c 0)) (.wk .i64 (.op .sub (.v 0) x0_))),(.ei (.ap 75 (.v 0) (.v 1) (.v 2) (.v 3) (.c 0) (.c 0)) (.v 1)),(.ei (.ap 76 (.v 0) (.v 1) (.v 2) (.v 3) (.c 0) (.c 0)) (.op .add (.v 2) (.c 1))),(.ei (.ap 77 (.v 0) (.v 1) (.v 2) (.v 3) (.c 0) (.c 0)) (.c 0))] []),
  (.fin (((.lt (.v 3) (.c 0)),.false)::f1_) 0 ⟨⟨[],[]⟩,[],[],[]⟩ [(.ei (.ap 74 (.v 0) (.v 1) (.v 2) (.v 3) (.c 0) (.c 0)) (.ap 70 (.v 0) (.v 1) (.v 2) (.v 3) (.c 0) (.c 0))),(.ei (.ap 75 (.v 0) (.v 1) (.v 2) (.v 3) (.c 0) (.c 0)) (.ap 71 (.v 0) (.v 1) (.v 2) (.v 3) (.c 0) (.c 0))),(.ei (.ap 76 (.v 0) (.v 1) (.v 2) (.v 3) (.c 0) (.c 0)) (.ap 72 (.v 0) (.v 1) (.v 2) (.v 3) (.c 0) (.c 0))),(.ei (.ap 77 (.v 0) (.v 1) (.v 2) (.v 3) (.c 0) (.c 0)) (.ap 73 (.v 0) (.v 1) (.v 2) (.v 3) (.c 0) (.c 0)))] []),
  (.fin ([((.le (.v 2) (.c 4611686018427387904)),.false),((.le (.v 1) (.v 0)),.true)]) 0 ⟨⟨[],[]⟩,[],[],[]⟩ [(.ei (.ap 74 (.v 0) (.v 1) (.v 2) (.v 3) (.c 0) (.c 0)) (.c 0)),(.ei (.ap 75 (.v 0) (.v 1) (.v 2) (.v 3) (.c 0) (.c 0)) (.c 0)),(.ei (.ap 76 (.v 0) (.v 1) (.v 2) (.v 3) (.c 0) (.c 0)) (.c 0)),(.ei (.ap 77 (.v 0) (.v 1) (.v 2) (.v 3) (.c 0) (.c 0)) (.c 2))] []),
  (.fin ([((.le (.v 1) (.v 0)),.false)]) 0 ⟨⟨[],[]⟩,[],[],[]⟩ [(.ei (.ap 74 (.v 0) (.v 1) (.v 2) (.v 3) (.c 0) (.c 0)) (.c 0)),(.ei (.ap 75 (.v 0) (.v 1) (.v 2) (.v 3) (.c 0) (.c 0)) (.c 0)),(.ei (.ap 76 (.v 0) (.v 1) (.v 2) (.v 3) (.c 0) (.c 0)) (.c 0)),(.ei (.ap 77 (.v 0) (.v 1) (.v 2) (.v 3) (.c 0) (.c 0)) (.c 2))] [])]
def rX_run (T:Tm):=(ex (ccOf Tryz.prog BF [29,73,75,100] rX) ((fun cc=>[rC.ent cc]) (ccOf Tryz.prog BF [29,73,75,100] rX)) (dw (ccOf Tryz.prog BF [29,73,75,100] rX) ((fun cc=>[rC.ent cc]) (ccOf Tryz.prog BF [29,73,75,100] rX)) 1000 4) (stopX [0,1,2,3,4,5,6,7,8,9,10,11,12,13,14,15,16,17,18,19,20,21,22,23,24,25,26,27,28,29,30,31,32,33,34,35,36,37,38,39,40,41,42,43,44,45,46,47,48,49,50,51,52,53,54,55,56,57,58,59,60,61,62,63,64,65,66,67,68,69,70,71,72,73,74,75,76,77,78,79,80,81,82,83,84,85,86,87,88,89,90,91,92,93,94,95,96,97,98,99,100,101,102,103,104,105,106,107,108,109,110,111,112,113,114,115,116,117,118,119,120,121,122,123,124,125,126,127,128,129,130,131,132,133,134,135,136,137,138,139,140,141,142,143,144,145,146,147,148,149,150,151,152,153,154,155,156,157,158,159,160,161,162,163,164,165,166,167,168,169,170,171,172,173,174,175,176,177,178,179,180,181,182,183,184,185,186,187,188,189,190,191,192,193,194,195,196,197,198,199,200,201,202,203,204,205,206,207,208,209,210,211,212,213,214,215,216,217,218,219,220,221,222,223,224,225,226,227,228,229,230,231,232,233,234,235,236,237,238,239,240,241,242,243,244,245,246,247,248,249,250,251,252,253,254,255,256,257,258,259,260,261,262,263,264,265,266,267,268,269,270,271,272,273,274,275,276,277,278,279,280,281,282,283,284,285,286,287,288,289,290,291,292,293,294,295,296,297,298,299,300,301,302,303,304,305,306,307,308,309,310,311,312,313,314,315,316,317,318,319,320,321,322,323,324,325,326,327,328,329,330,331,332,333,334,335,336,337,338,339,340,341,342,343,344,345,346,347,348,349,350,351,352,353,354,355,356,357,358,359,360,361,362,363,364,365,366,367,368,369,370,371,372,373,374,375,376,377,378,379,380,381,382,383,384,385,386,387,388,389,390,391,392,393,394,395,396,397,398,399]) 4000 T.f T.fs T.H).lfs (ccOf Tryz.prog BF [29,73,75,100] rX) ((tm0 rX Tryz.f55 (Tryz.f55.body.getD .skip))::[]) rX.os
theorem rX_h0:rX_run (tm0 rX Tryz.f55 (Tryz.f55.body.getD .skip))=some rX_L0:=by kernel_rfl
def rX_inv:(Nat→Int)→(Nat→Bool)→Nat→(Nat→Int)→(Nat→Bool)→Prop:=fun _ _ _ _ _=>True
def rX_mu:(Nat→Int)→(Nat→Bool)→Nat→(Nat→Int)→(Nat→Bool)→Nat:=fun _ _ _ _ _=>0
theorem rX_b {iv0:Nat→Int} (hin:InB rX.B iv0):((-9223372036854775808)≤iv0 0∧iv0 0≤9223372036854775807)∧((-9223372036854775808)≤iv0 1∧iv0 1≤9223372036854775807)∧(0≤iv0 2∧iv0 2≤18446744073709551615)∧((-9223372036854775808)≤iv0 3∧iv0 3≤9223372036854775807):=by
 have b0:=hin 0 (-9223372036854775808) 9223372036854775807 (by simp [rX,o1,flF,SI.fl,flay,flayL,i64b,u64b,ap4,cR])
 simp only [Int.reduceLE,reduceIte,Int.reduceNeg] at b0
 have b1:=hin 1 (-9223372036854775808) 9223372036854775807 (by simp [rX,o1,flF,SI.fl,flay,flayL,i64b,u64b,ap4,cR])
 simp only [Int.reduceLE,reduceIte,Int.reduceNeg] at b1
 have b2:=hin 2 0 18446744073709551615 (by simp [rX,o1,flF,SI.fl,flay,flayL,i64b,u64b,ap4,cR])
 simp only [Int.reduceLE,reduceIte,Int.reduceNeg] at b2
 have b3:=hin 3 (-9223372036854775808) 9223372036854775807 (by simp [rX,o1,flF,SI.fl,flay,flayL,i64b,u64b,ap4,cR])
 simp only [Int.reduceLE,reduceIte,Int.reduceNeg] at b3
 exact ⟨b0,b1,b2,b3⟩
def rX_ob (k:Nat) (l:List Lf):Prop:=∀ (kv:Kv) (iv0:Nat→Int) (bv0:Nat→Bool),InB rX.B iv0→FT (sta FI FB kv iv0 bv0) (dlt dyn0) rX.F→∀ (iv:Nat→Int) (bv:Nat→Bool),Agr 4 iv0 bv0 iv bv→rX_inv iv0 bv0 k iv bv→∀ lf∈l,LfT (sta FI FB kv) rX.os (rX_inv iv0 bv0) (rX_mu iv0 bv0) k iv bv lf
theorem rX_o0:rX_ob 0 rX_L0:=by
 intro kv iv0 bv0 hin hF iv bv ha hi
 unfold rX_L0
 refine List.forall_mem_cons.2 ⟨?_,List.forall_mem_cons.2 ⟨?_,List.forall_mem_cons.2 ⟨?_,List.forall_mem_cons.2 ⟨?_,List.forall_mem_cons.2 ⟨?_,List.forall_mem_cons.2 ⟨?_,List.forall_mem_cons.2 ⟨?_,List.forall_mem_cons.2 ⟨?_,List.forall_mem_cons.2 ⟨?_,List.forall_mem_cons.2 ⟨?_,List.forall_mem_cons.2 ⟨?_,List.forall_mem_cons.2 ⟨?_,List.forall_mem_cons.2 ⟨?_,List.forall_mem_cons.2 ⟨?_,List.forall_mem_cons.2 ⟨?_,List.forall_mem_cons.2 ⟨?_,List.forall_mem_nil _⟩⟩⟩⟩⟩⟩⟩⟩⟩⟩⟩⟩⟩⟩⟩⟩
 all_goals
  intro δ hf
 all_goals
  obtain ⟨b0,b1,b2,b3⟩:=rX_b hin
 all_goals
  have a0:=ha.1 0 (by omega)
  have a1:=ha.1 1 (by omega)
  have a2:=ha.1 2 (by omega)
  have a3:=ha.1 3 (by omega)
 all_goals
  simp only [FT,TP,SB.tp,SI.tv,sta,IB.eval,and_true,true_and,ObsT,Ob.Tv,rowT,kix,In.tiv,↓tbvT,In.tbv,get_cons,get_nil,reduceIte,Nat.reduceEqDiff,Int.reduceToNat,Int.reduceAdd,Int.reduceSub,Int.reduceLE,Int.reduceLT,Int.reduceEq,ne_eq,Bool.false_eq_true,not_true_eq_false,not_false_eq_true,true_iff,false_iff,iff_true,iff_false,false_implies,implies_true,decT,decide_true,decide_false,Bool.decide_eq_true,ap2,pb2,FI_3,FI_3g,FI_4,FI_8,FI_8m,FI_9,FI_8c,FI_8z,FB_0,FB_2,Int.toNat_natCast,Int.toNat_zero,FI_70,FI_71,FI_72,FI_73,FI_74,FI_75,FI_76,FI_77,rX_inv,rX_mu,rX,o1,othT,o1,flF,SI.fl,flay,flayL,i64b,u64b,ap4,cR,a0,a1,a2,a3] at hf hi ⊢
 all_goals
  try simp only [wrap_i64,wrap_u64,onOk,dE,cE,xE] at hf
 all_goals
  try simp only [wrap_i64,wrap_u64,onOk,dE,cE,xE]
 all_goals
  first | omega | ((repeat' apply And.intro)<;>first | omega | trivial | ((repeat' split)<;>omega))
theorem rX_c:LsC ((tm0 rX Tryz.f55 (Tryz.f55.body.getD .skip))::[]) rX.os [rX_L0]:=by
 unfold rX_L0
 exact ⟨List.forall_mem_cons.2 ⟨⟨⟨_,rfl,rfl⟩,by kernel_rfl⟩,List.forall_mem_cons.2 ⟨⟨⟨_,rfl,rfl⟩,by kernel_rfl⟩,List.forall_mem_cons.2 ⟨⟨⟨_,rfl,rfl⟩,by kernel_rfl⟩,List.forall_mem_cons.2 ⟨⟨⟨_,rfl,rfl⟩,by kernel_rfl⟩,List.forall_mem_cons.2 ⟨⟨⟨_,rfl,rfl⟩,by kernel_rfl⟩,List.forall_mem_cons.2 ⟨⟨⟨_,rfl,rfl⟩,by kernel_rfl⟩,List.forall_mem_cons.2 ⟨⟨⟨_,rfl,rfl⟩,by kernel_rfl⟩,List.forall_mem_cons.2 ⟨⟨⟨_,rfl,rfl⟩,by kernel_rfl⟩,List.forall_mem_cons.2 ⟨⟨⟨_,rfl,rfl⟩,by kernel_rfl⟩,List.forall_mem_cons.2 ⟨⟨⟨_,rfl,rfl⟩,by kernel_rfl⟩,List.forall_mem_cons.2 ⟨⟨⟨_,rfl,rfl⟩,by kernel_rfl⟩,List.forall_mem_cons.2 ⟨⟨⟨_,rfl,rfl⟩,by kernel_rfl⟩,List.forall_mem_cons.2 ⟨⟨⟨_,rfl,rfl⟩,by kernel_rfl⟩,List.forall_mem_cons.2 ⟨⟨⟨_,rfl,rfl⟩,by kernel_rfl⟩,List.forall_mem_cons.2 ⟨⟨⟨_,rfl,rfl⟩,by kernel_rfl⟩,List.forall_mem_cons.2 ⟨⟨⟨_,rfl,rfl⟩,by kernel_rfl⟩,List.forall_mem_nil _⟩⟩⟩⟩⟩⟩⟩⟩⟩⟩⟩⟩⟩⟩⟩⟩,trivial⟩
theorem rX_ok:rX.Ok Tryz.prog FI FB:=
 Con.of_plain (body:=Tryz.f55.body.getD .skip) pok fiok (EntsFor.cons rC_ok EntsFor.nil) rX Tryz.func55 (by kernel_rfl) 4 [] (by kernel_rfl) [rX_L0] ⟨rX_h0,trivial⟩ rX_c
  rX_inv rX_mu (fun _ _ _=>trivial) fun kv iv0 bv0 hin hF k l iv bv hk ha hi=>match k,hk,hi with
  | 0,hk,hi=>by
    cases hk
    exact rX_o0 kv iv0 bv0 hin hF iv bv ha hi
  | k+1,hk,_=>by simp at hk
def rCopy_L0:List Lf:=
 [(.fin ([((.le (.ap 200 (.v 1) (.c 0) (.c 0) (.c 0) (.c 0) (.c 0)) (.c 300)),.true),((.le (.ap 200 (.v 2) (.c 0) (.c 0) (.c 0) (.c 0) (.c 0)) (.c 300)),.true),((.le (.ap 200 (.v 3) (.c 0) (.c 0) (.c 0) (.c 0) (.c 0)) (.c 300)),.true)]) 0 ⟨⟨[],[]⟩,[],[],[]⟩ [] [])]
def rCopy_run (T:Tm):=(ex (ccOf Tryz.prog BF [29,73,75,100] rCopy) ((fun _=>[]) (ccOf Tryz.prog BF [29,73,75,100] rCopy)) (dw (ccOf Tryz.prog BF [29,73,75,100] rCopy) ((fun _=>[]) (ccOf Tryz.prog BF [29,73,75,100] rCopy)) 1000 4) (stopX [0,1,2,3,4,5,6,7,8,9,10,11,12,13,14,15,16,17,18,19,20,21,22,23,24,25,26,27,28,29,30,31,32,33,34,35,36,37,38,39,40,41,42,43,44,45,46,47,48,49,50,51,52,53,54,55,56,57,58,59,60,61,62,63,64,65,66,67,68,69,70,71,72,73,74,75,76,77,78,79,80,81,82,83,84,85,86,87,88,89,90,91,92,93,94,95,96,97,98,99,100,101,102,103,104,105,106,107,108,109,110,111,112,113,114,115,116,117,118,119,120,121,122,123,124,125,126,127,128,129,130,131,132,133,134,135,136,137,138,139,140,141,142,143,144,145,146,147,148,149,150,151,152,153,154,155,156,157,158,159,160,161,162,163,164,165,166,167,168,169,170,171,172,173,174,175,176,177,178,179,180,181,182,183,184,185,186,187,188,189,190,191,192,193,194,195,196,197,198,199,200,201,202,203,204,205,206,207,208,209,210,211,212,213,214,215,216,217,218,219,220,221,222,223,224,225,226,227,228,229,230,231,232,233,234,235,236,237,238,239,240,241,242,243,244,245,246,247,248,249,250,251,252,253,254,255,256,257,258,259,260,261,262,263,264,265,266,267,268,269,270,271,272,273,274,275,276,277,278,279,280,281,282,283,284,285,286,287,288,289,290,291,292,293,294,295,296,297,298,299,300,301,302,303,304,305,306,307,308,309,310,311,312,313,314,315,316,317,318,319,320,321,322,323,324,325,326,327,328,329,330,331,332,333,334,335,336,337,338,339,340,341,342,343,344,345,346,347,348,349,350,351,352,353,354,355,356,357,358,359,360,361,362,363,364,365,366,367,368,369,370,371,372,373,374,375,376,377,378,379,380,381,382,383,384,385,386,387,388,389,390,391,392,393,394,395,396,397,398,399]) 4000 T.f T.fs T.H).lfs (ccOf Tryz.prog BF [29,73,75,100] rCopy) ((tm0 rCopy Tryz.f10 (Tryz.f10.body.getD .skip))::[]) rCopy.os
theorem rCopy_h0:rCopy_run (tm0 rCopy Tryz.f10 (Tryz.f10.body.getD .skip))=some rCopy_L0:=by kernel_rfl
def rCopy_inv:(Nat→Int)→(Nat→Bool)→Nat→(Nat→Int)→(Nat→Bool)→Prop:=fun _ _ _ _ _=>True
def rCopy_mu:(Nat→Int)→(Nat→Bool)→Nat→(Nat→Int)→(Nat→Bool)→Nat:=fun _ _ _ _ _=>0
def rCopy_ob (k:Nat) (l:List Lf):Prop:=∀ (kv:Kv) (iv0:Nat→Int) (bv0:Nat→Bool),InB rCopy.B iv0→FT (sta FI FB kv iv0 bv0) (dlt dyn0) rCopy.F→∀ (iv:Nat→Int) (bv:Nat→Bool),Agr 7 iv0 bv0 iv bv→rCopy_inv iv0 bv0 k iv bv→∀ lf∈l,LfT (sta FI FB kv) rCopy.os (rCopy_inv iv0 bv0) (rCopy_mu iv0 bv0) k iv bv lf
theorem rCopy_o0:rCopy_ob 0 rCopy_L0:=by
 intro kv iv0 bv0 hin hF iv bv ha hi
 unfold rCopy_L0
 refine List.forall_mem_cons.2 ⟨?_,List.forall_mem_nil _⟩
 all_goals
  intro δ hf
 all_goals
  have a0:=ha.1 0 (by omega)
  have a1:=ha.1 1 (by omega)
  have a2:=ha.1 2 (by omega)
  have a3:=ha.1 3 (by omega)
  have a4:=ha.1 4 (by omega)
  have a5:=ha.1 5 (by omega)
  have a6:=ha.1 6 (by omega)
 all_goals
  simp only [FT,TP,SB.tp,SI.tv,sta,IB.eval,and_true,true_and,ObsT,Ob.Tv,rowT,kix,In.tiv,↓tbvT,In.tbv,get_cons,get_nil,reduceIte,Nat.reduceEqDiff,Int.reduceToNat,Int.reduceAdd,Int.reduceSub,Int.reduceLE,Int.reduceLT,Int.reduceEq,ne_eq,Bool.false_eq_true,not_true_eq_false,not_false_eq_true,true_iff,false_iff,iff_true,iff_false,false_implies,implies_true,decT,decide_true,decide_false,Bool.decide_eq_true,ap2,pb2,FI_3,FI_3g,FI_4,FI_8,FI_8m,FI_9,FI_8c,FI_8z,FI_200,FB_0,FB_2,Int.toNat_natCast,Int.toNat_zero,FI_10,FB_10,rCopy_inv,rCopy_mu,rCopy,o1,othT,o1,flF,SI.fl,flay,flayL,i64b,u64b,ap4,cR,a0,a1,a2,a3,a4,a5,a6] at hf hi ⊢
 all_goals
  have n1:=flenC_nn (iv0 1)
 all_goals
  have n2:=flenC_nn (iv0 2)
 all_goals
  have n3:=flenC_nn (iv0 3)
 all_goals
  (repeat' (with_reducible apply And.intro))<;>first
  | omega
  | assumption
  | (unfold inM;omega)
  | exact trivial
  | (clear hin hF ha;grind)
theorem rCopy_c:LsC ((tm0 rCopy Tryz.f10 (Tryz.f10.body.getD .skip))::[]) rCopy.os [rCopy_L0]:=by
 unfold rCopy_L0
 exact ⟨List.forall_mem_cons.2 ⟨⟨⟨_,rfl,rfl⟩,by kernel_rfl⟩,List.forall_mem_nil _⟩,trivial⟩
theorem rCopy_ok:rCopy.Ok Tryz.prog FI FB:=
 Con.of_plain (body:=Tryz.f10.body.getD .skip) pok fiok EntsFor.nil rCopy Tryz.func10 (by kernel_rfl) 7 [] (by kernel_rfl) [rCopy_L0] ⟨rCopy_h0,trivial⟩ rCopy_c
  rCopy_inv rCopy_mu (fun _ _ _=>trivial) fun kv iv0 bv0 hin hF k l iv bv hk ha hi=>match k,hk,hi with
  | 0,hk,hi=>by
    cases hk
    exact rCopy_o0 kv iv0 bv0 hin hF iv bv ha hi
  | k+1,hk,_=>by simp at hk
end
end Go.Sx.Tk
