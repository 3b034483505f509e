/- Tokens: TokenMakes. -/
import Derived.Test.YtfailpbjhlhhiaaGreatTkG
import Derived.Test.YtfailpbjhlhhiaaGreatTkE
import Derived.Test.YtfailpbjhlhhiaaGreatTkW
namespace Go.Sx.Tk
set_option linter.unusedVariables false
set_option linter.unusedSimpArgs false
set_option maxRecDepth 100000
open Go Go.Sx Go.Proofs
noncomputable def cMakes:Con:=⟨5,[0,1,2,3,4,5,6,7,8,9,10,11,12,13,14,15,16,17,18,19],[.ag [.it .i64 (.v 0),.it .i64 (.v 1),.it .i64 (.v 2)],.ag [.it .i64 (.v 3),.it .i64 (.v 4),.it .u64 (.v 5)],.ag [.it .i64 (.v 6),.fs 1 (.v 7),.fs 3 (.v 8),.fs 4 (.v 9),.it .i64 (.v 10),.it .i64 (.v 11),.it .u64 (.v 12),.it .i64 (.v 13),.fs 1 (.v 14),.fs 3 (.v 15),.fs 4 (.v 16),.it .i64 (.v 17),.it .i64 (.v 18),.it .u64 (.v 19)]],[],i64b 0::i64b 1::i64b 2::i64b 3::i64b 4::u64b 5::i64b 6::i64b 10::i64b 11::u64b 12::i64b 13::i64b 17::i64b 18::u64b 19::[],[],o1 (.bo (.c true)),[]⟩
noncomputable def cMakes_L0:List Lf:=
 let x0_:SI:=(.ap 66 (.v 0) (.v 1) (.v 2) (.v 3) (.v 4) (.v 5))
 let x1_:SI:=(.ap 200 (.v 8) (.c 0) (.c 0) (.c 0) (.c 0) (.c 0))
 let x2_:SI:=(.ap 200 (.v 7) (.c 0) (.c 0) (.c 0) (.c 0) (.c 0))
 let x3_:SI:=(.ap 200 (.v 9) (.c 0) (.c 0) (.c 0) (.c 0) (.c 0))
 let x4_:SI:=(.ap 200 (.v 14) (.c 0) (.c 0) (.c 0) (.c 0) (.c 0))
 let x5_:SI:=(.ap 200 (.v 15) (.c 0) (.c 0) (.c 0) (.c 0) (.c 0))
 let x6_:SI:=(.ap 200 (.v 16) (.c 0) (.c 0) (.c 0) (.c 0) (.c 0))
 let x7_:SI:=(.ap 67 (.op .mul (.v 0) (.v 2)) (.c 0) (.c 0) (.c 0) (.c 0) (.c 0))
 let p8_:SB×Bool:=((.le (.ap 200 x7_ (.c 0) (.c 0) (.c 0) (.c 0) (.c 0)) (.c 256)),.true)
 let x9_:SI:=(.ap 64 (.ap 65 (.ap 63 (.c 1) (.v 0) (.v 1) (.v 2) (.v 7) (.v 6)) (.v 10) (.v 11) (.v 12) (.c 0) (.c 0)) (.v 7) (.v 8) (.v 9) (.c 0) (.c 0))
 let x10_:SI:=(.ap 61 (.ap 61 (.ap 61 (.ap 60 (.ap 60 (.c 1) (.c 0) (.c 0) (.c 0) (.c 0) (.c 0)) (.c 0) (.c 0) (.c 0) (.c 0) (.c 0)) (.c 0) (.c 0) (.c 1) (.c 0) (.c 0)) (.c 0) (.c 0) (.c 5) (.c 0) (.c 0)) (.c 0) (.c 0) (.c 3) (.c 0) (.c 0))
 let x11_:SI:=(.ap 61 (.ap 61 (.ap 61 (.ap 60 (.ap 60 (.c 1) (.v 6) (.v 6) (.v 10) (.v 10) (.c 0)) (.v 11) (.v 11) (.v 12) (.v 12) (.c 0)) (.v 7) (.v 7) (.c 1) (.c 0) (.c 0)) (.v 8) (.v 8) (.c 5) (.c 0) (.c 0)) (.v 9) (.v 9) (.c 3) (.c 0) (.c 0))
 let x12_:SI:=(.ap 61 (.ap 61 (.ap 61 (.ap 60 (.ap 60 (.c 1) (.v 6) (.v 13) (.v 10) (.v 17) (.c 0)) (.v 11) (.v 18) (.v 12) (.v 19) (.c 0)) (.v 7) (.v 14) (.c 1) (.c 0) (.c 0)) (.v 8) (.v 15) (.c 5) (.c 0) (.c 0)) (.v 9) (.v 16) (.c 3) (.c 0) (.c 0))
 let p13_:SB×Bool:=((.eq x11_ (.c 1)),.true)
 let p14_:SB×Bool:=((.eq x11_ (.c 1)),.false)
 let p15_:SB×Bool:=((.eq x12_ (.c 1)),.true)
 let p16_:SB×Bool:=((.eq x12_ (.c 1)),.false)
 let x17_:SI:=(.ap 61 (.ap 61 (.ap 61 (.ap 60 (.ap 60 (.c 1) (.c 0) (.c 0) (.v 3) (.v 3) (.c 0)) (.v 4) (.v 4) (.v 5) (.v 5) (.c 0)) x7_ x7_ (.c 1) (.c 0) (.c 0)) (.c 0) (.c 0) (.c 5) (.c 0) (.c 0)) (.c 0) (.c 0) (.c 3) (.c 0) (.c 0))
 let f0_:List (SB×Bool):=[((.le x1_ (.c 300)),.true),((.le x2_ (.c 300)),.true)]
 let f1_:List (SB×Bool):=((.le x3_ (.c 300)),.true)::f0_
 let f2_:List (SB×Bool):=((.le x4_ (.c 300)),.true)::f1_
 let f3_:List (SB×Bool):=((.le x5_ (.c 300)),.true)::f2_
 let f4_:List (SB×Bool):=((.le x6_ (.c 300)),.true)::f3_
 let f5_:List (SB×Bool):=((.eq x0_ (.c 1)),.false)::f4_
 let f6_:List (SB×Bool):=((.eq x9_ (.c 1)),.true)::f5_
 let f7_:List (SB×Bool):=((.eq x9_ (.c 1)),.false)::f5_
 let f8_:List (SB×Bool):=p8_::p8_::((.eq x0_ (.c 1)),.true)::f4_
 let f9_:List (SB×Bool):=((.eq x10_ (.c 1)),.true)::f6_
 let f10_:List (SB×Bool):=((.eq x10_ (.c 1)),.true)::f7_
 let f11_:List (SB×Bool):=((.eq x9_ (.c 1)),.true)::f8_
 let f12_:List (SB×Bool):=((.eq x9_ (.c 1)),.false)::f8_
 let f13_:List (SB×Bool):=p15_::f9_
 let f14_:List (SB×Bool):=p16_::f9_
 let f15_:List (SB×Bool):=p15_::f10_
 let f16_:List (SB×Bool):=p16_::f10_
 let f17_:List (SB×Bool):=((.eq x17_ (.c 1)),.true)::f11_
 let f18_:List (SB×Bool):=((.eq x17_ (.c 1)),.true)::f12_
 let f19_:List (SB×Bool):=p15_::f17_
 let f20_:List (SB×Bool):=p16_::f17_
 let f21_:List (SB×Bool):=p15_::f18_
 let f22_:List (SB×Bool):=p16_::f18_
 [(.fin (p13_::f19_) 0 ⟨⟨[],[]⟩,[],[],[]⟩ [] []),
  (.fin (p14_::f19_) 0 ⟨⟨[],[]⟩,[],[],[]⟩ [(.eb (.c .true) (.c .false))] []),
  (.fin (p13_::f20_) 0 ⟨⟨[],[]⟩,[],[],[]⟩ [] []),
  (.fin (p14_::f20_) 0 ⟨⟨[],[]⟩,[],[],[]⟩ [(.eb (.c .true) (.c .false))] []),
  (.fin (((.eq x17_ (.c 1)),.false)::f11_) 0 ⟨⟨[],[]⟩,[],[],[]⟩ [(.eb (.c .true) (.c .false))] []),
  (.fin (p13_::f21_) 0 ⟨⟨[],[]⟩,[],[],[]⟩ [] []),
  (.fin (p14_::f21_) 0 ⟨⟨[],[]⟩,[],[],[]⟩ [(.eb (.c .true) (.c .false))] []),
  (.fin (p13_::f22_) 0 ⟨⟨[],[]⟩,[],[],[]⟩ [] []),
  (.fin (p14_::f22_) 0 ⟨⟨[],[]⟩,[],[],[]⟩ [(.eb (.c .true) (.c .false))] []),
  (.fin (((.eq x17_ (.c 1)),.false)::f12_) 0 ⟨⟨[],[]⟩,[],[],[]⟩ [(.eb (.c .true) (.c .false))] []),
  (.fin (p13_::f13_) 0 ⟨⟨[],[]⟩,[],[],[]⟩ [] []),
  (.fin (p14_::f13_) 0 ⟨⟨[],[]⟩,[],[],[]⟩ [(.eb (.c .true) (.c .false))] []),
  (.fin (p13_::f14_) 0 ⟨⟨[],[]⟩,[],[],[]⟩ [] []),
  (.fin (p14_::f14_) 0 ⟨⟨[],[]⟩,[],[],[]⟩ [(.eb (.c .true) (.c .false))] []),
  (.fin (((.eq x10_ (.c 1)),.false)::f6_) 0 ⟨⟨[],[]⟩,[],[],[]⟩ [(.eb (.c .true) (.c .false))] []),
  (.fin (p13_::f15_) 0 ⟨⟨[],[]⟩,[],[],[]⟩ [] []),
  (.fin (p14_::f15_) 0 ⟨⟨[],[]⟩,[],[],[]⟩ [(.eb (.c .true) (.c .false))] []),
  (.fin (p13_::f16_) 0 ⟨⟨[],[]⟩,[],[],[]⟩ [] []),
  (.fin (p14_::f16_) 0 ⟨⟨[],[]⟩,[],[],[]⟩ [(.eb (.c .true) (.c .false))] []),
  (.fin (((.eq x10_ (.c 1)),.false)::f7_) 0 ⟨⟨[],[]⟩,[],[],[]⟩ [(.eb (.c .true) (.c .false))] []),
  (.fin (((.le x6_ (.c 300)),.false)::f3_) 0 ⟨⟨[],[]⟩,[],[],[]⟩ [] []),
  (.fin (((.le x5_ (.c 300)),.false)::f2_) 0 ⟨⟨[],[]⟩,[],[],[]⟩ [] []),
  (.fin (((.le x4_ (.c 300)),.false)::f1_) 0 ⟨⟨[],[]⟩,[],[],[]⟩ [] []),
  (.fin (((.le x3_ (.c 300)),.false)::f0_) 0 ⟨⟨[],[]⟩,[],[],[]⟩ [] []),
  (.fin ([((.le x1_ (.c 300)),.false),((.le x2_ (.c 300)),.true)]) 0 ⟨⟨[],[]⟩,[],[],[]⟩ [] []),
  (.fin ([((.le x2_ (.c 300)),.false)]) 0 ⟨⟨[],[]⟩,[],[],[]⟩ [] [])]
noncomputable def cMakes_run (T:Tm):=(ex (ccOf Tryz.prog BF [29,73,75,100] cMakes) ((fun cc=>[cWorks.entH cc,tNew.entH cc,rNew.entH cc,tCheck.entH cc,rRt.entH cc,cET.entH cc,cDT.entH cc]) (ccOf Tryz.prog BF [29,73,75,100] cMakes)) (dw (ccOf Tryz.prog BF [29,73,75,100] cMakes) ((fun cc=>[cWorks.entH cc,tNew.entH cc,rNew.entH cc,tCheck.entH cc,rRt.entH cc,cET.entH cc,cDT.entH cc]) (ccOf Tryz.prog BF [29,73,75,100] cMakes)) 300 12) (stopX [0,1,2,3,4,5,6,7,8,9,10,11,12,13,14,15,16,17,18,19,20,21,22,23,24,25,26,27,28,29,30,31,32,33,34,35,36,37,38,39,40,41,42,43,44,45,46,47,48,49,50,51,52,53,54,55,56,57,58,59,60,61,62,63,64,65,66,67,68,69,70,71,72,73,74,75,76,77,78,79,80,81,82,83,84,85,86,87,88,89,90,91,92,93,94,95,96,97,98,99,100,101,102,103,104,105,106,107,108,109,110,111,112,113,114,115,116,117,118,119,120,121,122,123,124,125,126,127,128,129,130,131,132,133,134,135,136,137,138,139,140,141,142,143,144,145,146,147,148,149,150,151,152,153,154,155,156,157,158,159,160,161,162,163,164,165,166,167,168,169,170,171,172,173,174,175,176,177,178,179,180,181,182,183,184,185,186,187,188,189,190,191,192,193,194,195,196,197,198,199,200,201,202,203,204,205,206,207,208,209,210,211,212,213,214,215,216,217,218,219,220,221,222,223,224,225,226,227,228,229,230,231,232,233,234,235,236,237,238,239,240,241,242,243,244,245,246,247,248,249,250,251,252,253,254,255,256,257,258,259,260,261,262,263,264,265,266,267,268,269,270,271,272,273,274,275,276,277,278,279,280,281,282,283,284,285,286,287,288,289,290,291,292,293,294,295,296,297,298,299,300,301,302,303,304,305,306,307,308,309,310,311,312,313,314,315,316,317,318,319,320,321,322,323,324,325,326,327,328,329,330,331,332,333,334,335,336,337,338,339,340,341,342,343,344,345,346,347,348,349,350,351,352,353,354,355,356,357,358,359,360,361,362,363,364,365,366,367,368,369,370,371,372,373,374,375,376,377,378,379,380,381,382,383,384,385,386,387,388,389,390,391,392,393,394,395,396,397,398,399]) 3000 T.f T.fs T.H).lfs (ccOf Tryz.prog BF [29,73,75,100] cMakes) ((tm0 cMakes Tryz.f5 (Tryz.f5.body.getD .skip))::[]) cMakes.os
theorem cMakes_h0:cMakes_run (tm0 cMakes Tryz.f5 (Tryz.f5.body.getD .skip))=some cMakes_L0:=by kernel_rfl
def cMakes_inv:(Nat→Int)→(Nat→Bool)→Nat→(Nat→Int)→(Nat→Bool)→Prop:=fun _ _ _ _ _=>True
noncomputable def cMakes_mu:(Nat→Int)→(Nat→Bool)→Nat→(Nat→Int)→(Nat→Bool)→Nat:=fun _ _ _ _ _=>0
def cMakes_ob (k:Nat) (l:List Lf):Prop:=∀ (kv:Kv) (iv0:Nat→Int) (bv0:Nat→Bool),InB cMakes.B iv0→FT (sta FI FB kv iv0 bv0) (dlt dyn0) cMakes.F→∀ (iv:Nat→Int) (bv:Nat→Bool),Agr 20 iv0 bv0 iv bv→cMakes_inv iv0 bv0 k iv bv→∀ lf∈l,LfT (sta FI FB kv) cMakes.os (cMakes_inv iv0 bv0) (cMakes_mu iv0 bv0) k iv bv lf
set_option maxHeartbeats 0 in
theorem cMakes_o0:cMakes_ob 0 cMakes_L0:=by
 intro kv iv0 bv0 hin hF iv bv ha hi
 unfold cMakes_L0
 refine List.forall_mem_cons.2 ⟨?_,List.forall_mem_cons.2 ⟨?_,List.forall_mem_cons.2 ⟨?_,List.forall_mem_cons.2 ⟨?_,List.forall_mem_cons.2 ⟨?_,List.forall_mem_cons.2 ⟨?_,List.forall_mem_cons.2 ⟨?_,List.forall_mem_cons.2 ⟨?_,List.forall_mem_cons.2 ⟨?_,List.forall_mem_cons.2 ⟨?_,List.forall_mem_cons.2 ⟨?_,List.forall_mem_cons.2 ⟨?_,List.forall_mem_cons.2 ⟨?_,List.forall_mem_cons.2 ⟨?_,List.forall_mem_cons.2 ⟨?_,List.forall_mem_cons.2 ⟨?_,List.forall_mem_cons.2 ⟨?_,List.forall_mem_cons.2 ⟨?_,List.forall_mem_cons.2 ⟨?_,List.forall_mem_cons.2 ⟨?_,List.forall_mem_cons.2 ⟨?_,List.forall_mem_cons.2 ⟨?_,List.forall_mem_cons.2 ⟨?_,List.forall_mem_cons.2 ⟨?_,List.forall_mem_cons.2 ⟨?_,List.forall_mem_cons.2 ⟨?_,List.forall_mem_nil _⟩⟩⟩⟩⟩⟩⟩⟩⟩⟩⟩⟩⟩⟩⟩⟩⟩⟩⟩⟩⟩⟩⟩⟩⟩⟩
 all_goals
  intro δ hf
 all_goals
  have a0:=ha.1 0 (by omega)
  have a1:=ha.1 1 (by omega)
  have a2:=ha.1 2 (by omega)
  have a3:=ha.1 3 (by omega)
  have a4:=ha.1 4 (by omega)
  have a5:=ha.1 5 (by omega)
  have a6:=ha.1 6 (by omega)
  have a7:=ha.1 7 (by omega)
  have a8:=ha.1 8 (by omega)
  have a9:=ha.1 9 (by omega)
  have a10:=ha.1 10 (by omega)
  have a11:=ha.1 11 (by omega)
  have a12:=ha.1 12 (by omega)
  have a13:=ha.1 13 (by omega)
  have a14:=ha.1 14 (by omega)
  have a15:=ha.1 15 (by omega)
  have a16:=ha.1 16 (by omega)
  have a17:=ha.1 17 (by omega)
  have a18:=ha.1 18 (by omega)
  have a19:=ha.1 19 (by omega)
 all_goals
  simp only [FT,TP,SB.tp,SI.tv,sta,IB.eval,and_true,true_and,ObsT,Ob.Tv,rowT,kix,In.tiv,↓tbvT,In.tbv,get_cons,get_nil,reduceIte,Nat.reduceEqDiff,Int.reduceToNat,Int.reduceAdd,Int.reduceSub,Int.reduceLE,Int.reduceLT,Int.reduceEq,ne_eq,Bool.false_eq_true,not_true_eq_false,not_false_eq_true,true_iff,false_iff,iff_true,iff_false,false_implies,implies_true,decT,decide_true,decide_false,Bool.decide_eq_true,ap2,pb2,FI_3,FI_3g,FI_4,FI_8,FI_8m,FI_9,FI_8c,FI_8z,FI_200,FB_0,FB_2,Int.toNat_natCast,Int.toNat_zero,FI_10,FI_12,FI_60,FI_61,FI_63,FI_64,FI_65,FI_66,FI_67,FB_10,FB_12,FB_14,FB_16,FB_60,FB_61,cMakes_inv,cMakes_mu,cMakes,o1,othT,o1,u64b,liF,flF,fH,lH,apN,pbN,apM,pbM,oMo,rowV,zeroV,i64b,SI.fl,flay,flayL,lW,mayV,ints,i64s,lmap,a0,a1,a2,a3,a4,a5,a6,a7,a8,a9,a10,a11,a12,a13,a14,a15,a16,a17,a18,a19] at hf hi ⊢
 all_goals
  have n7:=flenC_nn (iv0 7)
 all_goals
  have n8:=flenC_nn (iv0 8)
 all_goals
  have n9:=flenC_nn (iv0 9)
 all_goals
  have n14:=flenC_nn (iv0 14)
 all_goals
  have n15:=flenC_nn (iv0 15)
 all_goals
  have n16:=flenC_nn (iv0 16)
 all_goals
  try simp only [and2_one,andL_one,andR_one] at hf ⊢
 all_goals
  have r1:=@eqL_refl
 all_goals
  (repeat' (with_reducible apply And.intro))<;>first
  | omega
  | assumption
  | (unfold inM;omega)
  | exact trivial
  | (clear hin hF ha;grind)
theorem cMakes_c:LsC ((tm0 cMakes Tryz.f5 (Tryz.f5.body.getD .skip))::[]) cMakes.os [cMakes_L0]:=by
 unfold cMakes_L0
 exact ⟨List.forall_mem_cons.2 ⟨⟨⟨_,rfl,rfl⟩,by kernel_rfl⟩,List.forall_mem_cons.2 ⟨⟨⟨_,rfl,rfl⟩,by kernel_rfl⟩,List.forall_mem_cons.2 ⟨⟨⟨_,rfl,rfl⟩,by kernel_rfl⟩,List.forall_mem_cons.2 ⟨⟨⟨_,rfl,rfl⟩,by kernel_rfl⟩,List.forall_mem_cons.2 ⟨⟨⟨_,rfl,rfl⟩,by kernel_rfl⟩,List.forall_mem_cons.2 ⟨⟨⟨_,rfl,rfl⟩,by kernel_rfl⟩,List.forall_mem_cons.2 ⟨⟨⟨_,rfl,rfl⟩,by kernel_rfl⟩,List.forall_mem_cons.2 ⟨⟨⟨_,rfl,rfl⟩,by kernel_rfl⟩,List.forall_mem_cons.2 ⟨⟨⟨_,rfl,rfl⟩,by kernel_rfl⟩,List.forall_mem_cons.2 ⟨⟨⟨_,rfl,rfl⟩,by kernel_rfl⟩,List.forall_mem_cons.2 ⟨⟨⟨_,rfl,rfl⟩,by kernel_rfl⟩,List.forall_mem_cons.2 ⟨⟨⟨_,rfl,rfl⟩,by kernel_rfl⟩,List.forall_mem_cons.2 ⟨⟨⟨_,rfl,rfl⟩,by kernel_rfl⟩,List.forall_mem_cons.2 ⟨⟨⟨_,rfl,rfl⟩,by kernel_rfl⟩,List.forall_mem_cons.2 ⟨⟨⟨_,rfl,rfl⟩,by kernel_rfl⟩,List.forall_mem_cons.2 ⟨⟨⟨_,rfl,rfl⟩,by kernel_rfl⟩,List.forall_mem_cons.2 ⟨⟨⟨_,rfl,rfl⟩,by kernel_rfl⟩,List.forall_mem_cons.2 ⟨⟨⟨_,rfl,rfl⟩,by kernel_rfl⟩,List.forall_mem_cons.2 ⟨⟨⟨_,rfl,rfl⟩,by kernel_rfl⟩,List.forall_mem_cons.2 ⟨⟨⟨_,rfl,rfl⟩,by kernel_rfl⟩,List.forall_mem_cons.2 ⟨⟨⟨_,rfl,rfl⟩,by kernel_rfl⟩,List.forall_mem_cons.2 ⟨⟨⟨_,rfl,rfl⟩,by kernel_rfl⟩,List.forall_mem_cons.2 ⟨⟨⟨_,rfl,rfl⟩,by kernel_rfl⟩,List.forall_mem_cons.2 ⟨⟨⟨_,rfl,rfl⟩,by kernel_rfl⟩,List.forall_mem_cons.2 ⟨⟨⟨_,rfl,rfl⟩,by kernel_rfl⟩,List.forall_mem_cons.2 ⟨⟨⟨_,rfl,rfl⟩,by kernel_rfl⟩,List.forall_mem_nil _⟩⟩⟩⟩⟩⟩⟩⟩⟩⟩⟩⟩⟩⟩⟩⟩⟩⟩⟩⟩⟩⟩⟩⟩⟩⟩,trivial⟩
theorem cMakes_ok:cMakes.Ok Tryz.prog FI FB:=
 Con.of_plain (body:=Tryz.f5.body.getD .skip) pok fiok (EntsFor.consH cWorks_ok (EntsFor.consH tNew_ok (EntsFor.consH rNew_ok (EntsFor.consH tCheck_ok (EntsFor.consH rRt_ok (EntsFor.consH cET_ok (EntsFor.consH cDT_ok EntsFor.nil))))))) cMakes Tryz.func5 (by kernel_rfl) 20 [] (by kernel_rfl) [cMakes_L0] ⟨cMakes_h0,trivial⟩ cMakes_c
  cMakes_inv cMakes_mu (fun _ _ _=>trivial) fun kv iv0 bv0 hin hF k l iv bv hk ha hi=>match k,hk,hi with
  | 0,hk,hi=>by
    cases hk
    exact cMakes_o0 kv iv0 bv0 hin hF iv bv ha hi
  | k+1,hk,_=>by simp at hk
end Go.Sx.Tk
