/- Messages: MessageSame. -/
import Derived.Test.YtljfkplkdeinmaaGreatMgX
import Derived.Test.YtljfkplkdeinmaaGreatMgL
namespace Go.Sx.Mg
set_option linter.unusedVariables false
set_option linter.unusedSimpArgs false
set_option maxRecDepth 100000
open Go Go.Sx Go.Proofs
noncomputable def cMSame:Con:=⟨3,mV,mA,[],mB,[],o1 (.bo (.c true)),[]⟩
noncomputable def cMSame_L0:List Lf:=
 let x0_:SI:=(.ap 200 (.v 19) (.c 0) (.c 0) (.c 0) (.c 0) (.c 0))
 let x1_:SI:=(.ap 200 (.v 18) (.c 0) (.c 0) (.c 0) (.c 0) (.c 0))
 let x2_:SI:=(.ap 200 (.v 20) (.c 0) (.c 0) (.c 0) (.c 0) (.c 0))
 let x3_:SI:=(.ap 200 (.v 24) (.c 0) (.c 0) (.c 0) (.c 0) (.c 0))
 let x4_:SI:=(.ap 200 (.v 25) (.c 0) (.c 0) (.c 0) (.c 0) (.c 0))
 let x5_:SI:=(.ap 200 (.v 48) (.c 0) (.c 0) (.c 0) (.c 0) (.c 0))
 let x6_:SI:=(.ap 200 (.v 49) (.c 0) (.c 0) (.c 0) (.c 0) (.c 0))
 let x7_:SI:=(.ap 200 (.v 50) (.c 0) (.c 0) (.c 0) (.c 0) (.c 0))
 let x8_:SI:=(.ap 200 (.v 54) (.c 0) (.c 0) (.c 0) (.c 0) (.c 0))
 let x9_:SI:=(.ap 200 (.v 55) (.c 0) (.c 0) (.c 0) (.c 0) (.c 0))
 let x10_:SI:=(.ap 23 (.ap 22 (.ap 22 (.ap 22 (.ap 22 (.ap 21 (.ap 21 (.ap 21 (.ap 21 (.ap 21 (.ap 21 (.ap 21 (.ap 21 (.ap 21 (.ap 21 (.c 1) (.v 0) (.v 0) (.v 1) (.v 1) (.c 0)) (.v 2) (.v 2) (.v 3) (.v 3) (.c 0)) (.v 4) (.v 4) (.v 5) (.v 5) (.c 0)) (.v 6) (.v 6) (.v 7) (.v 7) (.c 0)) (.v 9) (.v 9) (.v 10) (.v 10) (.c 0)) (.v 11) (.v 11) (.v 12) (.v 12) (.c 0)) (.v 13) (.v 13) (.v 14) (.v 14) (.c 0)) (.v 15) (.v 15) (.v 16) (.v 16) (.c 0)) (.v 17) (.v 17) (.v 21) (.v 21) (.c 0)) (.v 22) (.v 22) (.v 23) (.v 23) (.c 0)) (.v 18) (.v 18) (.c 1) (.c 0) (.c 0)) (.v 19) (.v 19) (.c 5) (.c 0) (.c 0)) (.v 20) (.v 20) (.c 3) (.c 0) (.c 0)) (.v 25) (.v 25) (.c 3) (.c 0) (.c 0)) (.v 24) (.v 24) (.c 0) (.c 0) (.c 0))
 let x11_:SI:=(.ap 23 (.ap 22 (.ap 22 (.ap 22 (.ap 22 (.ap 21 (.ap 21 (.ap 21 (.ap 21 (.ap 21 (.ap 21 (.ap 21 (.ap 21 (.ap 21 (.ap 21 (.c 1) (.v 0) (.v 30) (.v 1) (.v 31) (.c 0)) (.v 2) (.v 32) (.v 3) (.v 33) (.c 0)) (.v 4) (.v 34) (.v 5) (.v 35) (.c 0)) (.v 6) (.v 36) (.v 7) (.v 37) (.c 0)) (.v 9) (.v 39) (.v 10) (.v 40) (.c 0)) (.v 11) (.v 41) (.v 12) (.v 42) (.c 0)) (.v 13) (.v 43) (.v 14) (.v 44) (.c 0)) (.v 15) (.v 45) (.v 16) (.v 46) (.c 0)) (.v 17) (.v 47) (.v 21) (.v 51) (.c 0)) (.v 22) (.v 52) (.v 23) (.v 53) (.c 0)) (.v 18) (.v 48) (.c 1) (.c 0) (.c 0)) (.v 19) (.v 49) (.c 5) (.c 0) (.c 0)) (.v 20) (.v 50) (.c 3) (.c 0) (.c 0)) (.v 25) (.v 55) (.c 3) (.c 0) (.c 0)) (.v 24) (.v 54) (.c 0) (.c 0) (.c 0))
 let p12_:SB×Bool:=((.eq x10_ (.c 1)),.true)
 let p13_:SB×Bool:=((.eq x10_ (.c 1)),.false)
 let f0_:List (SB×Bool):=[((.le x0_ (.c 300)),.true),((.le x1_ (.c 300)),.true)]
 let f1_:List (SB×Bool):=((.le x2_ (.c 300)),.true)::f0_
 let f2_:List (SB×Bool):=((.le x3_ (.c 300)),.true)::f1_
 let f3_:List (SB×Bool):=((.le x4_ (.c 300)),.true)::f2_
 let f4_:List (SB×Bool):=((.le x5_ (.c 300)),.true)::f3_
 let f5_:List (SB×Bool):=((.le x6_ (.c 300)),.true)::f4_
 let f6_:List (SB×Bool):=((.le x7_ (.c 300)),.true)::f5_
 let f7_:List (SB×Bool):=((.le x8_ (.c 300)),.true)::f6_
 let f8_:List (SB×Bool):=((.le x9_ (.c 300)),.true)::f7_
 let f9_:List (SB×Bool):=((.v 0),.true)::f8_
 let f10_:List (SB×Bool):=((.v 0),.false)::f8_
 let f11_:List (SB×Bool):=((.v 1),.true)::f9_
 let f12_:List (SB×Bool):=((.v 1),.false)::f9_
 let f13_:List (SB×Bool):=((.v 1),.true)::f10_
 let f14_:List (SB×Bool):=((.v 1),.false)::f10_
 let f15_:List (SB×Bool):=((.eq x11_ (.c 1)),.true)::f11_
 let f16_:List (SB×Bool):=((.eq x11_ (.c 1)),.false)::f11_
 let f17_:List (SB×Bool):=((.eq x11_ (.c 1)),.true)::f14_
 let f18_:List (SB×Bool):=((.eq x11_ (.c 1)),.false)::f14_
 [(.fin (p12_::f15_) 0 ⟨⟨[],[]⟩,[],[],[]⟩ [] []),
  (.fin (p13_::f15_) 0 ⟨⟨[],[]⟩,[],[],[]⟩ [(.eb (.c .true) (.c .false))] []),
  (.fin (p12_::f16_) 0 ⟨⟨[],[]⟩,[],[],[]⟩ [] []),
  (.fin (p13_::f16_) 0 ⟨⟨[],[]⟩,[],[],[]⟩ [(.eb (.c .true) (.c .false))] []),
  (.fin (p12_::f12_) 0 ⟨⟨[],[]⟩,[],[],[]⟩ [] []),
  (.fin (p13_::f12_) 0 ⟨⟨[],[]⟩,[],[],[]⟩ [(.eb (.c .true) (.c .false))] []),
  (.fin (p12_::f13_) 0 ⟨⟨[],[]⟩,[],[],[]⟩ [] []),
  (.fin (p13_::f13_) 0 ⟨⟨[],[]⟩,[],[],[]⟩ [(.eb (.c .true) (.c .false))] []),
  (.fin (p12_::f17_) 0 ⟨⟨[],[]⟩,[],[],[]⟩ [] []),
  (.fin (p13_::f17_) 0 ⟨⟨[],[]⟩,[],[],[]⟩ [(.eb (.c .true) (.c .false))] []),
  (.fin (p12_::f18_) 0 ⟨⟨[],[]⟩,[],[],[]⟩ [] []),
  (.fin (p13_::f18_) 0 ⟨⟨[],[]⟩,[],[],[]⟩ [(.eb (.c .true) (.c .false))] []),
  (.fin (((.le x9_ (.c 300)),.false)::f7_) 0 ⟨⟨[],[]⟩,[],[],[]⟩ [] []),
  (.fin (((.le x8_ (.c 300)),.false)::f6_) 0 ⟨⟨[],[]⟩,[],[],[]⟩ [] []),
  (.fin (((.le x7_ (.c 300)),.false)::f5_) 0 ⟨⟨[],[]⟩,[],[],[]⟩ [] []),
  (.fin (((.le x6_ (.c 300)),.false)::f4_) 0 ⟨⟨[],[]⟩,[],[],[]⟩ [] []),
  (.fin (((.le x5_ (.c 300)),.false)::f3_) 0 ⟨⟨[],[]⟩,[],[],[]⟩ [] []),
  (.fin (((.le x4_ (.c 300)),.false)::f2_) 0 ⟨⟨[],[]⟩,[],[],[]⟩ [] []),
  (.fin (((.le x3_ (.c 300)),.false)::f1_) 0 ⟨⟨[],[]⟩,[],[],[]⟩ [] []),
  (.fin (((.le x2_ (.c 300)),.false)::f0_) 0 ⟨⟨[],[]⟩,[],[],[]⟩ [] []),
  (.fin ([((.le x0_ (.c 300)),.false),((.le x1_ (.c 300)),.true)]) 0 ⟨⟨[],[]⟩,[],[],[]⟩ [] []),
  (.fin ([((.le x1_ (.c 300)),.false)]) 0 ⟨⟨[],[]⟩,[],[],[]⟩ [] [])]
noncomputable def cMSame_run (T:Tm):=(ex (ccOf Tryz.prog BF [24,26,29,32,53,56,76,79] cMSame) ((fun cc=>[cWorks.entH cc,cMS.entH cc,cRS.entH cc]) (ccOf Tryz.prog BF [24,26,29,32,53,56,76,79] cMSame)) (dw (ccOf Tryz.prog BF [24,26,29,32,53,56,76,79] cMSame) ((fun cc=>[cWorks.entH cc,cMS.entH cc,cRS.entH cc]) (ccOf Tryz.prog BF [24,26,29,32,53,56,76,79] cMSame)) 60 12) (stopX [0,1,2,3,4,5,6,7,8,9,10,11,12,13,14,15,16,17,18,19,20,21,22,23,24,25,26,27,28,29,30,31,32,33,34,35,36,37,38,39,40,41,42,43,44,45,46,47,48,49,50,51,52,53,54,55,56,57,58,59,60,61,62,63,64,65,66,67,68,69,70,71,72,73,74,75,76,77,78,79,80,81,82,83,84,85,86,87,88,89,90,91,92,93,94,95,96,97,98,99,100,101,102,103,104,105,106,107,108,109,110,111,112,113,114,115,116,117,118,119,120,121,122,123,124,125,126,127,128,129,130,131,132,133,134,135,136,137,138,139,140,141,142,143,144,145,146,147,148,149,150,151,152,153,154,155,156,157,158,159,160,161,162,163,164,165,166,167,168,169,170,171,172,173,174,175,176,177,178,179,180,181,182,183,184,185,186,187,188,189,190,191,192,193,194,195,196,197,198,199,200,201,202,203,204,205,206,207,208,209,210,211,212,213,214,215,216,217,218,219,220,221,222,223,224,225,226,227,228,229,230,231,232,233,234,235,236,237,238,239,240,241,242,243,244,245,246,247,248,249,250,251,252,253,254,255,256,257,258,259,260,261,262,263,264,265,266,267,268,269,270,271,272,273,274,275,276,277,278,279,280,281,282,283,284,285,286,287,288,289,290,291,292,293,294,295,296,297,298,299,300,301,302,303,304,305,306,307,308,309,310,311,312,313,314,315,316,317,318,319,320,321,322,323,324,325,326,327,328,329,330,331,332,333,334,335,336,337,338,339,340,341,342,343,344,345,346,347,348,349,350,351,352,353,354,355,356,357,358,359,360,361,362,363,364,365,366,367,368,369,370,371,372,373,374,375,376,377,378,379,380,381,382,383,384,385,386,387,388,389,390,391,392,393,394,395,396,397,398,399]) 200 T.f T.fs T.H).lfs (ccOf Tryz.prog BF [24,26,29,32,53,56,76,79] cMSame) ((tm0 cMSame Tryz.f3 (Tryz.f3.body.getD .skip))::[]) cMSame.os
theorem cMSame_h0:cMSame_run (tm0 cMSame Tryz.f3 (Tryz.f3.body.getD .skip))=some cMSame_L0:=by kernel_rfl
def cMSame_inv:(Nat→Int)→(Nat→Bool)→Nat→(Nat→Int)→(Nat→Bool)→Prop:=fun _ _ _ _ _=>True
noncomputable def cMSame_mu:(Nat→Int)→(Nat→Bool)→Nat→(Nat→Int)→(Nat→Bool)→Nat:=fun _ _ _ _ _=>0
def cMSame_ob (k:Nat) (l:List Lf):Prop:=∀ (kv:Kv) (iv0:Nat→Int) (bv0:Nat→Bool),InB cMSame.B iv0→FT (sta FI FB kv iv0 bv0) (dlt dyn0) cMSame.F→∀ (iv:Nat→Int) (bv:Nat→Bool),Agr 60 iv0 bv0 iv bv→cMSame_inv iv0 bv0 k iv bv→∀ lf∈l,LfT (sta FI FB kv) cMSame.os (cMSame_inv iv0 bv0) (cMSame_mu iv0 bv0) k iv bv lf
set_option maxHeartbeats 0 in
theorem cMSame_o0:cMSame_ob 0 cMSame_L0:=by
 intro kv iv0 bv0 hin hF iv bv ha hi
 unfold cMSame_L0
 refine List.forall_mem_cons.2 ⟨?_,List.forall_mem_cons.2 ⟨?_,List.forall_mem_cons.2 ⟨?_,List.forall_mem_cons.2 ⟨?_,List.forall_mem_cons.2 ⟨?_,List.forall_mem_cons.2 ⟨?_,List.forall_mem_cons.2 ⟨?_,List.forall_mem_cons.2 ⟨?_,List.forall_mem_cons.2 ⟨?_,List.forall_mem_cons.2 ⟨?_,List.forall_mem_cons.2 ⟨?_,List.forall_mem_cons.2 ⟨?_,List.forall_mem_cons.2 ⟨?_,List.forall_mem_cons.2 ⟨?_,List.forall_mem_cons.2 ⟨?_,List.forall_mem_cons.2 ⟨?_,List.forall_mem_cons.2 ⟨?_,List.forall_mem_cons.2 ⟨?_,List.forall_mem_cons.2 ⟨?_,List.forall_mem_cons.2 ⟨?_,List.forall_mem_cons.2 ⟨?_,List.forall_mem_cons.2 ⟨?_,List.forall_mem_nil _⟩⟩⟩⟩⟩⟩⟩⟩⟩⟩⟩⟩⟩⟩⟩⟩⟩⟩⟩⟩⟩⟩
 all_goals
  intro δ hf
 all_goals
  have a0:=ha.1 0 (by omega)
  have a1:=ha.1 1 (by omega)
  have a2:=ha.1 2 (by omega)
  have a3:=ha.1 3 (by omega)
  have a4:=ha.1 4 (by omega)
  have a5:=ha.1 5 (by omega)
  have a6:=ha.1 6 (by omega)
  have a7:=ha.1 7 (by omega)
  have a8:=ha.1 8 (by omega)
  have a9:=ha.1 9 (by omega)
  have a10:=ha.1 10 (by omega)
  have a11:=ha.1 11 (by omega)
  have a12:=ha.1 12 (by omega)
  have a13:=ha.1 13 (by omega)
  have a14:=ha.1 14 (by omega)
  have a15:=ha.1 15 (by omega)
  have a16:=ha.1 16 (by omega)
  have a17:=ha.1 17 (by omega)
  have a18:=ha.1 18 (by omega)
  have a19:=ha.1 19 (by omega)
  have a20:=ha.1 20 (by omega)
  have a21:=ha.1 21 (by omega)
  have a22:=ha.1 22 (by omega)
  have a23:=ha.1 23 (by omega)
  have a24:=ha.1 24 (by omega)
  have a25:=ha.1 25 (by omega)
  have a26:=ha.1 26 (by omega)
  have a27:=ha.1 27 (by omega)
  have a28:=ha.1 28 (by omega)
  have a29:=ha.1 29 (by omega)
  have a30:=ha.1 30 (by omega)
  have a31:=ha.1 31 (by omega)
  have a32:=ha.1 32 (by omega)
  have a33:=ha.1 33 (by omega)
  have a34:=ha.1 34 (by omega)
  have a35:=ha.1 35 (by omega)
  have a36:=ha.1 36 (by omega)
  have a37:=ha.1 37 (by omega)
  have a38:=ha.1 38 (by omega)
  have a39:=ha.1 39 (by omega)
  have a40:=ha.1 40 (by omega)
  have a41:=ha.1 41 (by omega)
  have a42:=ha.1 42 (by omega)
  have a43:=ha.1 43 (by omega)
  have a44:=ha.1 44 (by omega)
  have a45:=ha.1 45 (by omega)
  have a46:=ha.1 46 (by omega)
  have a47:=ha.1 47 (by omega)
  have a48:=ha.1 48 (by omega)
  have a49:=ha.1 49 (by omega)
  have a50:=ha.1 50 (by omega)
  have a51:=ha.1 51 (by omega)
  have a52:=ha.1 52 (by omega)
  have a53:=ha.1 53 (by omega)
  have a54:=ha.1 54 (by omega)
  have a55:=ha.1 55 (by omega)
  have a56:=ha.1 56 (by omega)
  have a57:=ha.1 57 (by omega)
  have a58:=ha.1 58 (by omega)
  have a59:=ha.1 59 (by omega)
 all_goals
  simp only [FT,TP,SB.tp,SI.tv,sta,IB.eval,and_true,true_and,ObsT,Ob.Tv,rowT,kix,In.tiv,↓tbvT,In.tbv,get_cons,get_nil,reduceIte,Nat.reduceEqDiff,Int.reduceToNat,Int.reduceAdd,Int.reduceSub,Int.reduceLE,Int.reduceLT,Int.reduceEq,ne_eq,Bool.false_eq_true,not_true_eq_false,not_false_eq_true,true_iff,false_iff,iff_true,iff_false,false_implies,implies_true,decT,decide_true,decide_false,Bool.decide_eq_true,ap2,pb2,FI_3,FI_4,FI_6,FI_8,FI_9,FI_8c,FI_8z,FI_200,FB_0,FB_2,Int.toNat_natCast,Int.toNat_zero,FI_20,FI_21,FI_22,FI_23,FB_30,FB_31,cMSame_inv,cMSame_mu,cMSame,o1,othT,o1,flF,SI.fl,flay,flayL,i64b,u64b,eqB,mSB,mA,mV,mB,a0,a1,a2,a3,a4,a5,a6,a7,a8,a9,a10,a11,a12,a13,a14,a15,a16,a17,a18,a19,a20,a21,a22,a23,a24,a25,a26,a27,a28,a29,a30,a31,a32,a33,a34,a35,a36,a37,a38,a39,a40,a41,a42,a43,a44,a45,a46,a47,a48,a49,a50,a51,a52,a53,a54,a55,a56,a57,a58,a59] at hf hi ⊢
 all_goals
  simp only [and2_one,andL_one,andR_one] at hf ⊢
 all_goals
  have r1:=@eqL_refl
 all_goals
  have r2:=@eqR_refl
 all_goals
  have r3:=@flenC_nn
 all_goals
  (repeat' (with_reducible apply And.intro))<;>first
  | omega
  | assumption
  | (unfold inM;omega)
  | exact trivial
  | (clear hin hF ha;grind)
theorem cMSame_c:LsC ((tm0 cMSame Tryz.f3 (Tryz.f3.body.getD .skip))::[]) cMSame.os [cMSame_L0]:=by
 unfold cMSame_L0
 exact ⟨List.forall_mem_cons.2 ⟨⟨⟨_,rfl,rfl⟩,by kernel_rfl⟩,List.forall_mem_cons.2 ⟨⟨⟨_,rfl,rfl⟩,by kernel_rfl⟩,List.forall_mem_cons.2 ⟨⟨⟨_,rfl,rfl⟩,by kernel_rfl⟩,List.forall_mem_cons.2 ⟨⟨⟨_,rfl,rfl⟩,by kernel_rfl⟩,List.forall_mem_cons.2 ⟨⟨⟨_,rfl,rfl⟩,by kernel_rfl⟩,List.forall_mem_cons.2 ⟨⟨⟨_,rfl,rfl⟩,by kernel_rfl⟩,List.forall_mem_cons.2 ⟨⟨⟨_,rfl,rfl⟩,by kernel_rfl⟩,List.forall_mem_cons.2 ⟨⟨⟨_,rfl,rfl⟩,by kernel_rfl⟩,List.forall_mem_cons.2 ⟨⟨⟨_,rfl,rfl⟩,by kernel_rfl⟩,List.forall_mem_cons.2 ⟨⟨⟨_,rfl,rfl⟩,by kernel_rfl⟩,List.forall_mem_cons.2 ⟨⟨⟨_,rfl,rfl⟩,by kernel_rfl⟩,List.forall_mem_cons.2 ⟨⟨⟨_,rfl,rfl⟩,by kernel_rfl⟩,List.forall_mem_cons.2 ⟨⟨⟨_,rfl,rfl⟩,by kernel_rfl⟩,List.forall_mem_cons.2 ⟨⟨⟨_,rfl,rfl⟩,by kernel_rfl⟩,List.forall_mem_cons.2 ⟨⟨⟨_,rfl,rfl⟩,by kernel_rfl⟩,List.forall_mem_cons.2 ⟨⟨⟨_,rfl,rfl⟩,by kernel_rfl⟩,List.forall_mem_cons.2 ⟨⟨⟨_,rfl,rfl⟩,by kernel_rfl⟩,List.forall_mem_cons.2 ⟨⟨⟨_,rfl,rfl⟩,by kernel_rfl⟩,List.forall_mem_cons.2 ⟨⟨⟨_,rfl,rfl⟩,by kernel_rfl⟩,List.forall_mem_cons.2 ⟨⟨⟨_,rfl,rfl⟩,by kernel_rfl⟩,List.forall_mem_cons.2 ⟨⟨⟨_,rfl,rfl⟩,by kernel_rfl⟩,List.forall_mem_cons.2 ⟨⟨⟨_,rfl,rfl⟩,by kernel_rfl⟩,List.forall_mem_nil _⟩⟩⟩⟩⟩⟩⟩⟩⟩⟩⟩⟩⟩⟩⟩⟩⟩⟩⟩⟩⟩⟩,trivial⟩
theorem cMSame_ok:cMSame.Ok Tryz.prog FI FB:=
 Con.of_plain (body:=Tryz.f3.body.getD .skip) pok fiok (EntsFor.consH cWorks_ok (EntsFor.consH cMS_ok (EntsFor.consH cRS_ok EntsFor.nil))) cMSame Tryz.func3 (by kernel_rfl) 60 [] (by kernel_rfl) [cMSame_L0] ⟨cMSame_h0,trivial⟩ cMSame_c
  cMSame_inv cMSame_mu (fun _ _ _=>trivial) fun kv iv0 bv0 hin hF k l iv bv hk ha hi=>match k,hk,hi with
  | 0,hk,hi=>by
    cases hk
    exact cMSame_o0 kv iv0 bv0 hin hF iv bv ha hi
  | k+1,hk,_=>by simp at hk
end Go.Sx.Mg
