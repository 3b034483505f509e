/- Tokens: TokenChanges. -/
import Derived.Test.YtfailpbjhlhhiaaGreatTkO
import Derived.Test.YtfailpbjhlhhiaaGreatTkE
import Derived.Test.YtfailpbjhlhhiaaGreatTkW
namespace Go.Sx.Tk
set_option linter.unusedVariables false
set_option linter.unusedSimpArgs false
set_option maxRecDepth 100000
open Go Go.Sx Go.Proofs
noncomputable def cChanges:Con:=⟨4,[0,1,2,3,4,5,6,7,8,9,10,11],[.ag [.it .i64 (.v 7),.it .i64 (.v 8),.it .i64 (.v 9)],.ag [.it .i64 (.v 0),.fs 1 (.v 1),.fs 3 (.v 2),.fs 4 (.v 3),.it .i64 (.v 4),.it .i64 (.v 5),.it .u64 (.v 6)],.ag [.it .i64 (.v 10),.it .i64 (.v 11)]],[],i64b 10::i64b 11::i64b 0::i64b 4::i64b 5::u64b 6::i64b 7::i64b 8::i64b 9::[],[],o1 (.bo (.c true)),[]⟩
theorem chgE_zero {z a c s e:Int} (h:chgE z a c s e=0) (h0:0≤e) (h1:e≤200):e=0:=by
 unfold chgE at h
 repeat' split at h
 all_goals omega
noncomputable def cChanges_L0:List Lf:=
 let x0_:SI:=(.ap 200 (.v 2) (.c 0) (.c 0) (.c 0) (.c 0) (.c 0))
 let x1_:SI:=(.ap 200 (.v 1) (.c 0) (.c 0) (.c 0) (.c 0) (.c 0))
 let x2_:SI:=(.ap 200 (.v 3) (.c 0) (.c 0) (.c 0) (.c 0) (.c 0))
 let x3_:SI:=(.ap 77 (.v 4) (.v 5) (.v 6) (.v 11) (.c 0) (.c 0))
 let x4_:SI:=(.ap 74 (.v 4) (.v 5) (.v 6) (.v 11) (.c 0) (.c 0))
 let x5_:SI:=(.ap 75 (.v 4) (.v 5) (.v 6) (.v 11) (.c 0) (.c 0))
 let x6_:SI:=(.ap 76 (.v 4) (.v 5) (.v 6) (.v 11) (.c 0) (.c 0))
 let x7_:SI:=(.ap 64 (.ap 65 (.ap 63 (.c 1) (.v 7) (.v 8) (.v 9) (.v 1) (.v 0)) (.v 4) (.v 5) (.v 6) (.c 0) (.c 0)) (.v 1) (.v 2) (.v 3) (.c 0) (.c 0))
 let x8_:SI:=(.ap 79 x7_ (.v 1) (.v 3) (.v 10) (.c 0) (.c 0))
 let p9_:SB×Bool:=((.eq x8_ (.c 0)),.true)
 let p10_:SB×Bool:=((.eq x8_ (.c 0)),.false)
 let x11_:SI:=(.ap 61 (.ap 61 (.ap 61 (.ap 60 (.ap 60 (.c 1) (.c 0) (.c 0) (.c 0) (.c 0) (.c 0)) (.c 0) (.c 0) (.c 0) (.c 0) (.c 0)) (.c 0) (.c 0) (.c 1) (.c 0) (.c 0)) (.c 0) (.c 0) (.c 5) (.c 0) (.c 0)) (.c 0) (.c 0) (.c 3) (.c 0) (.c 0))
 let x12_:SI:=(.ap 61 (.ap 61 (.ap 61 (.ap 60 (.ap 60 (.c 1) (.v 0) (.v 0) (.v 4) (.v 4) (.c 0)) (.v 5) (.v 5) (.v 6) (.v 6) (.c 0)) (.v 1) (.v 1) (.c 1) (.c 0) (.c 0)) (.v 2) (.v 2) (.c 5) (.c 0) (.c 0)) (.v 3) (.v 3) (.c 3) (.c 0) (.c 0))
 let x13_:SI:=(.ap 78 x7_ (.v 1) (.v 3) (.v 10) x3_ (.c 0))
 let p14_:SB×Bool:=((.eq x11_ (.c 1)),.true)
 let p15_:SB×Bool:=((.eq x12_ (.c 1)),.true)
 let p16_:SB×Bool:=((.eq x12_ (.c 1)),.false)
 let p17_:SB×Bool:=((.eq x11_ (.c 1)),.false)
 let p18_:SB×Bool:=((.eq x13_ (.c 0)),.false)
 let x19_:SI:=(.ap 61 (.ap 61 (.ap 61 (.ap 60 (.ap 60 (.c 1) (.v 0) (.v 0) x4_ x4_ (.c 0)) x5_ x5_ x6_ x6_ (.c 0)) (.v 1) (.v 1) (.c 1) (.c 0) (.c 0)) (.v 2) (.v 2) (.c 5) (.c 0) (.c 0)) (.v 3) (.v 3) (.c 3) (.c 0) (.c 0))
 let f0_:List (SB×Bool):=[((.le x0_ (.c 300)),.true),((.le x1_ (.c 300)),.true)]
 let f1_:List (SB×Bool):=((.le x2_ (.c 300)),.true)::f0_
 let f2_:List (SB×Bool):=((.eq x3_ (.c 0)),.true)::f1_
 let f3_:List (SB×Bool):=((.eq x3_ (.c 0)),.false)::f1_
 let f4_:List (SB×Bool):=((.eq x13_ (.c 0)),.true)::f2_
 let f5_:List (SB×Bool):=p9_::f4_
 let f6_:List (SB×Bool):=((.eq x19_ (.c 1)),.true)::f5_
 let f7_:List (SB×Bool):=p18_::p18_::p18_::f2_
 let f8_:List (SB×Bool):=p18_::p18_::p18_::f3_
 let f9_:List (SB×Bool):=p10_::p10_::p10_::f4_
 let f10_:List (SB×Bool):=p9_::f7_
 let f11_:List (SB×Bool):=p9_::f8_
 let f12_:List (SB×Bool):=((.eq x19_ (.c 1)),.true)::f9_
 let f13_:List (SB×Bool):=p14_::f10_
 let f14_:List (SB×Bool):=p14_::f11_
 let f15_:List (SB×Bool):=p10_::p10_::p10_::f7_
 let f16_:List (SB×Bool):=p10_::p10_::p10_::f8_
 let f17_:List (SB×Bool):=p14_::f15_
 let f18_:List (SB×Bool):=p14_::f16_
 [(.fin (p15_::f6_) 0 ⟨⟨[],[]⟩,[],[],[]⟩ [] []),
  (.fin (p16_::f6_) 0 ⟨⟨[],[]⟩,[],[],[]⟩ [(.eb (.c .true) (.c .false))] []),
  (.fin (((.eq x19_ (.c 1)),.false)::f5_) 0 ⟨⟨[],[]⟩,[],[],[]⟩ [(.eb (.c .true) (.c .false))] []),
  (.fin (p15_::f12_) 0 ⟨⟨[],[]⟩,[],[],[]⟩ [] []),
  (.fin (p16_::f12_) 0 ⟨⟨[],[]⟩,[],[],[]⟩ [(.eb (.c .true) (.c .false))] []),
  (.fin (((.eq x19_ (.c 1)),.false)::f9_) 0 ⟨⟨[],[]⟩,[],[],[]⟩ [(.eb (.c .true) (.c .false))] []),
  (.fin (p15_::f13_) 0 ⟨⟨[],[]⟩,[],[],[]⟩ [] []),
  (.fin (p16_::f13_) 0 ⟨⟨[],[]⟩,[],[],[]⟩ [(.eb (.c .true) (.c .false))] []),
  (.fin (p17_::f10_) 0 ⟨⟨[],[]⟩,[],[],[]⟩ [(.eb (.c .true) (.c .false))] []),
  (.fin (p15_::f17_) 0 ⟨⟨[],[]⟩,[],[],[]⟩ [] []),
  (.fin (p16_::f17_) 0 ⟨⟨[],[]⟩,[],[],[]⟩ [(.eb (.c .true) (.c .false))] []),
  (.fin (p17_::f15_) 0 ⟨⟨[],[]⟩,[],[],[]⟩ [(.eb (.c .true) (.c .false))] []),
  (.bad (((.eq x13_ (.c 0)),.true)::f3_)),
  (.fin (p15_::f14_) 0 ⟨⟨[],[]⟩,[],[],[]⟩ [] []),
  (.fin (p16_::f14_) 0 ⟨⟨[],[]⟩,[],[],[]⟩ [(.eb (.c .true) (.c .false))] []),
  (.fin (p17_::f11_) 0 ⟨⟨[],[]⟩,[],[],[]⟩ [(.eb (.c .true) (.c .false))] []),
  (.fin (p15_::f18_) 0 ⟨⟨[],[]⟩,[],[],[]⟩ [] []),
  (.fin (p16_::f18_) 0 ⟨⟨[],[]⟩,[],[],[]⟩ [(.eb (.c .true) (.c .false))] []),
  (.fin (p17_::f16_) 0 ⟨⟨[],[]⟩,[],[],[]⟩ [(.eb (.c .true) (.c .false))] []),
  (.fin (((.le x2_ (.c 300)),.false)::f0_) 0 ⟨⟨[],[]⟩,[],[],[]⟩ [] []),
  (.fin ([((.le x0_ (.c 300)),.false),((.le x1_ (.c 300)),.true)]) 0 ⟨⟨[],[]⟩,[],[],[]⟩ [] []),
  (.fin ([((.le x1_ (.c 300)),.false)]) 0 ⟨⟨[],[]⟩,[],[],[]⟩ [] [])]
noncomputable def cChanges_run (T:Tm):=(ex (ccOf Tryz.prog BF [29,73,75,100] cChanges) ((fun cc=>[cWorks.entH cc,rCopy.entH cc,tChg.entH cc,rChg.entH cc,tVal.entH cc,rVal.entH cc,cDT.entH cc]) (ccOf Tryz.prog BF [29,73,75,100] cChanges)) (dw (ccOf Tryz.prog BF [29,73,75,100] cChanges) ((fun cc=>[cWorks.entH cc,rCopy.entH cc,tChg.entH cc,rChg.entH cc,tVal.entH cc,rVal.entH cc,cDT.entH cc]) (ccOf Tryz.prog BF [29,73,75,100] cChanges)) 300 12) (stopX [0,1,2,3,4,5,6,7,8,9,10,11,12,13,14,15,16,17,18,19,20,21,22,23,24,25,26,27,28,29,30,31,32,33,34,35,36,37,38,39,40,41,42,43,44,45,46,47,48,49,50,51,52,53,54,55,56,57,58,59,60,61,62,63,64,65,66,67,68,69,70,71,72,73,74,75,76,77,78,79,80,81,82,83,84,85,86,87,88,89,90,91,92,93,94,95,96,97,98,99,100,101,102,103,104,105,106,107,108,109,110,111,112,113,114,115,116,117,118,119,120,121,122,123,124,125,126,127,128,129,130,131,132,133,134,135,136,137,138,139,140,141,142,143,144,145,146,147,148,149,150,151,152,153,154,155,156,157,158,159,160,161,162,163,164,165,166,167,168,169,170,171,172,173,174,175,176,177,178,179,180,181,182,183,184,185,186,187,188,189,190,191,192,193,194,195,196,197,198,199,200,201,202,203,204,205,206,207,208,209,210,211,212,213,214,215,216,217,218,219,220,221,222,223,224,225,226,227,228,229,230,231,232,233,234,235,236,237,238,239,240,241,242,243,244,245,246,247,248,249,250,251,252,253,254,255,256,257,258,259,260,261,262,263,264,265,266,267,268,269,270,271,272,273,274,275,276,277,278,279,280,281,282,283,284,285,286,287,288,289,290,291,292,293,294,295,296,297,298,299,300,301,302,303,304,305,306,307,308,309,310,311,312,313,314,315,316,317,318,319,320,321,322,323,324,325,326,327,328,329,330,331,332,333,334,335,336,337,338,339,340,341,342,343,344,345,346,347,348,349,350,351,352,353,354,355,356,357,358,359,360,361,362,363,364,365,366,367,368,369,370,371,372,373,374,375,376,377,378,379,380,381,382,383,384,385,386,387,388,389,390,391,392,393,394,395,396,397,398,399]) 3000 T.f T.fs T.H).lfs (ccOf Tryz.prog BF [29,73,75,100] cChanges) ((tm0 cChanges Tryz.f4 (Tryz.f4.body.getD .skip))::[]) cChanges.os
theorem cChanges_h0:cChanges_run (tm0 cChanges Tryz.f4 (Tryz.f4.body.getD .skip))=some cChanges_L0:=by kernel_rfl
def cChanges_inv:(Nat→Int)→(Nat→Bool)→Nat→(Nat→Int)→(Nat→Bool)→Prop:=fun _ _ _ _ _=>True
noncomputable def cChanges_mu:(Nat→Int)→(Nat→Bool)→Nat→(Nat→Int)→(Nat→Bool)→Nat:=fun _ _ _ _ _=>0
def cChanges_ob (k:Nat) (l:List Lf):Prop:=∀ (kv:Kv) (iv0:Nat→Int) (bv0:Nat→Bool),InB cChanges.B iv0→FT (sta FI FB kv iv0 bv0) (dlt dyn0) cChanges.F→∀ (iv:Nat→Int) (bv:Nat→Bool),Agr 12 iv0 bv0 iv bv→cChanges_inv iv0 bv0 k iv bv→∀ lf∈l,LfT (sta FI FB kv) cChanges.os (cChanges_inv iv0 bv0) (cChanges_mu iv0 bv0) k iv bv lf
set_option maxHeartbeats 0 in
theorem cChanges_o0:cChanges_ob 0 cChanges_L0:=by
 intro kv iv0 bv0 hin hF iv bv ha hi
 unfold cChanges_L0
 refine List.forall_mem_cons.2 ⟨?_,List.forall_mem_cons.2 ⟨?_,List.forall_mem_cons.2 ⟨?_,List.forall_mem_cons.2 ⟨?_,List.forall_mem_cons.2 ⟨?_,List.forall_mem_cons.2 ⟨?_,List.forall_mem_cons.2 ⟨?_,List.forall_mem_cons.2 ⟨?_,List.forall_mem_cons.2 ⟨?_,List.forall_mem_cons.2 ⟨?_,List.forall_mem_cons.2 ⟨?_,List.forall_mem_cons.2 ⟨?_,List.forall_mem_cons.2 ⟨?_,List.forall_mem_cons.2 ⟨?_,List.forall_mem_cons.2 ⟨?_,List.forall_mem_cons.2 ⟨?_,List.forall_mem_cons.2 ⟨?_,List.forall_mem_cons.2 ⟨?_,List.forall_mem_cons.2 ⟨?_,List.forall_mem_cons.2 ⟨?_,List.forall_mem_cons.2 ⟨?_,List.forall_mem_cons.2 ⟨?_,List.forall_mem_nil _⟩⟩⟩⟩⟩⟩⟩⟩⟩⟩⟩⟩⟩⟩⟩⟩⟩⟩⟩⟩⟩⟩
 all_goals
  intro δ hf
 all_goals
  have a0:=ha.1 0 (by omega)
  have a1:=ha.1 1 (by omega)
  have a2:=ha.1 2 (by omega)
  have a3:=ha.1 3 (by omega)
  have a4:=ha.1 4 (by omega)
  have a5:=ha.1 5 (by omega)
  have a6:=ha.1 6 (by omega)
  have a7:=ha.1 7 (by omega)
  have a8:=ha.1 8 (by omega)
  have a9:=ha.1 9 (by omega)
  have a10:=ha.1 10 (by omega)
  have a11:=ha.1 11 (by omega)
 all_goals
  simp only [FT,TP,SB.tp,SI.tv,sta,IB.eval,and_true,true_and,ObsT,Ob.Tv,rowT,kix,In.tiv,↓tbvT,In.tbv,get_cons,get_nil,reduceIte,Nat.reduceEqDiff,Int.reduceToNat,Int.reduceAdd,Int.reduceSub,Int.reduceLE,Int.reduceLT,Int.reduceEq,ne_eq,Bool.false_eq_true,not_true_eq_false,not_false_eq_true,true_iff,false_iff,iff_true,iff_false,false_implies,implies_true,decT,decide_true,decide_false,Bool.decide_eq_true,ap2,pb2,FI_3,FI_3g,FI_4,FI_8,FI_8m,FI_9,FI_8c,FI_8z,FI_200,FB_0,FB_2,Int.toNat_natCast,Int.toNat_zero,FI_10,FI_60,FI_61,FI_63,FI_64,FI_65,FI_74,FI_75,FI_76,FI_77,FI_78,FI_79,FB_10,FB_60,FB_61,cChanges_inv,cChanges_mu,cChanges,o1,othT,o1,u64b,liF,flF,fH,lH,apN,pbN,apM,pbM,oMo,rowV,zeroV,i64b,SI.fl,flay,flayL,lW,mayV,ints,i64s,lmap,a0,a1,a2,a3,a4,a5,a6,a7,a8,a9,a10,a11] at hf hi ⊢
 all_goals
  have n1:=flenC_nn (iv0 1)
 all_goals
  have n2:=flenC_nn (iv0 2)
 all_goals
  have n3:=flenC_nn (iv0 3)
 all_goals
  try simp only [and2_one,andL_one,andR_one] at hf ⊢
 all_goals
  have r1:=@eqL_refl
 all_goals
  have x0:=xE_in (iv0 4) (iv0 5) (iv0 6) (iv0 11)
 all_goals
  have x1:=@chgE_zero
 all_goals
  (repeat' (with_reducible apply And.intro))<;>first
  | omega
  | assumption
  | (unfold inM;omega)
  | exact trivial
  | (clear hin hF ha;grind)
theorem cChanges_c:LsC ((tm0 cChanges Tryz.f4 (Tryz.f4.body.getD .skip))::[]) cChanges.os [cChanges_L0]:=by
 unfold cChanges_L0
 exact ⟨List.forall_mem_cons.2 ⟨⟨⟨_,rfl,rfl⟩,by kernel_rfl⟩,List.forall_mem_cons.2 ⟨⟨⟨_,rfl,rfl⟩,by kernel_rfl⟩,List.forall_mem_cons.2 ⟨⟨⟨_,rfl,rfl⟩,by kernel_rfl⟩,List.forall_mem_cons.2 ⟨⟨⟨_,rfl,rfl⟩,by kernel_rfl⟩,List.forall_mem_cons.2 ⟨⟨⟨_,rfl,rfl⟩,by kernel_rfl⟩,List.forall_mem_cons.2 ⟨⟨⟨_,rfl,rfl⟩,by kernel_rfl⟩,List.forall_mem_cons.2 ⟨⟨⟨_,rfl,rfl⟩,by kernel_rfl⟩,List.forall_mem_cons.2 ⟨⟨⟨_,rfl,rfl⟩,by kernel_rfl⟩,List.forall_mem_cons.2 ⟨⟨⟨_,rfl,rfl⟩,by kernel_rfl⟩,List.forall_mem_cons.2 ⟨⟨⟨_,rfl,rfl⟩,by kernel_rfl⟩,List.forall_mem_cons.2 ⟨⟨⟨_,rfl,rfl⟩,by kernel_rfl⟩,List.forall_mem_cons.2 ⟨⟨⟨_,rfl,rfl⟩,by kernel_rfl⟩,List.forall_mem_cons.2 ⟨trivial,List.forall_mem_cons.2 ⟨⟨⟨_,rfl,rfl⟩,by kernel_rfl⟩,List.forall_mem_cons.2 ⟨⟨⟨_,rfl,rfl⟩,by kernel_rfl⟩,List.forall_mem_cons.2 ⟨⟨⟨_,rfl,rfl⟩,by kernel_rfl⟩,List.forall_mem_cons.2 ⟨⟨⟨_,rfl,rfl⟩,by kernel_rfl⟩,List.forall_mem_cons.2 ⟨⟨⟨_,rfl,rfl⟩,by kernel_rfl⟩,List.forall_mem_cons.2 ⟨⟨⟨_,rfl,rfl⟩,by kernel_rfl⟩,List.forall_mem_cons.2 ⟨⟨⟨_,rfl,rfl⟩,by kernel_rfl⟩,List.forall_mem_cons.2 ⟨⟨⟨_,rfl,rfl⟩,by kernel_rfl⟩,List.forall_mem_cons.2 ⟨⟨⟨_,rfl,rfl⟩,by kernel_rfl⟩,List.forall_mem_nil _⟩⟩⟩⟩⟩⟩⟩⟩⟩⟩⟩⟩⟩⟩⟩⟩⟩⟩⟩⟩⟩⟩,trivial⟩
theorem cChanges_ok:cChanges.Ok Tryz.prog FI FB:=
 Con.of_plain (body:=Tryz.f4.body.getD .skip) pok fiok (EntsFor.consH cWorks_ok (EntsFor.consH rCopy_ok (EntsFor.consH tChg_ok (EntsFor.consH rChg_ok (EntsFor.consH tVal_ok (EntsFor.consH rVal_ok (EntsFor.consH cDT_ok EntsFor.nil))))))) cChanges Tryz.func4 (by kernel_rfl) 12 [] (by kernel_rfl) [cChanges_L0] ⟨cChanges_h0,trivial⟩ cChanges_c
  cChanges_inv cChanges_mu (fun _ _ _=>trivial) fun kv iv0 bv0 hin hF k l iv bv hk ha hi=>match k,hk,hi with
  | 0,hk,hi=>by
    cases hk
    exact cChanges_o0 kv iv0 bv0 hin hF iv bv ha hi
  | k+1,hk,_=>by simp at hk
end Go.Sx.Tk
