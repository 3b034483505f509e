/- Messages: the chapter's rows. -/
import Derived.Test.YtljfkplkdeinmaaGreatMgF
namespace Go.Sx.Mg
set_option linter.unusedVariables false
set_option linter.unusedSimpArgs false
set_option maxRecDepth 100000
open Go Go.Sx Go.Proofs
noncomputable def cWorks:Con:=⟨8,[],[],[],[],[],o1 (.bo (.c true)),[5]⟩
noncomputable def cWorks_L0:List Lf:=
 let p0_:SB×Bool:=((.le (.c 4) (.d 21)),.true)
 let p1_:SB×Bool:=((.le (.c 3) (.d 20)),.true)
 let p2_:SB×Bool:=((.le (.c 2) (.d 19)),.true)
 let p3_:SB×Bool:=((.le (.c 1) (.d 18)),.true)
 let x4_:SI:=(.ap 20 (.c 0) (.c 0) (.c 0) (.c 0) (.c 0) (.c 0))
 let x5_:SI:=(.op (.bxor .u32) (.ap 6 x4_ (.c 250) (.c 0) (.c 0) (.c 0) (.c 0)) (.c 16777215))
 let x6_:SI:=(.op (.bxor .u32) (.c 4294967295) (.op (.bxor .u32) (.ap 6 x4_ (.c 255) (.c 0) (.c 0) (.c 0) (.c 0)) (.c 16777215)))
 let x7_:SI:=(.wk .u8 (.op (.shr .u32) x6_ (.c 8)))
 let x8_:SI:=(.wk .u8 (.op (.shr .u32) x6_ (.c 0)))
 let x9_:SI:=(.wk .u8 (.op (.shr .u32) x6_ (.c 24)))
 let x10_:SI:=(.wk .u8 (.op (.shr .u32) x6_ (.c 16)))
 let x11_:SI:=(.ap 8 (.ap 8 (.ap 8 (.ap 8 (.ap 8 (.ap 8 (.c 0) (.c 0) (.c 0) (.c 5) (.c 0) (.c 0)) (.c 1) (.c 0) (.c 5) (.c 0) (.c 0)) (.c 2) (.c 0) (.c 1) (.c 0) (.c 0)) (.c 3) (.c 0) (.c 1) (.c 0) (.c 0)) (.c 4) (.c 0) (.c 2) (.c 0) (.c 0)) (.c 5) (.c 0) (.c 1) (.c 0) (.c 0))
 let x12_:SI:=(.ap 8 x11_ (.c 6) (.c 0) (.c 0) (.c 11) (.c 0))
 let x13_:SI:=(.op (.bxor .u32) (.ap 6 x4_ (.op (.bxor .u8) (.wk .u8 x5_) (.c 5)) (.c 0) (.c 0) (.c 0) (.c 0)) (.op (.shr .u32) x5_ (.c 8)))
 let x14_:SI:=(.op (.bxor .u32) (.ap 6 x4_ (.op (.bxor .u8) (.wk .u8 x13_) (.c 1)) (.c 0) (.c 0) (.c 0) (.c 0)) (.op (.shr .u32) x13_ (.c 8)))
 let x15_:SI:=(.op (.bxor .u32) (.ap 6 x4_ (.op (.bxor .u8) (.wk .u8 x14_) (.c 1)) (.c 0) (.c 0) (.c 0) (.c 0)) (.op (.shr .u32) x14_ (.c 8)))
 let x16_:SI:=(.op (.bxor .u32) (.ap 6 x4_ (.op (.bxor .u8) (.wk .u8 x15_) (.c 2)) (.c 0) (.c 0) (.c 0) (.c 0)) (.op (.shr .u32) x15_ (.c 8)))
 let x17_:SI:=(.op (.bxor .u32) (.c 4294967295) (.op (.bxor .u32) (.ap 6 x4_ (.op (.bxor .u8) (.wk .u8 x16_) (.c 1)) (.c 0) (.c 0) (.c 0) (.c 0)) (.op (.shr .u32) x16_ (.c 8))))
 let x18_:SI:=(.ap 8 (.ap 8 (.ap 8 (.ap 8 (.ap 8 x11_ (.c 6) (.c 0) (.wk .u8 (.op (.shr .u32) x17_ (.c 24))) (.c 0) (.c 0)) (.c 7) (.c 0) (.wk .u8 (.op (.shr .u32) x17_ (.c 16))) (.c 0) (.c 0)) (.c 8) (.c 0) (.wk .u8 (.op (.shr .u32) x17_ (.c 8))) (.c 0) (.c 0)) (.c 9) (.c 0) (.wk .u8 (.op (.shr .u32) x17_ (.c 0))) (.c 0) (.c 0)) (.c 6) (.c 0) (.c 0) (.c 11) (.c 0))
 let p19_:SB×Bool:=((.ap 2 x18_ x12_ (.c 0) (.c 0) (.c 0) (.c 0)),.true)
 let p20_:SB×Bool:=((.ap 2 x18_ x12_ (.c 0) (.c 0) (.c 0) (.c 0)),.false)
 let f0_:List (SB×Bool):=[((.le (.c 5) (.d 17)),.true),((.le (.c 1) (.d 16)),.true),((.le (.c 10) (.d 15)),.true),((.le (.c 4) (.d 14)),.true),((.le (.c 3) (.d 13)),.true),((.le (.c 2) (.d 12)),.true),((.le (.c 1) (.d 11)),.true),((.le (.c 1) (.d 10)),.true),((.le (.c 5) (.d 9)),.true),((.le (.c 1) (.d 8)),.true),((.le (.c 4) (.d 7)),.true),((.le (.c 1) (.d 6)),.true),((.le (.c 3) (.d 5)),.true),((.le (.c 1) (.d 4)),.true),((.le (.c 2) (.d 3)),.true),((.le (.c 1) (.d 2)),.true),((.le (.c 1) (.d 1)),.true),((.le (.c 1) (.d 0)),.true)]
 let f1_:List (SB×Bool):=((.eq x9_ (.c 210)),.true)::f0_
 let f2_:List (SB×Bool):=((.eq x10_ (.c 2)),.true)::f1_
 let f3_:List (SB×Bool):=((.eq x7_ (.c 239)),.true)::f2_
 let f4_:List (SB×Bool):=p0_::p1_::p2_::p3_::((.eq x9_ (.c 210)),.false)::f0_
 let f5_:List (SB×Bool):=p0_::p1_::p2_::p3_::((.eq x10_ (.c 2)),.false)::f1_
 let f6_:List (SB×Bool):=p0_::p1_::p2_::p3_::((.eq x7_ (.c 239)),.false)::f2_
 let f7_:List (SB×Bool):=p0_::p1_::p2_::p3_::((.eq x8_ (.c 141)),.true)::f3_
 let f8_:List (SB×Bool):=p0_::p1_::p2_::p3_::((.eq x8_ (.c 141)),.false)::f3_
 [(.fin (p19_::f7_) 0 ⟨⟨[],[]⟩,[],[],[]⟩ [] []),
  (.fin (p20_::f7_) 0 ⟨⟨[],[]⟩,[],[],[]⟩ [(.eb (.c .true) (.c .false))] []),
  (.fin (p19_::f8_) 0 ⟨⟨[],[]⟩,[],[],[]⟩ [(.eb (.c .true) (.c .false))] []),
  (.fin (p20_::f8_) 0 ⟨⟨[],[]⟩,[],[],[]⟩ [(.eb (.c .true) (.c .false))] []),
  (.fin (p19_::f6_) 0 ⟨⟨[],[]⟩,[],[],[]⟩ [(.eb (.c .true) (.c .false))] []),
  (.fin (p20_::f6_) 0 ⟨⟨[],[]⟩,[],[],[]⟩ [(.eb (.c .true) (.c .false))] []),
  (.fin (p19_::f5_) 0 ⟨⟨[],[]⟩,[],[],[]⟩ [(.eb (.c .true) (.c .false))] []),
  (.fin (p20_::f5_) 0 ⟨⟨[],[]⟩,[],[],[]⟩ [(.eb (.c .true) (.c .false))] []),
  (.fin (p19_::f4_) 0 ⟨⟨[],[]⟩,[],[],[]⟩ [(.eb (.c .true) (.c .false))] []),
  (.fin (p20_::f4_) 0 ⟨⟨[],[]⟩,[],[],[]⟩ [(.eb (.c .true) (.c .false))] [])]
noncomputable def cWorks_run (T:Tm):=(ex (ccOf Tryz.prog BF [24,26,29,32,53,56,76,79] cWorks) ((fun cc=>[cFill.ent cc]) (ccOf Tryz.prog BF [24,26,29,32,53,56,76,79] cWorks)) (dw (ccOf Tryz.prog BF [24,26,29,32,53,56,76,79] cWorks) ((fun cc=>[cFill.ent cc]) (ccOf Tryz.prog BF [24,26,29,32,53,56,76,79] cWorks)) 1500 12) (stopX [0,1,2,3,4,5,6,7,8,9,10,11,12,13,14,15,16,17,18,19,20,21,22,23,24,25,26,27,28,29,30,31,32,33,34,35,36,37,38,39,40,41,42,43,44,45,46,47,48,49,50,51,52,53,54,55,56,57,58,59,60,61,62,63,64,65,66,67,68,69,70,71,72,73,74,75,76,77,78,79,80,81,82,83,84,85,86,87,88,89,90,91,92,93,94,95,96,97,98,99,100,101,102,103,104,105,106,107,108,109,110,111,112,113,114,115,116,117,118,119,120,121,122,123,124,125,126,127,128,129,130,131,132,133,134,135,136,137,138,139,140,141,142,143,144,145,146,147,148,149,150,151,152,153,154,155,156,157,158,159,160,161,162,163,164,165,166,167,168,169,170,171,172,173,174,175,176,177,178,179,180,181,182,183,184,185,186,187,188,189,190,191,192,193,194,195,196,197,198,199,200,201,202,203,204,205,206,207,208,209,210,211,212,213,214,215,216,217,218,219,220,221,222,223,224,225,226,227,228,229,230,231,232,233,234,235,236,237,238,239,240,241,242,243,244,245,246,247,248,249,250,251,252,253,254,255,256,257,258,259,260,261,262,263,264,265,266,267,268,269,270,271,272,273,274,275,276,277,278,279,280,281,282,283,284,285,286,287,288,289,290,291,292,293,294,295,296,297,298,299,300,301,302,303,304,305,306,307,308,309,310,311,312,313,314,315,316,317,318,319,320,321,322,323,324,325,326,327,328,329,330,331,332,333,334,335,336,337,338,339,340,341,342,343,344,345,346,347,348,349,350,351,352,353,354,355,356,357,358,359,360,361,362,363,364,365,366,367,368,369,370,371,372,373,374,375,376,377,378,379,380,381,382,383,384,385,386,387,388,389,390,391,392,393,394,395,396,397,398,399]) 6000 T.f T.fs T.H).lfs (ccOf Tryz.prog BF [24,26,29,32,53,56,76,79] cWorks) ((tm0 cWorks Tryz.f8 (Tryz.f8.body.getD .skip))::[]) cWorks.os
theorem cWorks_h0:cWorks_run (tm0 cWorks Tryz.f8 (Tryz.f8.body.getD .skip))=some cWorks_L0:=by kernel_rfl
def cWorks_inv:(Nat→Int)→(Nat→Bool)→Nat→(Nat→Int)→(Nat→Bool)→Prop:=fun _ _ _ _ _=>True
noncomputable def cWorks_mu:(Nat→Int)→(Nat→Bool)→Nat→(Nat→Int)→(Nat→Bool)→Nat:=fun _ _ _ _ _=>0
def cWorks_ob (k:Nat) (l:List Lf):Prop:=∀ (kv:Kv) (iv0:Nat→Int) (bv0:Nat→Bool),InB cWorks.B iv0→FT (sta FI FB kv iv0 bv0) (dlt dyn0) cWorks.F→∀ (iv:Nat→Int) (bv:Nat→Bool),Agr 0 iv0 bv0 iv bv→cWorks_inv iv0 bv0 k iv bv→∀ lf∈l,LfT (sta FI FB kv) cWorks.os (cWorks_inv iv0 bv0) (cWorks_mu iv0 bv0) k iv bv lf
set_option maxHeartbeats 0 in
theorem cWorks_o0:cWorks_ob 0 cWorks_L0:=by
 intro kv iv0 bv0 hin hF iv bv ha hi
 unfold cWorks_L0
 refine List.forall_mem_cons.2 ⟨?_,List.forall_mem_cons.2 ⟨?_,List.forall_mem_cons.2 ⟨?_,List.forall_mem_cons.2 ⟨?_,List.forall_mem_cons.2 ⟨?_,List.forall_mem_cons.2 ⟨?_,List.forall_mem_cons.2 ⟨?_,List.forall_mem_cons.2 ⟨?_,List.forall_mem_cons.2 ⟨?_,List.forall_mem_cons.2 ⟨?_,List.forall_mem_nil _⟩⟩⟩⟩⟩⟩⟩⟩⟩⟩
 all_goals
  intro δ hf
 all_goals
  simp only [FT,TP,SB.tp,SI.tv,sta,IB.eval,and_true,true_and,ObsT,Ob.Tv,rowT,kix,In.tiv,↓tbvT,In.tbv,get_cons,get_nil,reduceIte,Nat.reduceEqDiff,Int.reduceToNat,Int.reduceAdd,Int.reduceSub,Int.reduceLE,Int.reduceLT,Int.reduceEq,ne_eq,Bool.false_eq_true,not_true_eq_false,not_false_eq_true,true_iff,false_iff,iff_true,iff_false,false_implies,implies_true,decT,decide_true,decide_false,Bool.decide_eq_true,ap2,pb2,FI_3,FI_4,FI_6,FI_8,FI_9,FI_8c,FI_8z,FB_0,FB_2,Int.toNat_natCast,Int.toNat_zero,FI_20,cWorks_inv,cWorks_mu,cWorks,o1,othT,o1] at hf hi ⊢
 all_goals
  simp (disch:=decide +kernel) only [tab_at] at hf
 all_goals
  first
  | trivial
  | exact absurd (by6 (st6 (by decide) (st6 (by decide) (st6 (by decide) (st6 (by decide) fun _ _=>rfl))))) hf.1
  | (replace hf:=hf.2;repeat (first | exact absurd (by decide +kernel) hf.1 | replace hf:=hf.2))
theorem cWorks_c:LsC ((tm0 cWorks Tryz.f8 (Tryz.f8.body.getD .skip))::[]) cWorks.os [cWorks_L0]:=by
 unfold cWorks_L0
 exact ⟨List.forall_mem_cons.2 ⟨⟨⟨_,rfl,rfl⟩,by kernel_rfl⟩,List.forall_mem_cons.2 ⟨⟨⟨_,rfl,rfl⟩,by kernel_rfl⟩,List.forall_mem_cons.2 ⟨⟨⟨_,rfl,rfl⟩,by kernel_rfl⟩,List.forall_mem_cons.2 ⟨⟨⟨_,rfl,rfl⟩,by kernel_rfl⟩,List.forall_mem_cons.2 ⟨⟨⟨_,rfl,rfl⟩,by kernel_rfl⟩,List.forall_mem_cons.2 ⟨⟨⟨_,rfl,rfl⟩,by kernel_rfl⟩,List.forall_mem_cons.2 ⟨⟨⟨_,rfl,rfl⟩,by kernel_rfl⟩,List.forall_mem_cons.2 ⟨⟨⟨_,rfl,rfl⟩,by kernel_rfl⟩,List.forall_mem_cons.2 ⟨⟨⟨_,rfl,rfl⟩,by kernel_rfl⟩,List.forall_mem_cons.2 ⟨⟨⟨_,rfl,rfl⟩,by kernel_rfl⟩,List.forall_mem_nil _⟩⟩⟩⟩⟩⟩⟩⟩⟩⟩,trivial⟩
theorem cWorks_ok:cWorks.Ok Tryz.prog FI FB:=
 Con.of_plain (body:=Tryz.f8.body.getD .skip) pok fiok (EntsFor.consM cFill_ok EntsFor.nil) cWorks Tryz.func8 (by kernel_rfl) 0 [] (by kernel_rfl) [cWorks_L0] ⟨cWorks_h0,trivial⟩ cWorks_c
  cWorks_inv cWorks_mu (fun _ _ _=>trivial) fun kv iv0 bv0 hin hF k l iv bv hk ha hi=>match k,hk,hi with
  | 0,hk,hi=>by
    cases hk
    exact cWorks_o0 kv iv0 bv0 hin hF iv bv ha hi
  | k+1,hk,_=>by simp at hk
end Go.Sx.Mg
