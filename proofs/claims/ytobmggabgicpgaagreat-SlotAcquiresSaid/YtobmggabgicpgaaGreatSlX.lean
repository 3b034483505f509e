/- Slots: SlotAcquires, by contract. -/
import Derived.Test.YtobmggabgicpgaaGreatSlL2
import Derived.Test.YtobmggabgicpgaaGreatSlW
namespace Go.Sx.Sl
set_option linter.unusedVariables false
set_option linter.unusedSimpArgs false
set_option maxRecDepth 100000
set_option maxHeartbeats 0
noncomputable section
open Go Go.Sx Go.Sx.Ti Go.Proofs
def bX:List (Nat×Int×Int):=[i64b 4,i64b 5,i64b 6,i64b 7,i64b 8,i64b 9,(1,0,9223372036854775807),(2,0,-1)]
def wX:SV:=.ag [.it .i64 (.v 7),.it .i64 (.v 8),.it .i64 (.v 9)]
def lAcq:Con:=⟨3,[0,1,2,3,4,5,6,7,8,9],[shV,lS,wX],gS,bX,fS,o1 (.bo (.c true))⟩
def lAcq0:Con:=⟨3,[4,5,6,7,8,9],[shV,.sn,wX],[],[i64b 4,i64b 5,i64b 6,i64b 7,i64b 8,i64b 9],[],o1 (.bo (.c true))⟩
def lentC (c n:Int):Int:=setC (setC (setC (setC (setC (setC (setC (setC c n 0 77) n 1 0) n 2 0) n 3 0) n 4 0) n 5 0) n 6 0) n 7 0
theorem lent_def (c n:Int):setC (setC (setC (setC (setC (setC (setC (setC c n 0 77) n 1 0) n 2 0) n 3 0) n 4 0) n 5 0) n 6 0) n 7 0=lentC c n:=rfl
def rowC (c i u k m p d v f w:Int):Int:=setC (setC (setC (setC (setC (setC (setC (setC c i 0 u) i 1 k) i 2 m) i 3 p) i 4 d) i 5 v) i 6 f) i 7 w
theorem row_def (c i u k m p d v f w:Int):setC (setC (setC (setC (setC (setC (setC (setC c i 0 u) i 1 k) i 2 m) i 3 p) i 4 d) i 5 v) i 6 f) i 7 w=rowC c i u k m p d v f w:=rfl
theorem eqR_refl (c n:Int):eqR c c n:=fun _ _=>⟨fun _ _=>rfl,rfl⟩
theorem eqR_set {c d n:Int} (h:eqR c d n) (i f x:Int):eqR (setC c i f x) (setC d i f x) n:=fun j hj=>by
 obtain ⟨h1,h2⟩:=h j hj
 refine ⟨fun f' hf=>?_,?_⟩
 ·rw [fl_set,fl_set,h1 f' hf]
 ·rw [flu_set,flu_set,h2]
theorem eqR_row_ {c d n:Int} (h:eqR c d n) (i u k m p e v f w:Int):eqR (rowC c i u k m p e v f w) (rowC d i u k m p e v f w) n:=by
 unfold rowC
 exact eqR_set (eqR_set (eqR_set (eqR_set (eqR_set (eqR_set (eqR_set (eqR_set h _ _ _) _ _ _) _ _ _) _ _ _) _ _ _) _ _ _) _ _ _) _ _ _
theorem eqR_out {c i f x n:Int} (hi:n≤i) (h0:0≤n):eqR (setC c i f x) c n:=fun j hj=>by
 refine ⟨fun f' hf=>?_,?_⟩
 ·rw [fl_set,if_neg (by omega)]
 ·rw [flu_set,if_neg (by omega)]
theorem eqR_trans {a b c n:Int} (h:eqR a b n) (h':eqR b c n):eqR a c n:=fun j hj=>⟨fun f hf=>((h j hj).1 f hf).trans ((h' j hj).1 f hf),(h j hj).2.trans (h' j hj).2⟩
theorem lent_eqR (c:Int) {n:Int} (h0:0≤n):eqR (lentC c n) c n:=by
 unfold lentC
 have o:=fun a f x=>@eqR_out a n f x n (Int.le_refl _) h0
 exact eqR_trans (o _ _ _) (eqR_trans (o _ _ _) (eqR_trans (o _ _ _) (eqR_trans (o _ _ _) (eqR_trans (o _ _ _) (eqR_trans (o _ _ _) (eqR_trans (o _ _ _) (o _ _ _)))))))
theorem chk_cases (c n a b e:Int):(chkI c n a b e=0∧shpS a b e∧n=e∧badI c n < 0)∨(chkI c n a b e=2∧¬ (shpS a b e∧n=e∧badI c n < 0)):=by
 by_cases h:shpS a b e∧n=e∧badI c n < 0
 ·exact .inl ⟨chk_0 h.1 h.2.1 h.2.2,h⟩
 ·exact .inr ⟨chk_2 h,h⟩
theorem fre_lt (c n:Int):freI c n < n∨freI c n < 0:=by
 unfold freI
 rcases fstI_cases (fun j=>fl c j 1≠1∧fl c j 1≠2∧fl c j 0 < 1099511627776) (min n 64) with ⟨e,_⟩ | ⟨_,e,_⟩<;>omega
theorem sameS_of {c d n:Int} (h:eqR c d n):sameS c n d n:=⟨rfl,h⟩
def lAcq_L0:List Lf:=
 let p0_:SB×Bool:=((.le (.c 1) (.v 4)),.true)
 let p1_:SB×Bool:=((.le (.v 1) (.d 2)),.true)
 let p2_:SB×Bool:=((.le (.c 1) (.v 5)),.true)
 let p3_:SB×Bool:=((.le (.v 5) (.c 8)),.true)
 let p4_:SB×Bool:=((.le (.c 1) (.v 6)),.true)
 let p5_:SB×Bool:=((.le (.v 6) (.c 4)),.true)
 let p6_:SB×Bool:=((.le (.c 1) (.v 4)),.false)
 let p7_:SB×Bool:=((.le (.v 4) (.c 64)),.true)
 let p8_:SB×Bool:=((.le (.c 1) (.v 5)),.false)
 let p9_:SB×Bool:=((.le (.v 5) (.c 8)),.false)
 let p10_:SB×Bool:=((.le (.c 1) (.v 6)),.false)
 let p11_:SB×Bool:=((.le (.v 6) (.c 4)),.false)
 let p12_:SB×Bool:=((.le (.v 4) (.c 64)),.false)
 let x13_:SI:=(.ap 22 (.v 0) (.v 1) (.v 4) (.v 5) (.v 6) (.c 0))
 let x14_:SI:=(.ap 21 (.v 0) (.v 1) (.c 0) (.c 0) (.c 0) (.c 0))
 let p15_:SB×Bool:=((.ap 20 (.c 1) (.c 1) (.v 7) (.v 8) (.v 9) (.c 0)),.true)
 let p16_:SB×Bool:=((.ap 24 (.c 0) (.v 6) (.c 0) (.v 6) (.c 0) (.c 0)),.true)
 let p17_:SB×Bool:=((.ap 20 (.c 1) (.c 1) (.v 7) (.v 8) (.v 9) (.c 0)),.false)
 let p18_:SB×Bool:=((.ap 24 (.c 0) (.v 6) (.c 0) (.v 6) (.c 0) (.c 0)),.false)
 let p19_:SB×Bool:=((.eq x13_ (.c 0)),.true)
 let p20_:SB×Bool:=((.lt x14_ (.v 1)),.true)
 let p21_:SB×Bool:=((.le (.c 0) x14_),.true)
 let p22_:SB×Bool:=((.eq x13_ (.c 0)),.false)
 let p23_:SB×Bool:=((.le (.c 0) x14_),.false)
 let x24_:SI:=(.ap 8 (.ap 8 (.ap 8 (.ap 8 (.ap 8 (.ap 8 (.ap 8 (.ap 8 (.v 0) (.v 1) (.c 0) (.c 77) (.c 0) (.c 0)) (.v 1) (.c 1) (.c 0) (.c 0) (.c 0)) (.v 1) (.c 2) (.c 0) (.c 0) (.c 0)) (.v 1) (.c 3) (.c 0) (.c 0) (.c 0)) (.v 1) (.c 4) (.c 0) (.c 0) (.c 0)) (.v 1) (.c 5) (.c 0) (.c 0) (.c 0)) (.v 1) (.c 6) (.c 0) (.c 0) (.c 0)) (.v 1) (.c 7) (.c 0) (.c 0) (.c 0))
 let x25_:SI:=(.ap 22 x24_ (.v 1) (.v 4) (.v 5) (.v 6) (.c 0))
 let x26_:SI:=(.ap 21 x24_ (.v 1) (.c 0) (.c 0) (.c 0) (.c 0))
 let p27_:SB×Bool:=((.ap 24 x24_ (.v 1) (.v 0) (.v 1) (.c 0) (.c 0)),.true)
 let p28_:SB×Bool:=((.ap 24 x24_ (.v 1) (.v 0) (.v 1) (.c 0) (.c 0)),.false)
 let p29_:SB×Bool:=((.eq x25_ (.c 2)),.true)
 let p30_:SB×Bool:=((.eq x25_ (.c 2)),.false)
 let p31_:SB×Bool:=((.eq x26_ x14_),.true)
 let p32_:SB×Bool:=((.eq x26_ x14_),.false)
 let x33_:SI:=(.ap 8 (.ap 8 (.ap 8 (.ap 8 (.ap 8 (.ap 8 (.ap 8 (.ap 8 (.v 0) x14_ (.c 0) (.wk .i64 (.op .add (.ap 3 (.v 0) x14_ (.c 0) (.c 0) (.c 0) (.c 0)) (.c 1))) (.c 0) (.c 0)) x14_ (.c 1) (.c 1) (.c 0) (.c 0)) x14_ (.c 2) (.v 7) (.c 0) (.c 0)) x14_ (.c 3) (.v 8) (.c 0) (.c 0)) x14_ (.c 4) (.v 9) (.c 0) (.c 0)) x14_ (.c 5) (.c 0) (.c 0) (.c 0)) x14_ (.c 6) (.c 0) (.c 0) (.c 0)) x14_ (.c 7) (.c 0) (.c 0) (.c 0))
 let x34_:SI:=(.ap 8 (.ap 8 (.ap 8 (.ap 8 (.ap 8 (.ap 8 (.ap 8 (.ap 8 x24_ x26_ (.c 0) (.wk .i64 (.op .add (.ap 3 x24_ x26_ (.c 0) (.c 0) (.c 0) (.c 0)) (.c 1))) (.c 0) (.c 0)) x26_ (.c 1) (.c 1) (.c 0) (.c 0)) x26_ (.c 2) (.v 7) (.c 0) (.c 0)) x26_ (.c 3) (.v 8) (.c 0) (.c 0)) x26_ (.c 4) (.v 9) (.c 0) (.c 0)) x26_ (.c 5) (.c 0) (.c 0) (.c 0)) x26_ (.c 6) (.c 0) (.c 0) (.c 0)) x26_ (.c 7) (.c 0) (.c 0) (.c 0))
 let p35_:SB×Bool:=((.ap 24 x34_ (.v 1) x33_ (.v 1) (.c 0) (.c 0)),.true)
 let p36_:SB×Bool:=((.ap 24 x34_ (.v 1) x33_ (.v 1) (.c 0) (.c 0)),.false)
 let f0_:List (SB×Bool):=[((.le (.v 1) (.v 3)),.true),((.le (.c 0) (.v 3)),.true)]
 let f1_:List (SB×Bool):=((.le (.op .add (.v 1) (.c 1)) (.d 1)),.true)::((.le (.v 1) (.d 0)),.true)::((.le (.v 1) (.c 20)),.true)::f0_
 let f2_:List (SB×Bool):=((.eq x25_ (.c 0)),.true)::f1_
 let f3_:List (SB×Bool):=((.eq x25_ (.c 0)),.false)::f1_
 let f4_:List (SB×Bool):=p15_::f2_
 let f5_:List (SB×Bool):=p17_::f2_
 let f6_:List (SB×Bool):=p19_::f3_
 let f7_:List (SB×Bool):=p22_::f3_
 let f8_:List (SB×Bool):=((.le (.c 0) x26_),.false)::f4_
 let f9_:List (SB×Bool):=p19_::f5_
 let f10_:List (SB×Bool):=p22_::f5_
 let f11_:List (SB×Bool):=p15_::f6_
 let f12_:List (SB×Bool):=p17_::f6_
 let f13_:List (SB×Bool):=p0_::f7_
 let f14_:List (SB×Bool):=p6_::f7_
 let f15_:List (SB×Bool):=p19_::f8_
 let f16_:List (SB×Bool):=p22_::f8_
 let f17_:List (SB×Bool):=p0_::f9_
 let f18_:List (SB×Bool):=p6_::f9_
 let f19_:List (SB×Bool):=p0_::f10_
 let f20_:List (SB×Bool):=p23_::f11_
 let f21_:List (SB×Bool):=p0_::f12_
 let f22_:List (SB×Bool):=p7_::f13_
 let f23_:List (SB×Bool):=p12_::f13_
 let f24_:List (SB×Bool):=p29_::f14_
 let f25_:List (SB×Bool):=p1_::((.lt x26_ (.v 1)),.true)::((.le (.c 0) x26_),.true)::f4_
 let f26_:List (SB×Bool):=p23_::f15_
 let f27_:List (SB×Bool):=p0_::f16_
 let f28_:List (SB×Bool):=p7_::f17_
 let f29_:List (SB×Bool):=p12_::f17_
 let f30_:List (SB×Bool):=p7_::f19_
 let f31_:List (SB×Bool):=p0_::f20_
 let f32_:List (SB×Bool):=p7_::f21_
 let f33_:List (SB×Bool):=p2_::f22_
 let f34_:List (SB×Bool):=p8_::f22_
 let f35_:List (SB×Bool):=p29_::f23_
 let f36_:List (SB×Bool):=p19_::f25_
 let f37_:List (SB×Bool):=p22_::f25_
 let f38_:List (SB×Bool):=p0_::f26_
 let f39_:List (SB×Bool):=p6_::f26_
 let f40_:List (SB×Bool):=p7_::f27_
 let f41_:List (SB×Bool):=p2_::f28_
 let f42_:List (SB×Bool):=p8_::f28_
 let f43_:List (SB×Bool):=p2_::f30_
 let f44_:List (SB×Bool):=p1_::p20_::p21_::f11_
 let f45_:List (SB×Bool):=p7_::f31_
 let f46_:List (SB×Bool):=p2_::f32_
 let f47_:List (SB×Bool):=p3_::f33_
 let f48_:List (SB×Bool):=p9_::f33_
 let f49_:List (SB×Bool):=p29_::f34_
 let f50_:List (SB×Bool):=p23_::f36_
 let f51_:List (SB×Bool):=p0_::f37_
 let f52_:List (SB×Bool):=p1_::p20_::p21_::f15_
 let f53_:List (SB×Bool):=p7_::f38_
 let f54_:List (SB×Bool):=p12_::f38_
 let f55_:List (SB×Bool):=p2_::f40_
 let f56_:List (SB×Bool):=p3_::f41_
 let f57_:List (SB×Bool):=p9_::f41_
 let f58_:List (SB×Bool):=p3_::f43_
 let f59_:List (SB×Bool):=p0_::f44_
 let f60_:List (SB×Bool):=p2_::f45_
 let f61_:List (SB×Bool):=p3_::f46_
 let f62_:List (SB×Bool):=p4_::f47_
 let f63_:List (SB×Bool):=p10_::f47_
 let f64_:List (SB×Bool):=p29_::f48_
 let f65_:List (SB×Bool):=p0_::f50_
 let f66_:List (SB×Bool):=p7_::f51_
 let f67_:List (SB×Bool):=p0_::f52_
 let f68_:List (SB×Bool):=p2_::f53_
 let f69_:List (SB×Bool):=p8_::f53_
 let f70_:List (SB×Bool):=p3_::f55_
 let f71_:List (SB×Bool):=p4_::f56_
 let f72_:List (SB×Bool):=p10_::f56_
 let f73_:List (SB×Bool):=p4_::f58_
 let f74_:List (SB×Bool):=p7_::f59_
 let f75_:List (SB×Bool):=p3_::f60_
 let f76_:List (SB×Bool):=p4_::f61_
 let f77_:List (SB×Bool):=p5_::f62_
 let f78_:List (SB×Bool):=p11_::f62_
 let f79_:List (SB×Bool):=p29_::f63_
 let f80_:List (SB×Bool):=((.le (.v 1) (.d 3)),.true)::p20_::p21_::f36_
 let f81_:List (SB×Bool):=p7_::f65_
 let f82_:List (SB×Bool):=p2_::f66_
 let f83_:List (SB×Bool):=p7_::f67_
 let f84_:List (SB×Bool):=p3_::f68_
 let f85_:List (SB×Bool):=p9_::f68_
 let f86_:List (SB×Bool):=p4_::f70_
 let f87_:List (SB×Bool):=p5_::f71_
 let f88_:List (SB×Bool):=p11_::f71_
 let f89_:List (SB×Bool):=p2_::f74_
 let f90_:List (SB×Bool):=p4_::f75_
 let f91_:List (SB×Bool):=p29_::f77_
 let f92_:List (SB×Bool):=p29_::f78_
 let f93_:List (SB×Bool):=p0_::f80_
 let f94_:List (SB×Bool):=p6_::f80_
 let f95_:List (SB×Bool):=p2_::f81_
 let f96_:List (SB×Bool):=p3_::f82_
 let f97_:List (SB×Bool):=p2_::f83_
 let f98_:List (SB×Bool):=p4_::f84_
 let f99_:List (SB×Bool):=p10_::f84_
 let f100_:List (SB×Bool):=p27_::f87_
 let f101_:List (SB×Bool):=p3_::f89_
 let f102_:List (SB×Bool):=p27_::f91_
 let f103_:List (SB×Bool):=p7_::f93_
 let f104_:List (SB×Bool):=p12_::f93_
 let f105_:List (SB×Bool):=p35_::f94_
 let f106_:List (SB×Bool):=p3_::f95_
 let f107_:List (SB×Bool):=p4_::f96_
 let f108_:List (SB×Bool):=p3_::f97_
 let f109_:List (SB×Bool):=p5_::f98_
 let f110_:List (SB×Bool):=p11_::f98_
 let f111_:List (SB×Bool):=p4_::f101_
 let f112_:List (SB×Bool):=p2_::f103_
 let f113_:List (SB×Bool):=p8_::f103_
 let f114_:List (SB×Bool):=p35_::f104_
 let f115_:List (SB×Bool):=p31_::f105_
 let f116_:List (SB×Bool):=p4_::f106_
 let f117_:List (SB×Bool):=p4_::f108_
 let f118_:List (SB×Bool):=p27_::f109_
 let f119_:List (SB×Bool):=p3_::f112_
 let f120_:List (SB×Bool):=p9_::f112_
 let f121_:List (SB×Bool):=p35_::f113_
 let f122_:List (SB×Bool):=p31_::f114_
 let f123_:List (SB×Bool):=p4_::f119_
 let f124_:List (SB×Bool):=p10_::f119_
 let f125_:List (SB×Bool):=p35_::f120_
 let f126_:List (SB×Bool):=p31_::f121_
 let f127_:List (SB×Bool):=p5_::f123_
 let f128_:List (SB×Bool):=p11_::f123_
 let f129_:List (SB×Bool):=p35_::f124_
 let f130_:List (SB×Bool):=p31_::f125_
 let f131_:List (SB×Bool):=p35_::f127_
 let f132_:List (SB×Bool):=p35_::f128_
 let f133_:List (SB×Bool):=p31_::f129_
 let f134_:List (SB×Bool):=p31_::f131_
 let f135_:List (SB×Bool):=p31_::f132_
 let f136_:List (SB×Bool):=p27_::f134_
 [(.fin (p16_::f136_) 0 ⟨⟨[],[]⟩,[],[],[]⟩ [] []),
  (.fin (p18_::f136_) 0 ⟨⟨[],[]⟩,[],[],[]⟩ [(.eb (.c .true) (.c .false))] []),
  (.fin (p28_::f134_) 0 ⟨⟨[],[]⟩,[],[],[]⟩ [(.eb (.c .true) (.c .false))] []),
  (.fin (p32_::f131_) 0 ⟨⟨[],[]⟩,[],[],[]⟩ [(.eb (.c .true) (.c .false))] []),
  (.fin (p36_::f127_) 0 ⟨⟨[],[]⟩,[],[],[]⟩ [(.eb (.c .true) (.c .false))] []),
  (.fin (p27_::f135_) 0 ⟨⟨[],[]⟩,[],[],[]⟩ [] []),
  (.fin (p28_::f135_) 0 ⟨⟨[],[]⟩,[],[],[]⟩ [(.eb (.c .true) (.c .false))] []),
  (.fin (p32_::f132_) 0 ⟨⟨[],[]⟩,[],[],[]⟩ [(.eb (.c .true) (.c .false))] []),
  (.fin (p36_::f128_) 0 ⟨⟨[],[]⟩,[],[],[]⟩ [(.eb (.c .true) (.c .false))] []),
  (.fin (p27_::f133_) 0 ⟨⟨[],[]⟩,[],[],[]⟩ [] []),
  (.fin (p28_::f133_) 0 ⟨⟨[],[]⟩,[],[],[]⟩ [(.eb (.c .true) (.c .false))] []),
  (.fin (p32_::f129_) 0 ⟨⟨[],[]⟩,[],[],[]⟩ [(.eb (.c .true) (.c .false))] []),
  (.fin (p36_::f124_) 0 ⟨⟨[],[]⟩,[],[],[]⟩ [(.eb (.c .true) (.c .false))] []),
  (.fin (p27_::f130_) 0 ⟨⟨[],[]⟩,[],[],[]⟩ [] []),
  (.fin (p28_::f130_) 0 ⟨⟨[],[]⟩,[],[],[]⟩ [(.eb (.c .true) (.c .false))] []),
  (.fin (p32_::f125_) 0 ⟨⟨[],[]⟩,[],[],[]⟩ [(.eb (.c .true) (.c .false))] []),
  (.fin (p36_::f120_) 0 ⟨⟨[],[]⟩,[],[],[]⟩ [(.eb (.c .true) (.c .false))] []),
  (.fin (p27_::f126_) 0 ⟨⟨[],[]⟩,[],[],[]⟩ [] []),
  (.fin (p28_::f126_) 0 ⟨⟨[],[]⟩,[],[],[]⟩ [(.eb (.c .true) (.c .false))] []),
  (.fin (p32_::f121_) 0 ⟨⟨[],[]⟩,[],[],[]⟩ [(.eb (.c .true) (.c .false))] []),
  (.fin (p36_::f113_) 0 ⟨⟨[],[]⟩,[],[],[]⟩ [(.eb (.c .true) (.c .false))] []),
  (.fin (p27_::f122_) 0 ⟨⟨[],[]⟩,[],[],[]⟩ [] []),
  (.fin (p28_::f122_) 0 ⟨⟨[],[]⟩,[],[],[]⟩ [(.eb (.c .true) (.c .false))] []),
  (.fin (p32_::f114_) 0 ⟨⟨[],[]⟩,[],[],[]⟩ [(.eb (.c .true) (.c .false))] []),
  (.fin (p36_::f104_) 0 ⟨⟨[],[]⟩,[],[],[]⟩ [(.eb (.c .true) (.c .false))] []),
  (.fin (p27_::f115_) 0 ⟨⟨[],[]⟩,[],[],[]⟩ [] []),
  (.fin (p28_::f115_) 0 ⟨⟨[],[]⟩,[],[],[]⟩ [(.eb (.c .true) (.c .false))] []),
  (.fin (p32_::f105_) 0 ⟨⟨[],[]⟩,[],[],[]⟩ [(.eb (.c .true) (.c .false))] []),
  (.fin (p36_::f94_) 0 ⟨⟨[],[]⟩,[],[],[]⟩ [(.eb (.c .true) (.c .false))] []),
  (.fin (p5_::f116_) 0 ⟨⟨[],[]⟩,[],[],[]⟩ [(.eb (.c .true) (.c .false))] []),
  (.fin (p11_::f116_) 0 ⟨⟨[],[]⟩,[],[],[]⟩ [(.eb (.c .true) (.c .false))] []),
  (.fin (p10_::f106_) 0 ⟨⟨[],[]⟩,[],[],[]⟩ [(.eb (.c .true) (.c .false))] []),
  (.fin (p9_::f95_) 0 ⟨⟨[],[]⟩,[],[],[]⟩ [(.eb (.c .true) (.c .false))] []),
  (.fin (p8_::f81_) 0 ⟨⟨[],[]⟩,[],[],[]⟩ [(.eb (.c .true) (.c .false))] []),
  (.fin (p12_::f65_) 0 ⟨⟨[],[]⟩,[],[],[]⟩ [(.eb (.c .true) (.c .false))] []),
  (.fin (p6_::f50_) 0 ⟨⟨[],[]⟩,[],[],[]⟩ [(.eb (.c .true) (.c .false))] []),
  (.fin (p5_::f107_) 0 ⟨⟨[],[]⟩,[],[],[]⟩ [(.eb (.c .true) (.c .false))] []),
  (.fin (p11_::f107_) 0 ⟨⟨[],[]⟩,[],[],[]⟩ [(.eb (.c .true) (.c .false))] []),
  (.fin (p10_::f96_) 0 ⟨⟨[],[]⟩,[],[],[]⟩ [(.eb (.c .true) (.c .false))] []),
  (.fin (p9_::f82_) 0 ⟨⟨[],[]⟩,[],[],[]⟩ [(.eb (.c .true) (.c .false))] []),
  (.fin (p8_::f66_) 0 ⟨⟨[],[]⟩,[],[],[]⟩ [(.eb (.c .true) (.c .false))] []),
  (.fin (p12_::f51_) 0 ⟨⟨[],[]⟩,[],[],[]⟩ [(.eb (.c .true) (.c .false))] []),
  (.fin (p6_::f37_) 0 ⟨⟨[],[]⟩,[],[],[]⟩ [(.eb (.c .true) (.c .false))] []),
  (.fin (p5_::f117_) 0 ⟨⟨[],[]⟩,[],[],[]⟩ [(.eb (.c .true) (.c .false))] []),
  (.fin (p11_::f117_) 0 ⟨⟨[],[]⟩,[],[],[]⟩ [(.eb (.c .true) (.c .false))] []),
  (.fin (p10_::f108_) 0 ⟨⟨[],[]⟩,[],[],[]⟩ [(.eb (.c .true) (.c .false))] []),
  (.fin (p9_::f97_) 0 ⟨⟨[],[]⟩,[],[],[]⟩ [(.eb (.c .true) (.c .false))] []),
  (.fin (p8_::f83_) 0 ⟨⟨[],[]⟩,[],[],[]⟩ [(.eb (.c .true) (.c .false))] []),
  (.fin (p12_::f67_) 0 ⟨⟨[],[]⟩,[],[],[]⟩ [(.eb (.c .true) (.c .false))] []),
  (.fin (p6_::f52_) 0 ⟨⟨[],[]⟩,[],[],[]⟩ [(.eb (.c .true) (.c .false))] []),
  (.fin (p16_::f118_) 0 ⟨⟨[],[]⟩,[],[],[]⟩ [] []),
  (.fin (p18_::f118_) 0 ⟨⟨[],[]⟩,[],[],[]⟩ [(.eb (.c .true) (.c .false))] []),
  (.fin (p28_::f109_) 0 ⟨⟨[],[]⟩,[],[],[]⟩ [(.eb (.c .true) (.c .false))] []),
  (.fin (p27_::f110_) 0 ⟨⟨[],[]⟩,[],[],[]⟩ [] []),
  (.fin (p28_::f110_) 0 ⟨⟨[],[]⟩,[],[],[]⟩ [(.eb (.c .true) (.c .false))] []),
  (.fin (p27_::f99_) 0 ⟨⟨[],[]⟩,[],[],[]⟩ [] []),
  (.fin (p28_::f99_) 0 ⟨⟨[],[]⟩,[],[],[]⟩ [(.eb (.c .true) (.c .false))] []),
  (.fin (p27_::f85_) 0 ⟨⟨[],[]⟩,[],[],[]⟩ [] []),
  (.fin (p28_::f85_) 0 ⟨⟨[],[]⟩,[],[],[]⟩ [(.eb (.c .true) (.c .false))] []),
  (.fin (p27_::f69_) 0 ⟨⟨[],[]⟩,[],[],[]⟩ [] []),
  (.fin (p28_::f69_) 0 ⟨⟨[],[]⟩,[],[],[]⟩ [(.eb (.c .true) (.c .false))] []),
  (.fin (p27_::f54_) 0 ⟨⟨[],[]⟩,[],[],[]⟩ [] []),
  (.fin (p28_::f54_) 0 ⟨⟨[],[]⟩,[],[],[]⟩ [(.eb (.c .true) (.c .false))] []),
  (.fin (p27_::f39_) 0 ⟨⟨[],[]⟩,[],[],[]⟩ [] []),
  (.fin (p28_::f39_) 0 ⟨⟨[],[]⟩,[],[],[]⟩ [(.eb (.c .true) (.c .false))] []),
  (.fin (p5_::f86_) 0 ⟨⟨[],[]⟩,[],[],[]⟩ [(.eb (.c .true) (.c .false))] []),
  (.fin (p11_::f86_) 0 ⟨⟨[],[]⟩,[],[],[]⟩ [(.eb (.c .true) (.c .false))] []),
  (.fin (p10_::f70_) 0 ⟨⟨[],[]⟩,[],[],[]⟩ [(.eb (.c .true) (.c .false))] []),
  (.fin (p9_::f55_) 0 ⟨⟨[],[]⟩,[],[],[]⟩ [(.eb (.c .true) (.c .false))] []),
  (.fin (p8_::f40_) 0 ⟨⟨[],[]⟩,[],[],[]⟩ [(.eb (.c .true) (.c .false))] []),
  (.fin (p12_::f27_) 0 ⟨⟨[],[]⟩,[],[],[]⟩ [(.eb (.c .true) (.c .false))] []),
  (.fin (p6_::f16_) 0 ⟨⟨[],[]⟩,[],[],[]⟩ [(.eb (.c .true) (.c .false))] []),
  (.fin (p16_::f100_) 0 ⟨⟨[],[]⟩,[],[],[]⟩ [] []),
  (.fin (p18_::f100_) 0 ⟨⟨[],[]⟩,[],[],[]⟩ [(.eb (.c .true) (.c .false))] []),
  (.fin (p28_::f87_) 0 ⟨⟨[],[]⟩,[],[],[]⟩ [(.eb (.c .true) (.c .false))] []),
  (.fin (p27_::f88_) 0 ⟨⟨[],[]⟩,[],[],[]⟩ [] []),
  (.fin (p28_::f88_) 0 ⟨⟨[],[]⟩,[],[],[]⟩ [(.eb (.c .true) (.c .false))] []),
  (.fin (p27_::f72_) 0 ⟨⟨[],[]⟩,[],[],[]⟩ [] []),
  (.fin (p28_::f72_) 0 ⟨⟨[],[]⟩,[],[],[]⟩ [(.eb (.c .true) (.c .false))] []),
  (.fin (p27_::f57_) 0 ⟨⟨[],[]⟩,[],[],[]⟩ [] []),
  (.fin (p28_::f57_) 0 ⟨⟨[],[]⟩,[],[],[]⟩ [(.eb (.c .true) (.c .false))] []),
  (.fin (p27_::f42_) 0 ⟨⟨[],[]⟩,[],[],[]⟩ [] []),
  (.fin (p28_::f42_) 0 ⟨⟨[],[]⟩,[],[],[]⟩ [(.eb (.c .true) (.c .false))] []),
  (.fin (p27_::f29_) 0 ⟨⟨[],[]⟩,[],[],[]⟩ [] []),
  (.fin (p28_::f29_) 0 ⟨⟨[],[]⟩,[],[],[]⟩ [(.eb (.c .true) (.c .false))] []),
  (.fin (p27_::f18_) 0 ⟨⟨[],[]⟩,[],[],[]⟩ [] []),
  (.fin (p28_::f18_) 0 ⟨⟨[],[]⟩,[],[],[]⟩ [(.eb (.c .true) (.c .false))] []),
  (.fin (p5_::f73_) 0 ⟨⟨[],[]⟩,[],[],[]⟩ [(.eb (.c .true) (.c .false))] []),
  (.fin (p11_::f73_) 0 ⟨⟨[],[]⟩,[],[],[]⟩ [(.eb (.c .true) (.c .false))] []),
  (.fin (p10_::f58_) 0 ⟨⟨[],[]⟩,[],[],[]⟩ [(.eb (.c .true) (.c .false))] []),
  (.fin (p9_::f43_) 0 ⟨⟨[],[]⟩,[],[],[]⟩ [(.eb (.c .true) (.c .false))] []),
  (.fin (p8_::f30_) 0 ⟨⟨[],[]⟩,[],[],[]⟩ [(.eb (.c .true) (.c .false))] []),
  (.fin (p12_::f19_) 0 ⟨⟨[],[]⟩,[],[],[]⟩ [(.eb (.c .true) (.c .false))] []),
  (.fin (p6_::f10_) 0 ⟨⟨[],[]⟩,[],[],[]⟩ [(.eb (.c .true) (.c .false))] []),
  (.fin (p5_::f111_) 0 ⟨⟨[],[]⟩,[],[],[]⟩ [(.eb (.c .true) (.c .false))] []),
  (.fin (p11_::f111_) 0 ⟨⟨[],[]⟩,[],[],[]⟩ [(.eb (.c .true) (.c .false))] []),
  (.fin (p10_::f101_) 0 ⟨⟨[],[]⟩,[],[],[]⟩ [(.eb (.c .true) (.c .false))] []),
  (.fin (p9_::f89_) 0 ⟨⟨[],[]⟩,[],[],[]⟩ [(.eb (.c .true) (.c .false))] []),
  (.fin (p8_::f74_) 0 ⟨⟨[],[]⟩,[],[],[]⟩ [(.eb (.c .true) (.c .false))] []),
  (.fin (p12_::f59_) 0 ⟨⟨[],[]⟩,[],[],[]⟩ [(.eb (.c .true) (.c .false))] []),
  (.fin (p6_::f44_) 0 ⟨⟨[],[]⟩,[],[],[]⟩ [(.eb (.c .true) (.c .false))] []),
  (.fin (p5_::f90_) 0 ⟨⟨[],[]⟩,[],[],[]⟩ [(.eb (.c .true) (.c .false))] []),
  (.fin (p11_::f90_) 0 ⟨⟨[],[]⟩,[],[],[]⟩ [(.eb (.c .true) (.c .false))] []),
  (.fin (p10_::f75_) 0 ⟨⟨[],[]⟩,[],[],[]⟩ [(.eb (.c .true) (.c .false))] []),
  (.fin (p9_::f60_) 0 ⟨⟨[],[]⟩,[],[],[]⟩ [(.eb (.c .true) (.c .false))] []),
  (.fin (p8_::f45_) 0 ⟨⟨[],[]⟩,[],[],[]⟩ [(.eb (.c .true) (.c .false))] []),
  (.fin (p12_::f31_) 0 ⟨⟨[],[]⟩,[],[],[]⟩ [(.eb (.c .true) (.c .false))] []),
  (.fin (p6_::f20_) 0 ⟨⟨[],[]⟩,[],[],[]⟩ [(.eb (.c .true) (.c .false))] []),
  (.fin (p5_::f76_) 0 ⟨⟨[],[]⟩,[],[],[]⟩ [(.eb (.c .true) (.c .false))] []),
  (.fin (p11_::f76_) 0 ⟨⟨[],[]⟩,[],[],[]⟩ [(.eb (.c .true) (.c .false))] []),
  (.fin (p10_::f61_) 0 ⟨⟨[],[]⟩,[],[],[]⟩ [(.eb (.c .true) (.c .false))] []),
  (.fin (p9_::f46_) 0 ⟨⟨[],[]⟩,[],[],[]⟩ [(.eb (.c .true) (.c .false))] []),
  (.fin (p8_::f32_) 0 ⟨⟨[],[]⟩,[],[],[]⟩ [(.eb (.c .true) (.c .false))] []),
  (.fin (p12_::f21_) 0 ⟨⟨[],[]⟩,[],[],[]⟩ [(.eb (.c .true) (.c .false))] []),
  (.fin (p6_::f12_) 0 ⟨⟨[],[]⟩,[],[],[]⟩ [(.eb (.c .true) (.c .false))] []),
  (.fin (p16_::f102_) 0 ⟨⟨[],[]⟩,[],[],[]⟩ [] []),
  (.fin (p18_::f102_) 0 ⟨⟨[],[]⟩,[],[],[]⟩ [(.eb (.c .true) (.c .false))] []),
  (.fin (p28_::f91_) 0 ⟨⟨[],[]⟩,[],[],[]⟩ [(.eb (.c .true) (.c .false))] []),
  (.fin (p30_::f77_) 0 ⟨⟨[],[]⟩,[],[],[]⟩ [(.eb (.c .true) (.c .false))] []),
  (.fin (p27_::f92_) 0 ⟨⟨[],[]⟩,[],[],[]⟩ [] []),
  (.fin (p28_::f92_) 0 ⟨⟨[],[]⟩,[],[],[]⟩ [(.eb (.c .true) (.c .false))] []),
  (.fin (p30_::f78_) 0 ⟨⟨[],[]⟩,[],[],[]⟩ [(.eb (.c .true) (.c .false))] []),
  (.fin (p27_::f79_) 0 ⟨⟨[],[]⟩,[],[],[]⟩ [] []),
  (.fin (p28_::f79_) 0 ⟨⟨[],[]⟩,[],[],[]⟩ [(.eb (.c .true) (.c .false))] []),
  (.fin (p30_::f63_) 0 ⟨⟨[],[]⟩,[],[],[]⟩ [(.eb (.c .true) (.c .false))] []),
  (.fin (p27_::f64_) 0 ⟨⟨[],[]⟩,[],[],[]⟩ [] []),
  (.fin (p28_::f64_) 0 ⟨⟨[],[]⟩,[],[],[]⟩ [(.eb (.c .true) (.c .false))] []),
  (.fin (p30_::f48_) 0 ⟨⟨[],[]⟩,[],[],[]⟩ [(.eb (.c .true) (.c .false))] []),
  (.fin (p27_::f49_) 0 ⟨⟨[],[]⟩,[],[],[]⟩ [] []),
  (.fin (p28_::f49_) 0 ⟨⟨[],[]⟩,[],[],[]⟩ [(.eb (.c .true) (.c .false))] []),
  (.fin (p30_::f34_) 0 ⟨⟨[],[]⟩,[],[],[]⟩ [(.eb (.c .true) (.c .false))] []),
  (.fin (p27_::f35_) 0 ⟨⟨[],[]⟩,[],[],[]⟩ [] []),
  (.fin (p28_::f35_) 0 ⟨⟨[],[]⟩,[],[],[]⟩ [(.eb (.c .true) (.c .false))] []),
  (.fin (p30_::f23_) 0 ⟨⟨[],[]⟩,[],[],[]⟩ [(.eb (.c .true) (.c .false))] []),
  (.fin (p27_::f24_) 0 ⟨⟨[],[]⟩,[],[],[]⟩ [] []),
  (.fin (p28_::f24_) 0 ⟨⟨[],[]⟩,[],[],[]⟩ [(.eb (.c .true) (.c .false))] []),
  (.fin (p30_::f14_) 0 ⟨⟨[],[]⟩,[],[],[]⟩ [(.eb (.c .true) (.c .false))] []),
  (.fin (((.le (.v 1) (.c 20)),.false)::f0_) 0 ⟨⟨[],[]⟩,[],[],[]⟩ [] [])]
def lAcq_run (T:Tm):=(ex (ccOf Tryz.prog BF [55,53,52,54] lAcq) ((fun cc=>[cWorks.ent cc,sAcq.ent cc,rAcq.ent cc,sChk.ent cc,rRt.ent cc,rSame.ent cc]) (ccOf Tryz.prog BF [55,53,52,54] lAcq)) (dw (ccOf Tryz.prog BF [55,53,52,54] lAcq) ((fun cc=>[cWorks.ent cc,sAcq.ent cc,rAcq.ent cc,sChk.ent cc,rRt.ent cc,rSame.ent cc]) (ccOf Tryz.prog BF [55,53,52,54] lAcq)) 1000 4) (stopX [14,60,66,89,91,58,69,93]) 20000 T.f T.fs T.H).lfs (ccOf Tryz.prog BF [55,53,52,54] lAcq) ((tm0 lAcq Tryz.f3 (Tryz.f3.body.getD .skip))::[]) lAcq.os
theorem lAcq_h0:lAcq_run (tm0 lAcq Tryz.f3 (Tryz.f3.body.getD .skip))=some lAcq_L0:=by kernel_rfl
def lAcq_inv:(Nat→Int)→(Nat→Bool)→Nat→(Nat→Int)→(Nat→Bool)→Prop:=fun _ _ _ _ _=>True
def lAcq_mu:(Nat→Int)→(Nat→Bool)→Nat→(Nat→Int)→(Nat→Bool)→Nat:=fun _ _ _ _ _=>0
theorem lAcq_b {iv0:Nat→Int} (hin:InB lAcq.B iv0):(0≤iv0 1∧iv0 1≤9223372036854775807)∧0≤iv0 2∧((-9223372036854775808)≤iv0 4∧iv0 4≤9223372036854775807)∧((-9223372036854775808)≤iv0 5∧iv0 5≤9223372036854775807)∧((-9223372036854775808)≤iv0 6∧iv0 6≤9223372036854775807)∧((-9223372036854775808)≤iv0 7∧iv0 7≤9223372036854775807)∧((-9223372036854775808)≤iv0 8∧iv0 8≤9223372036854775807)∧((-9223372036854775808)≤iv0 9∧iv0 9≤9223372036854775807):=by
 have b1:=hin 1 0 9223372036854775807 (by simp [lAcq,kS,slV,mayV,i64s,i64b,lmap,lS,gS,bS,fS,bdS,shV,o1,frS,stS,chS,mAS,usS,acS,erS,chE,gS2,lS2,bS2,fS2,sAcq,laS,lwS,lcS,kI1,nwB,oLat,bX,wX])
 simp only [Int.reduceLE,reduceIte,Int.reduceNeg] at b1
 have b2:=hin 2 0 (-1) (by simp [lAcq,kS,slV,mayV,i64s,i64b,lmap,lS,gS,bS,fS,bdS,shV,o1,frS,stS,chS,mAS,usS,acS,erS,chE,gS2,lS2,bS2,fS2,sAcq,laS,lwS,lcS,kI1,nwB,oLat,bX,wX])
 simp only [Int.reduceLE,reduceIte,Int.reduceNeg] at b2
 have b4:=hin 4 (-9223372036854775808) 9223372036854775807 (by simp [lAcq,kS,slV,mayV,i64s,i64b,lmap,lS,gS,bS,fS,bdS,shV,o1,frS,stS,chS,mAS,usS,acS,erS,chE,gS2,lS2,bS2,fS2,sAcq,laS,lwS,lcS,kI1,nwB,oLat,bX,wX])
 simp only [Int.reduceLE,reduceIte,Int.reduceNeg] at b4
 have b5:=hin 5 (-9223372036854775808) 9223372036854775807 (by simp [lAcq,kS,slV,mayV,i64s,i64b,lmap,lS,gS,bS,fS,bdS,shV,o1,frS,stS,chS,mAS,usS,acS,erS,chE,gS2,lS2,bS2,fS2,sAcq,laS,lwS,lcS,kI1,nwB,oLat,bX,wX])
 simp only [Int.reduceLE,reduceIte,Int.reduceNeg] at b5
 have b6:=hin 6 (-9223372036854775808) 9223372036854775807 (by simp [lAcq,kS,slV,mayV,i64s,i64b,lmap,lS,gS,bS,fS,bdS,shV,o1,frS,stS,chS,mAS,usS,acS,erS,chE,gS2,lS2,bS2,fS2,sAcq,laS,lwS,lcS,kI1,nwB,oLat,bX,wX])
 simp only [Int.reduceLE,reduceIte,Int.reduceNeg] at b6
 have b7:=hin 7 (-9223372036854775808) 9223372036854775807 (by simp [lAcq,kS,slV,mayV,i64s,i64b,lmap,lS,gS,bS,fS,bdS,shV,o1,frS,stS,chS,mAS,usS,acS,erS,chE,gS2,lS2,bS2,fS2,sAcq,laS,lwS,lcS,kI1,nwB,oLat,bX,wX])
 simp only [Int.reduceLE,reduceIte,Int.reduceNeg] at b7
 have b8:=hin 8 (-9223372036854775808) 9223372036854775807 (by simp [lAcq,kS,slV,mayV,i64s,i64b,lmap,lS,gS,bS,fS,bdS,shV,o1,frS,stS,chS,mAS,usS,acS,erS,chE,gS2,lS2,bS2,fS2,sAcq,laS,lwS,lcS,kI1,nwB,oLat,bX,wX])
 simp only [Int.reduceLE,reduceIte,Int.reduceNeg] at b8
 have b9:=hin 9 (-9223372036854775808) 9223372036854775807 (by simp [lAcq,kS,slV,mayV,i64s,i64b,lmap,lS,gS,bS,fS,bdS,shV,o1,frS,stS,chS,mAS,usS,acS,erS,chE,gS2,lS2,bS2,fS2,sAcq,laS,lwS,lcS,kI1,nwB,oLat,bX,wX])
 simp only [Int.reduceLE,reduceIte,Int.reduceNeg] at b9
 exact ⟨b1,b2.1,b4,b5,b6,b7,b8,b9⟩
def lAcq_ob (k:Nat) (l:List Lf):Prop:=∀ (kv:Kv) (iv0:Nat→Int) (bv0:Nat→Bool),InB lAcq.B iv0→FT (sta FI FB kv iv0 bv0) (dlt dyn0) lAcq.F→∀ (iv:Nat→Int) (bv:Nat→Bool),Agr 10 iv0 bv0 iv bv→lAcq_inv iv0 bv0 k iv bv→∀ lf∈l,LfT (sta FI FB kv) lAcq.os (lAcq_inv iv0 bv0) (lAcq_mu iv0 bv0) k iv bv lf
theorem lAcq_o0:lAcq_ob 0 lAcq_L0:=by
 intro kv iv0 bv0 hin hF iv bv ha hi
 unfold lAcq_L0
 refine List.forall_mem_cons.2 ⟨?_,List.forall_mem_cons.2 ⟨?_,List.forall_mem_cons.2 ⟨?_,List.forall_mem_cons.2 ⟨?_,List.forall_mem_cons.2 ⟨?_,List.forall_mem_cons.2 ⟨?_,List.forall_mem_cons.2 ⟨?_,List.forall_mem_cons.2 ⟨?_,List.forall_mem_cons.2 ⟨?_,List.forall_mem_cons.2 ⟨?_,List.forall_mem_cons.2 ⟨?_,List.forall_mem_cons.2 ⟨?_,List.forall_mem_cons.2 ⟨?_,List.forall_mem_cons.2 ⟨?_,List.forall_mem_cons.2 ⟨?_,List.forall_mem_cons.2 ⟨?_,List.forall_mem_cons.2 ⟨?_,List.forall_mem_cons.2 ⟨?_,List.forall_mem_cons.2 ⟨?_,List.forall_mem_cons.2 ⟨?_,List.forall_mem_cons.2 ⟨?_,List.forall_mem_cons.2 ⟨?_,List.forall_mem_cons.2 ⟨?_,List.forall_mem_cons.2 ⟨?_,List.forall_mem_cons.2 ⟨?_,List.forall_mem_cons.2 ⟨?_,List.forall_mem_cons.2 ⟨?_,List.forall_mem_cons.2 ⟨?_,List.forall_mem_cons.2 ⟨?_,List.forall_mem_cons.2 ⟨?_,List.forall_mem_cons.2 ⟨?_,List.forall_mem_cons.2 ⟨?_,List.forall_mem_cons.2 ⟨?_,List.forall_mem_cons.2 ⟨?_,List.forall_mem_cons.2 ⟨?_,List.forall_mem_cons.2 ⟨?_,List.forall_mem_cons.2 ⟨?_,List.forall_mem_cons.2 ⟨?_,List.forall_mem_cons.2 ⟨?_,List.forall_mem_cons.2 ⟨?_,List.forall_mem_cons.2 ⟨?_,List.forall_mem_cons.2 ⟨?_,List.forall_mem_cons.2 ⟨?_,List.forall_mem_cons.2 ⟨?_,List.forall_mem_cons.2 ⟨?_,List.forall_mem_cons.2 ⟨?_,List.forall_mem_cons.2 ⟨?_,List.forall_mem_cons.2 ⟨?_,List.forall_mem_cons.2 ⟨?_,List.forall_mem_cons.2 ⟨?_,List.forall_mem_cons.2 ⟨?_,List.forall_mem_cons.2 ⟨?_,List.forall_mem_cons.2 ⟨?_,List.forall_mem_cons.2 ⟨?_,List.forall_mem_cons.2 ⟨?_,List.forall_mem_cons.2 ⟨?_,List.forall_mem_cons.2 ⟨?_,List.forall_mem_cons.2 ⟨?_,List.forall_mem_cons.2 ⟨?_,List.forall_mem_cons.2 ⟨?_,List.forall_mem_cons.2 ⟨?_,List.forall_mem_cons.2 ⟨?_,List.forall_mem_cons.2 ⟨?_,List.forall_mem_cons.2 ⟨?_,List.forall_mem_cons.2 ⟨?_,List.forall_mem_cons.2 ⟨?_,List.forall_mem_cons.2 ⟨?_,List.forall_mem_cons.2 ⟨?_,List.forall_mem_cons.2 ⟨?_,List.forall_mem_cons.2 ⟨?_,List.forall_mem_cons.2 ⟨?_,List.forall_mem_cons.2 ⟨?_,List.forall_mem_cons.2 ⟨?_,List.forall_mem_cons.2 ⟨?_,List.forall_mem_cons.2 ⟨?_,List.forall_mem_cons.2 ⟨?_,List.forall_mem_cons.2 ⟨?_,List.forall_mem_cons.2 ⟨?_,List.forall_mem_cons.2 ⟨?_,List.forall_mem_cons.2 ⟨?_,List.forall_mem_cons.2 ⟨?_,List.forall_mem_cons.2 ⟨?_,List.forall_mem_cons.2 ⟨?_,List.forall_mem_cons.2 ⟨?_,List.forall_mem_cons.2 ⟨?_,List.forall_mem_cons.2 ⟨?_,List.forall_mem_cons.2 ⟨?_,List.forall_mem_cons.2 ⟨?_,List.forall_mem_cons.2 ⟨?_,List.forall_mem_cons.2 ⟨?_,List.forall_mem_cons.2 ⟨?_,List.forall_mem_cons.2 ⟨?_,List.forall_mem_cons.2 ⟨?_,List.forall_mem_cons.2 ⟨?_,List.forall_mem_cons.2 ⟨?_,List.forall_mem_cons.2 ⟨?_,List.forall_mem_cons.2 ⟨?_,List.forall_mem_cons.2 ⟨?_,List.forall_mem_cons.2 ⟨?_,List.forall_mem_cons.2 ⟨?_,List.forall_mem_cons.2 ⟨?_,List.forall_mem_cons.2 ⟨?_,List.forall_mem_cons.2 ⟨?_,List.forall_mem_cons.2 ⟨?_,List.forall_mem_cons.2 ⟨?_,List.forall_mem_cons.2 ⟨?_,List.forall_mem_cons.2 ⟨?_,List.forall_mem_cons.2 ⟨?_,List.forall_mem_cons.2 ⟨?_,List.forall_mem_cons.2 ⟨?_,List.forall_mem_cons.2 ⟨?_,List.forall_mem_cons.2 ⟨?_,List.forall_mem_cons.2 ⟨?_,List.forall_mem_cons.2 ⟨?_,List.forall_mem_cons.2 ⟨?_,List.forall_mem_cons.2 ⟨?_,List.forall_mem_cons.2 ⟨?_,List.forall_mem_cons.2 ⟨?_,List.forall_mem_cons.2 ⟨?_,List.forall_mem_cons.2 ⟨?_,List.forall_mem_cons.2 ⟨?_,List.forall_mem_cons.2 ⟨?_,List.forall_mem_cons.2 ⟨?_,List.forall_mem_cons.2 ⟨?_,List.forall_mem_cons.2 ⟨?_,List.forall_mem_cons.2 ⟨?_,List.forall_mem_cons.2 ⟨?_,List.forall_mem_cons.2 ⟨?_,List.forall_mem_cons.2 ⟨?_,List.forall_mem_cons.2 ⟨?_,List.forall_mem_cons.2 ⟨?_,List.forall_mem_cons.2 ⟨?_,List.forall_mem_cons.2 ⟨?_,List.forall_mem_cons.2 ⟨?_,List.forall_mem_cons.2 ⟨?_,List.forall_mem_cons.2 ⟨?_,List.forall_mem_cons.2 ⟨?_,List.forall_mem_cons.2 ⟨?_,List.forall_mem_nil _⟩⟩⟩⟩⟩⟩⟩⟩⟩⟩⟩⟩⟩⟩⟩⟩⟩⟩⟩⟩⟩⟩⟩⟩⟩⟩⟩⟩⟩⟩⟩⟩⟩⟩⟩⟩⟩⟩⟩⟩⟩⟩⟩⟩⟩⟩⟩⟩⟩⟩⟩⟩⟩⟩⟩⟩⟩⟩⟩⟩⟩⟩⟩⟩⟩⟩⟩⟩⟩⟩⟩⟩⟩⟩⟩⟩⟩⟩⟩⟩⟩⟩⟩⟩⟩⟩⟩⟩⟩⟩⟩⟩⟩⟩⟩⟩⟩⟩⟩⟩⟩⟩⟩⟩⟩⟩⟩⟩⟩⟩⟩⟩⟩⟩⟩⟩⟩⟩⟩⟩⟩⟩⟩⟩⟩⟩⟩⟩⟩⟩⟩⟩⟩⟩⟩⟩⟩⟩
 all_goals
  intro δ hf
 all_goals
  obtain ⟨b1,b2,b4,b5,b6,b7,b8,b9⟩:=lAcq_b hin
 all_goals
  have a0:=ha.1 0 (by omega)
  have a1:=ha.1 1 (by omega)
  have a2:=ha.1 2 (by omega)
  have a3:=ha.1 3 (by omega)
  have a4:=ha.1 4 (by omega)
  have a5:=ha.1 5 (by omega)
  have a6:=ha.1 6 (by omega)
  have a7:=ha.1 7 (by omega)
  have a8:=ha.1 8 (by omega)
  have a9:=ha.1 9 (by omega)
 all_goals
  simp only [FT,TP,SB.tp,SI.tv,sta,IB.eval,and_true,true_and,ObsT,Ob.Tv,rowT,kix,In.tiv,↓tbvT,In.tbv,get_cons,get_nil,reduceIte,Nat.reduceEqDiff,Int.reduceToNat,Int.reduceAdd,Int.reduceSub,Int.reduceLE,Int.reduceLT,Int.reduceEq,ne_eq,Bool.false_eq_true,not_true_eq_false,not_false_eq_true,true_iff,false_iff,iff_true,iff_false,false_implies,implies_true,decT,decide_true,decide_false,Bool.decide_eq_true,ap2,pb2,FI_3,FI_3u,FI_8,FI_9,FI_3g,FI_3k,FI_8s,FI_8l,FI_8d,FB_1h,FB_1a,Int.toNat_natCast,Int.toNat_zero,FI_20,FI_21,FI_22,FI_24,FB_20,FB_21,FB_22,FB_24,lAcq_inv,lAcq_mu,lAcq,o1,othT,kS,slV,mayV,i64s,i64b,lmap,lS,gS,bS,fS,bdS,shV,o1,frS,stS,chS,mAS,usS,acS,erS,chE,gS2,lS2,bS2,fS2,sAcq,laS,lwS,lcS,kI1,nwB,oLat,bX,wX,a0,a1,a2,a3,a4,a5,a6,a7,a8,a9] at hf hi ⊢
 all_goals
  try simp only [lent_def] at hf ⊢
 all_goals
  try simp only [row_def] at hf ⊢
 all_goals
  have hq:=lent_eqR (iv0 0) (n:=iv0 1) (by omega)
 all_goals
  have h1:∀ a b e,chkI (lentC (iv0 0) (iv0 1)) (iv0 1) a b e=chkI (iv0 0) (iv0 1) a b e:=fun a b e=>chkI_congr hq
 all_goals
  have h2:=freI_congr hq
 all_goals
  have h3:∀ f,f < iv0 1→0≤f→fl (lentC (iv0 0) (iv0 1)) f.toNat 0=fl (iv0 0) f.toNat 0:=fun f h h0=>(eqR_row hq (by omega)).1
 all_goals
  have h3:=h3 (freI (iv0 0) (iv0 1))
 all_goals
  have h4:=sameS_of hq
 all_goals
  have h5:=fun i u k m p e v f w=>sameS_of (eqR_row_ hq i u k m p e v f w)
 all_goals
  have h6:=sameS_of (eqR_refl 0 (iv0 6))
 all_goals
  have h7:=chk_cases (iv0 0) (iv0 1) (iv0 4) (iv0 5) (iv0 6)
 all_goals
  have h8:=fre_lt (iv0 0) (iv0 1)
 all_goals
  unfold shpS at h7
 all_goals
  try simp only [h1,h2] at hf h3 ⊢
 all_goals
  (repeat' (with_reducible apply And.intro))<;>first
  | omega
  | assumption
  | (unfold inM;omega)
  | exact trivial
  | (clear hin hF ha hq h1 h2;grind)
theorem lAcq_c:LsC ((tm0 lAcq Tryz.f3 (Tryz.f3.body.getD .skip))::[]) lAcq.os [lAcq_L0]:=by
 unfold lAcq_L0
 exact ⟨List.forall_mem_cons.2 ⟨⟨⟨_,rfl,rfl⟩,by kernel_rfl⟩,List.forall_mem_cons.2 ⟨⟨⟨_,rfl,rfl⟩,by kernel_rfl⟩,List.forall_mem_cons.2 ⟨⟨⟨_,rfl,rfl⟩,by kernel_rfl⟩,List.forall_mem_cons.2 ⟨⟨⟨_,rfl,rfl⟩,by kernel_rfl⟩,List.forall_mem_cons.2 ⟨⟨⟨_,rfl,rfl⟩,by kernel_rfl⟩,List.forall_mem_cons.2 ⟨⟨⟨_,rfl,rfl⟩,by kernel_rfl⟩,List.forall_mem_cons.2 ⟨⟨⟨_,rfl,rfl⟩,by kernel_rfl⟩,List.forall_mem_cons.2 ⟨⟨⟨_,rfl,rfl⟩,by kernel_rfl⟩,List.forall_mem_cons.2 ⟨⟨⟨_,rfl,rfl⟩,by kernel_rfl⟩,List.forall_mem_cons.2 ⟨⟨⟨_,rfl,rfl⟩,by kernel_rfl⟩,List.forall_mem_cons.2 ⟨⟨⟨_,rfl,rfl⟩,by kernel_rfl⟩,List.forall_mem_cons.2 ⟨⟨⟨_,rfl,rfl⟩,by kernel_rfl⟩,List.forall_mem_cons.2 ⟨⟨⟨_,rfl,rfl⟩,by kernel_rfl⟩,List.forall_mem_cons.2 ⟨⟨⟨_,rfl,rfl⟩,by kernel_rfl⟩,List.forall_mem_cons.2 ⟨⟨⟨_,rfl,rfl⟩,by kernel_rfl⟩,List.forall_mem_cons.2 ⟨⟨⟨_,rfl,rfl⟩,by kernel_rfl⟩,List.forall_mem_cons.2 ⟨⟨⟨_,rfl,rfl⟩,by kernel_rfl⟩,List.forall_mem_cons.2 ⟨⟨⟨_,rfl,rfl⟩,by kernel_rfl⟩,List.forall_mem_cons.2 ⟨⟨⟨_,rfl,rfl⟩,by kernel_rfl⟩,List.forall_mem_cons.2 ⟨⟨⟨_,rfl,rfl⟩,by kernel_rfl⟩,List.forall_mem_cons.2 ⟨⟨⟨_,rfl,rfl⟩,by kernel_rfl⟩,List.forall_mem_cons.2 ⟨⟨⟨_,rfl,rfl⟩,by kernel_rfl⟩,List.forall_mem_cons.2 ⟨⟨⟨_,rfl,rfl⟩,by kernel_rfl⟩,List.forall_mem_cons.2 ⟨⟨⟨_,rfl,rfl⟩,by kernel_rfl⟩,List.forall_mem_cons.2 ⟨⟨⟨_,rfl,rfl⟩,by kernel_rfl⟩,List.forall_mem_cons.2 ⟨⟨⟨_,rfl,rfl⟩,by kernel_rfl⟩,List.forall_mem_cons.2 ⟨⟨⟨_,rfl,rfl⟩,by kernel_rfl⟩,List.forall_mem_cons.2 ⟨⟨⟨_,rfl,rfl⟩,by kernel_rfl⟩,List.forall_mem_cons.2 ⟨⟨⟨_,rfl,rfl⟩,by kernel_rfl⟩,List.forall_mem_cons.2 ⟨⟨⟨_,rfl,rfl⟩,by kernel_rfl⟩,List.forall_mem_cons.2 ⟨⟨⟨_,rfl,rfl⟩,by kernel_rfl⟩,List.forall_mem_cons.2 ⟨⟨⟨_,rfl,rfl⟩,by kernel_rfl⟩,List.forall_mem_cons.2 ⟨⟨⟨_,rfl,rfl⟩,by kernel_rfl⟩,List.forall_mem_cons.2 ⟨⟨⟨_,rfl,rfl⟩,by kernel_rfl⟩,List.forall_mem_cons.2 ⟨⟨⟨_,rfl,rfl⟩,by kernel_rfl⟩,List.forall_mem_cons.2 ⟨⟨⟨_,rfl,rfl⟩,by kernel_rfl⟩,List.forall_mem_cons.2 ⟨⟨⟨_,rfl,rfl⟩,by kernel_rfl⟩,List.forall_mem_cons.2 ⟨⟨⟨_,rfl,rfl⟩,by kernel_rfl⟩,List.forall_mem_cons.2 ⟨⟨⟨_,rfl,rfl⟩,by kernel_rfl⟩,List.forall_mem_cons.2 ⟨⟨⟨_,rfl,rfl⟩,by kernel_rfl⟩,List.forall_mem_cons.2 ⟨⟨⟨_,rfl,rfl⟩,by kernel_rfl⟩,List.forall_mem_cons.2 ⟨⟨⟨_,rfl,rfl⟩,by kernel_rfl⟩,List.forall_mem_cons.2 ⟨⟨⟨_,rfl,rfl⟩,by kernel_rfl⟩,List.forall_mem_cons.2 ⟨⟨⟨_,rfl,rfl⟩,by kernel_rfl⟩,List.forall_mem_cons.2 ⟨⟨⟨_,rfl,rfl⟩,by kernel_rfl⟩,List.forall_mem_cons.2 ⟨⟨⟨_,rfl,rfl⟩,by kernel_rfl⟩,List.forall_mem_cons.2 ⟨⟨⟨_,rfl,rfl⟩,by kernel_rfl⟩,List.forall_mem_cons.2 ⟨⟨⟨_,rfl,rfl⟩,by kernel_rfl⟩,List.forall_mem_cons.2 ⟨⟨⟨_,rfl,rfl⟩,by kernel_rfl⟩,List.forall_mem_cons.2 ⟨⟨⟨_,rfl,rfl⟩,by kernel_rfl⟩,List.forall_mem_cons.2 ⟨⟨⟨_,rfl,rfl⟩,by kernel_rfl⟩,List.forall_mem_cons.2 ⟨⟨⟨_,rfl,rfl⟩,by kernel_rfl⟩,List.forall_mem_cons.2 ⟨⟨⟨_,rfl,rfl⟩,by kernel_rfl⟩,List.forall_mem_cons.2 ⟨⟨⟨_,rfl,rfl⟩,by kernel_rfl⟩,List.forall_mem_cons.2 ⟨⟨⟨_,rfl,rfl⟩,by kernel_rfl⟩,List.forall_mem_cons.2 ⟨⟨⟨_,rfl,rfl⟩,by kernel_rfl⟩,List.forall_mem_cons.2 ⟨⟨⟨_,rfl,rfl⟩,by kernel_rfl⟩,List.forall_mem_cons.2 ⟨⟨⟨_,rfl,rfl⟩,by kernel_rfl⟩,List.forall_mem_cons.2 ⟨⟨⟨_,rfl,rfl⟩,by kernel_rfl⟩,List.forall_mem_cons.2 ⟨⟨⟨_,rfl,rfl⟩,by kernel_rfl⟩,List.forall_mem_cons.2 ⟨⟨⟨_,rfl,rfl⟩,by kernel_rfl⟩,List.forall_mem_cons.2 ⟨⟨⟨_,rfl,rfl⟩,by kernel_rfl⟩,List.forall_mem_cons.2 ⟨⟨⟨_,rfl,rfl⟩,by kernel_rfl⟩,List.forall_mem_cons.2 ⟨⟨⟨_,rfl,rfl⟩,by kernel_rfl⟩,List.forall_mem_cons.2 ⟨⟨⟨_,rfl,rfl⟩,by kernel_rfl⟩,List.forall_mem_cons.2 ⟨⟨⟨_,rfl,rfl⟩,by kernel_rfl⟩,List.forall_mem_cons.2 ⟨⟨⟨_,rfl,rfl⟩,by kernel_rfl⟩,List.forall_mem_cons.2 ⟨⟨⟨_,rfl,rfl⟩,by kernel_rfl⟩,List.forall_mem_cons.2 ⟨⟨⟨_,rfl,rfl⟩,by kernel_rfl⟩,List.forall_mem_cons.2 ⟨⟨⟨_,rfl,rfl⟩,by kernel_rfl⟩,List.forall_mem_cons.2 ⟨⟨⟨_,rfl,rfl⟩,by kernel_rfl⟩,List.forall_mem_cons.2 ⟨⟨⟨_,rfl,rfl⟩,by kernel_rfl⟩,List.forall_mem_cons.2 ⟨⟨⟨_,rfl,rfl⟩,by kernel_rfl⟩,List.forall_mem_cons.2 ⟨⟨⟨_,rfl,rfl⟩,by kernel_rfl⟩,List.forall_mem_cons.2 ⟨⟨⟨_,rfl,rfl⟩,by kernel_rfl⟩,List.forall_mem_cons.2 ⟨⟨⟨_,rfl,rfl⟩,by kernel_rfl⟩,List.forall_mem_cons.2 ⟨⟨⟨_,rfl,rfl⟩,by kernel_rfl⟩,List.forall_mem_cons.2 ⟨⟨⟨_,rfl,rfl⟩,by kernel_rfl⟩,List.forall_mem_cons.2 ⟨⟨⟨_,rfl,rfl⟩,by kernel_rfl⟩,List.forall_mem_cons.2 ⟨⟨⟨_,rfl,rfl⟩,by kernel_rfl⟩,List.forall_mem_cons.2 ⟨⟨⟨_,rfl,rfl⟩,by kernel_rfl⟩,List.forall_mem_cons.2 ⟨⟨⟨_,rfl,rfl⟩,by kernel_rfl⟩,List.forall_mem_cons.2 ⟨⟨⟨_,rfl,rfl⟩,by kernel_rfl⟩,List.forall_mem_cons.2 ⟨⟨⟨_,rfl,rfl⟩,by kernel_rfl⟩,List.forall_mem_cons.2 ⟨⟨⟨_,rfl,rfl⟩,by kernel_rfl⟩,List.forall_mem_cons.2 ⟨⟨⟨_,rfl,rfl⟩,by kernel_rfl⟩,List.forall_mem_cons.2 ⟨⟨⟨_,rfl,rfl⟩,by kernel_rfl⟩,List.forall_mem_cons.2 ⟨⟨⟨_,rfl,rfl⟩,by kernel_rfl⟩,List.forall_mem_cons.2 ⟨⟨⟨_,rfl,rfl⟩,by kernel_rfl⟩,List.forall_mem_cons.2 ⟨⟨⟨_,rfl,rfl⟩,by kernel_rfl⟩,List.forall_mem_cons.2 ⟨⟨⟨_,rfl,rfl⟩,by kernel_rfl⟩,List.forall_mem_cons.2 ⟨⟨⟨_,rfl,rfl⟩,by kernel_rfl⟩,List.forall_mem_cons.2 ⟨⟨⟨_,rfl,rfl⟩,by kernel_rfl⟩,List.forall_mem_cons.2 ⟨⟨⟨_,rfl,rfl⟩,by kernel_rfl⟩,List.forall_mem_cons.2 ⟨⟨⟨_,rfl,rfl⟩,by kernel_rfl⟩,List.forall_mem_cons.2 ⟨⟨⟨_,rfl,rfl⟩,by kernel_rfl⟩,List.forall_mem_cons.2 ⟨⟨⟨_,rfl,rfl⟩,by kernel_rfl⟩,List.forall_mem_cons.2 ⟨⟨⟨_,rfl,rfl⟩,by kernel_rfl⟩,List.forall_mem_cons.2 ⟨⟨⟨_,rfl,rfl⟩,by kernel_rfl⟩,List.forall_mem_cons.2 ⟨⟨⟨_,rfl,rfl⟩,by kernel_rfl⟩,List.forall_mem_cons.2 ⟨⟨⟨_,rfl,rfl⟩,by kernel_rfl⟩,List.forall_mem_cons.2 ⟨⟨⟨_,rfl,rfl⟩,by kernel_rfl⟩,List.forall_mem_cons.2 ⟨⟨⟨_,rfl,rfl⟩,by kernel_rfl⟩,List.forall_mem_cons.2 ⟨⟨⟨_,rfl,rfl⟩,by kernel_rfl⟩,List.forall_mem_cons.2 ⟨⟨⟨_,rfl,rfl⟩,by kernel_rfl⟩,List.forall_mem_cons.2 ⟨⟨⟨_,rfl,rfl⟩,by kernel_rfl⟩,List.forall_mem_cons.2 ⟨⟨⟨_,rfl,rfl⟩,by kernel_rfl⟩,List.forall_mem_cons.2 ⟨⟨⟨_,rfl,rfl⟩,by kernel_rfl⟩,List.forall_mem_cons.2 ⟨⟨⟨_,rfl,rfl⟩,by kernel_rfl⟩,List.forall_mem_cons.2 ⟨⟨⟨_,rfl,rfl⟩,by kernel_rfl⟩,List.forall_mem_cons.2 ⟨⟨⟨_,rfl,rfl⟩,by kernel_rfl⟩,List.forall_mem_cons.2 ⟨⟨⟨_,rfl,rfl⟩,by kernel_rfl⟩,List.forall_mem_cons.2 ⟨⟨⟨_,rfl,rfl⟩,by kernel_rfl⟩,List.forall_mem_cons.2 ⟨⟨⟨_,rfl,rfl⟩,by kernel_rfl⟩,List.forall_mem_cons.2 ⟨⟨⟨_,rfl,rfl⟩,by kernel_rfl⟩,List.forall_mem_cons.2 ⟨⟨⟨_,rfl,rfl⟩,by kernel_rfl⟩,List.forall_mem_cons.2 ⟨⟨⟨_,rfl,rfl⟩,by kernel_rfl⟩,List.forall_mem_cons.2 ⟨⟨⟨_,rfl,rfl⟩,by kernel_rfl⟩,List.forall_mem_cons.2 ⟨⟨⟨_,rfl,rfl⟩,by kernel_rfl⟩,List.forall_mem_cons.2 ⟨⟨⟨_,rfl,rfl⟩,by kernel_rfl⟩,List.forall_mem_cons.2 ⟨⟨⟨_,rfl,rfl⟩,by kernel_rfl⟩,List.forall_mem_cons.2 ⟨⟨⟨_,rfl,rfl⟩,by kernel_rfl⟩,List.forall_mem_cons.2 ⟨⟨⟨_,rfl,rfl⟩,by kernel_rfl⟩,List.forall_mem_cons.2 ⟨⟨⟨_,rfl,rfl⟩,by kernel_rfl⟩,List.forall_mem_cons.2 ⟨⟨⟨_,rfl,rfl⟩,by kernel_rfl⟩,List.forall_mem_cons.2 ⟨⟨⟨_,rfl,rfl⟩,by kernel_rfl⟩,List.forall_mem_cons.2 ⟨⟨⟨_,rfl,rfl⟩,by kernel_rfl⟩,List.forall_mem_cons.2 ⟨⟨⟨_,rfl,rfl⟩,by kernel_rfl⟩,List.forall_mem_cons.2 ⟨⟨⟨_,rfl,rfl⟩,by kernel_rfl⟩,List.forall_mem_cons.2 ⟨⟨⟨_,rfl,rfl⟩,by kernel_rfl⟩,List.forall_mem_cons.2 ⟨⟨⟨_,rfl,rfl⟩,by kernel_rfl⟩,List.forall_mem_cons.2 ⟨⟨⟨_,rfl,rfl⟩,by kernel_rfl⟩,List.forall_mem_cons.2 ⟨⟨⟨_,rfl,rfl⟩,by kernel_rfl⟩,List.forall_mem_cons.2 ⟨⟨⟨_,rfl,rfl⟩,by kernel_rfl⟩,List.forall_mem_cons.2 ⟨⟨⟨_,rfl,rfl⟩,by kernel_rfl⟩,List.forall_mem_cons.2 ⟨⟨⟨_,rfl,rfl⟩,by kernel_rfl⟩,List.forall_mem_cons.2 ⟨⟨⟨_,rfl,rfl⟩,by kernel_rfl⟩,List.forall_mem_cons.2 ⟨⟨⟨_,rfl,rfl⟩,by kernel_rfl⟩,List.forall_mem_nil _⟩⟩⟩⟩⟩⟩⟩⟩⟩⟩⟩⟩⟩⟩⟩⟩⟩⟩⟩⟩⟩⟩⟩⟩⟩⟩⟩⟩⟩⟩⟩⟩⟩⟩⟩⟩⟩⟩⟩⟩⟩⟩⟩⟩⟩⟩⟩⟩⟩⟩⟩⟩⟩⟩⟩⟩⟩⟩⟩⟩⟩⟩⟩⟩⟩⟩⟩⟩⟩⟩⟩⟩⟩⟩⟩⟩⟩⟩⟩⟩⟩⟩⟩⟩⟩⟩⟩⟩⟩⟩⟩⟩⟩⟩⟩⟩⟩⟩⟩⟩⟩⟩⟩⟩⟩⟩⟩⟩⟩⟩⟩⟩⟩⟩⟩⟩⟩⟩⟩⟩⟩⟩⟩⟩⟩⟩⟩⟩⟩⟩⟩⟩⟩⟩⟩⟩⟩⟩,trivial⟩
theorem lAcq_ok:lAcq.Ok Tryz.prog FI FB:=
 Con.of_plain (body:=Tryz.f3.body.getD .skip) pok fiok (EntsFor.cons cWorks_ok (EntsFor.cons sAcq_ok (EntsFor.cons rAcq_ok (EntsFor.cons sChk_ok (EntsFor.cons rRt_ok (EntsFor.cons rSame_ok EntsFor.nil)))))) lAcq Tryz.func3 (by kernel_rfl) 10 [] (by kernel_rfl) [lAcq_L0] ⟨lAcq_h0,trivial⟩ lAcq_c
  lAcq_inv lAcq_mu (fun _ _ _=>trivial) fun kv iv0 bv0 hin hF k l iv bv hk ha hi=>match k,hk,hi with
  | 0,hk,hi=>by
    cases hk
    exact lAcq_o0 kv iv0 bv0 hin hF iv bv ha hi
  | k+1,hk,_=>by simp at hk
def lAcq0_L0:List Lf:=
 let p0_:SB×Bool:=((.le (.c 1) (.v 4)),.true)
 let p1_:SB×Bool:=((.le (.c 1) (.v 5)),.true)
 let p2_:SB×Bool:=((.le (.v 5) (.c 8)),.true)
 let p3_:SB×Bool:=((.le (.c 1) (.v 6)),.true)
 let p4_:SB×Bool:=((.le (.v 6) (.c 4)),.true)
 let p5_:SB×Bool:=((.le (.c 1) (.v 4)),.false)
 let p6_:SB×Bool:=((.le (.v 4) (.c 64)),.true)
 let p7_:SB×Bool:=((.le (.c 1) (.v 5)),.false)
 let p8_:SB×Bool:=((.le (.v 5) (.c 8)),.false)
 let p9_:SB×Bool:=((.le (.c 1) (.v 6)),.false)
 let p10_:SB×Bool:=((.le (.v 6) (.c 4)),.false)
 let p11_:SB×Bool:=((.le (.v 4) (.c 64)),.false)
 let x12_:SI:=(.ap 22 (.c 0) (.c 0) (.v 4) (.v 5) (.v 6) (.c 0))
 let x13_:SI:=(.ap 21 (.c 0) (.c 0) (.c 0) (.c 0) (.c 0) (.c 0))
 let p14_:SB×Bool:=((.eq x12_ (.c 2)),.true)
 let p15_:SB×Bool:=((.eq x12_ (.c 2)),.false)
 let f0_:List (SB×Bool):=[((.eq x12_ (.c 0)),.true),((.le (.c 1) (.d 0)),.true)]
 let f1_:List (SB×Bool):=[((.eq x12_ (.c 0)),.false),((.le (.c 1) (.d 0)),.true)]
 let f2_:List (SB×Bool):=((.ap 20 (.c 1) (.c 1) (.v 7) (.v 8) (.v 9) (.c 0)),.true)::f0_
 let f3_:List (SB×Bool):=((.ap 20 (.c 1) (.c 1) (.v 7) (.v 8) (.v 9) (.c 0)),.false)::f0_
 let f4_:List (SB×Bool):=p0_::f1_
 let f5_:List (SB×Bool):=p5_::f1_
 let f6_:List (SB×Bool):=((.le (.c 0) x13_),.false)::f2_
 let f7_:List (SB×Bool):=p0_::f3_
 let f8_:List (SB×Bool):=p6_::f4_
 let f9_:List (SB×Bool):=p11_::f4_
 let f10_:List (SB×Bool):=p0_::f6_
 let f11_:List (SB×Bool):=p6_::f7_
 let f12_:List (SB×Bool):=p1_::f8_
 let f13_:List (SB×Bool):=p7_::f8_
 let f14_:List (SB×Bool):=((.le (.c 0) (.d 1)),.true)::((.lt x13_ (.c 0)),.true)::((.le (.c 0) x13_),.true)::f2_
 let f15_:List (SB×Bool):=p6_::f10_
 let f16_:List (SB×Bool):=p1_::f11_
 let f17_:List (SB×Bool):=p2_::f12_
 let f18_:List (SB×Bool):=p8_::f12_
 let f19_:List (SB×Bool):=p0_::f14_
 let f20_:List (SB×Bool):=p1_::f15_
 let f21_:List (SB×Bool):=p2_::f16_
 let f22_:List (SB×Bool):=p3_::f17_
 let f23_:List (SB×Bool):=p9_::f17_
 let f24_:List (SB×Bool):=p6_::f19_
 let f25_:List (SB×Bool):=p2_::f20_
 let f26_:List (SB×Bool):=p3_::f21_
 let f27_:List (SB×Bool):=p4_::f22_
 let f28_:List (SB×Bool):=p10_::f22_
 let f29_:List (SB×Bool):=p1_::f24_
 let f30_:List (SB×Bool):=p3_::f25_
 let f31_:List (SB×Bool):=p14_::f27_
 let f32_:List (SB×Bool):=p2_::f29_
 let f33_:List (SB×Bool):=p3_::f32_
 [(.fin (p4_::f33_) 0 ⟨⟨[],[]⟩,[],[],[]⟩ [(.eb (.c .true) (.c .false))] []),
  (.fin (p10_::f33_) 0 ⟨⟨[],[]⟩,[],[],[]⟩ [(.eb (.c .true) (.c .false))] []),
  (.fin (p9_::f32_) 0 ⟨⟨[],[]⟩,[],[],[]⟩ [(.eb (.c .true) (.c .false))] []),
  (.fin (p8_::f29_) 0 ⟨⟨[],[]⟩,[],[],[]⟩ [(.eb (.c .true) (.c .false))] []),
  (.fin (p7_::f24_) 0 ⟨⟨[],[]⟩,[],[],[]⟩ [(.eb (.c .true) (.c .false))] []),
  (.fin (p11_::f19_) 0 ⟨⟨[],[]⟩,[],[],[]⟩ [(.eb (.c .true) (.c .false))] []),
  (.fin (p5_::f14_) 0 ⟨⟨[],[]⟩,[],[],[]⟩ [(.eb (.c .true) (.c .false))] []),
  (.fin (p4_::f30_) 0 ⟨⟨[],[]⟩,[],[],[]⟩ [(.eb (.c .true) (.c .false))] []),
  (.fin (p10_::f30_) 0 ⟨⟨[],[]⟩,[],[],[]⟩ [(.eb (.c .true) (.c .false))] []),
  (.fin (p9_::f25_) 0 ⟨⟨[],[]⟩,[],[],[]⟩ [(.eb (.c .true) (.c .false))] []),
  (.fin (p8_::f20_) 0 ⟨⟨[],[]⟩,[],[],[]⟩ [(.eb (.c .true) (.c .false))] []),
  (.fin (p7_::f15_) 0 ⟨⟨[],[]⟩,[],[],[]⟩ [(.eb (.c .true) (.c .false))] []),
  (.fin (p11_::f10_) 0 ⟨⟨[],[]⟩,[],[],[]⟩ [(.eb (.c .true) (.c .false))] []),
  (.fin (p5_::f6_) 0 ⟨⟨[],[]⟩,[],[],[]⟩ [(.eb (.c .true) (.c .false))] []),
  (.fin (p4_::f26_) 0 ⟨⟨[],[]⟩,[],[],[]⟩ [(.eb (.c .true) (.c .false))] []),
  (.fin (p10_::f26_) 0 ⟨⟨[],[]⟩,[],[],[]⟩ [(.eb (.c .true) (.c .false))] []),
  (.fin (p9_::f21_) 0 ⟨⟨[],[]⟩,[],[],[]⟩ [(.eb (.c .true) (.c .false))] []),
  (.fin (p8_::f16_) 0 ⟨⟨[],[]⟩,[],[],[]⟩ [(.eb (.c .true) (.c .false))] []),
  (.fin (p7_::f11_) 0 ⟨⟨[],[]⟩,[],[],[]⟩ [(.eb (.c .true) (.c .false))] []),
  (.fin (p11_::f7_) 0 ⟨⟨[],[]⟩,[],[],[]⟩ [(.eb (.c .true) (.c .false))] []),
  (.fin (p5_::f3_) 0 ⟨⟨[],[]⟩,[],[],[]⟩ [(.eb (.c .true) (.c .false))] []),
  (.fin (((.ap 24 (.c 0) (.v 6) (.c 0) (.v 6) (.c 0) (.c 0)),.true)::f31_) 0 ⟨⟨[],[]⟩,[],[],[]⟩ [] []),
  (.fin (((.ap 24 (.c 0) (.v 6) (.c 0) (.v 6) (.c 0) (.c 0)),.false)::f31_) 0 ⟨⟨[],[]⟩,[],[],[]⟩ [(.eb (.c .true) (.c .false))] []),
  (.fin (p15_::f27_) 0 ⟨⟨[],[]⟩,[],[],[]⟩ [(.eb (.c .true) (.c .false))] []),
  (.fin (p14_::f28_) 0 ⟨⟨[],[]⟩,[],[],[]⟩ [] []),
  (.fin (p15_::f28_) 0 ⟨⟨[],[]⟩,[],[],[]⟩ [(.eb (.c .true) (.c .false))] []),
  (.fin (p14_::f23_) 0 ⟨⟨[],[]⟩,[],[],[]⟩ [] []),
  (.fin (p15_::f23_) 0 ⟨⟨[],[]⟩,[],[],[]⟩ [(.eb (.c .true) (.c .false))] []),
  (.fin (p14_::f18_) 0 ⟨⟨[],[]⟩,[],[],[]⟩ [] []),
  (.fin (p15_::f18_) 0 ⟨⟨[],[]⟩,[],[],[]⟩ [(.eb (.c .true) (.c .false))] []),
  (.fin (p14_::f13_) 0 ⟨⟨[],[]⟩,[],[],[]⟩ [] []),
  (.fin (p15_::f13_) 0 ⟨⟨[],[]⟩,[],[],[]⟩ [(.eb (.c .true) (.c .false))] []),
  (.fin (p14_::f9_) 0 ⟨⟨[],[]⟩,[],[],[]⟩ [] []),
  (.fin (p15_::f9_) 0 ⟨⟨[],[]⟩,[],[],[]⟩ [(.eb (.c .true) (.c .false))] []),
  (.fin (p14_::f5_) 0 ⟨⟨[],[]⟩,[],[],[]⟩ [] []),
  (.fin (p15_::f5_) 0 ⟨⟨[],[]⟩,[],[],[]⟩ [(.eb (.c .true) (.c .false))] [])]
def lAcq0_run (T:Tm):=(ex (ccOf Tryz.prog BF [55,53,52,54] lAcq0) ((fun cc=>[cWorks.ent cc,sAcq.ent cc,rAcq.ent cc,sChk.ent cc,rRt.ent cc,rSame.ent cc]) (ccOf Tryz.prog BF [55,53,52,54] lAcq0)) (dw (ccOf Tryz.prog BF [55,53,52,54] lAcq0) ((fun cc=>[cWorks.ent cc,sAcq.ent cc,rAcq.ent cc,sChk.ent cc,rRt.ent cc,rSame.ent cc]) (ccOf Tryz.prog BF [55,53,52,54] lAcq0)) 1000 4) (stopX [14,60,66,89,91,58,69,93]) 20000 T.f T.fs T.H).lfs (ccOf Tryz.prog BF [55,53,52,54] lAcq0) ((tm0 lAcq0 Tryz.f3 (Tryz.f3.body.getD .skip))::[]) lAcq0.os
theorem lAcq0_h0:lAcq0_run (tm0 lAcq0 Tryz.f3 (Tryz.f3.body.getD .skip))=some lAcq0_L0:=by kernel_rfl
def lAcq0_inv:(Nat→Int)→(Nat→Bool)→Nat→(Nat→Int)→(Nat→Bool)→Prop:=fun _ _ _ _ _=>True
def lAcq0_mu:(Nat→Int)→(Nat→Bool)→Nat→(Nat→Int)→(Nat→Bool)→Nat:=fun _ _ _ _ _=>0
theorem lAcq0_b {iv0:Nat→Int} (hin:InB lAcq0.B iv0):((-9223372036854775808)≤iv0 4∧iv0 4≤9223372036854775807)∧((-9223372036854775808)≤iv0 5∧iv0 5≤9223372036854775807)∧((-9223372036854775808)≤iv0 6∧iv0 6≤9223372036854775807)∧((-9223372036854775808)≤iv0 7∧iv0 7≤9223372036854775807)∧((-9223372036854775808)≤iv0 8∧iv0 8≤9223372036854775807)∧((-9223372036854775808)≤iv0 9∧iv0 9≤9223372036854775807):=by
 have b4:=hin 4 (-9223372036854775808) 9223372036854775807 (by simp [lAcq0,kS,slV,mayV,i64s,i64b,lmap,lS,gS,bS,fS,bdS,shV,o1,frS,stS,chS,mAS,usS,acS,erS,chE,gS2,lS2,bS2,fS2,sAcq,laS,lwS,lcS,kI1,nwB,oLat,bX,wX])
 simp only [Int.reduceLE,reduceIte,Int.reduceNeg] at b4
 have b5:=hin 5 (-9223372036854775808) 9223372036854775807 (by simp [lAcq0,kS,slV,mayV,i64s,i64b,lmap,lS,gS,bS,fS,bdS,shV,o1,frS,stS,chS,mAS,usS,acS,erS,chE,gS2,lS2,bS2,fS2,sAcq,laS,lwS,lcS,kI1,nwB,oLat,bX,wX])
 simp only [Int.reduceLE,reduceIte,Int.reduceNeg] at b5
 have b6:=hin 6 (-9223372036854775808) 9223372036854775807 (by simp [lAcq0,kS,slV,mayV,i64s,i64b,lmap,lS,gS,bS,fS,bdS,shV,o1,frS,stS,chS,mAS,usS,acS,erS,chE,gS2,lS2,bS2,fS2,sAcq,laS,lwS,lcS,kI1,nwB,oLat,bX,wX])
 simp only [Int.reduceLE,reduceIte,Int.reduceNeg] at b6
 have b7:=hin 7 (-9223372036854775808) 9223372036854775807 (by simp [lAcq0,kS,slV,mayV,i64s,i64b,lmap,lS,gS,bS,fS,bdS,shV,o1,frS,stS,chS,mAS,usS,acS,erS,chE,gS2,lS2,bS2,fS2,sAcq,laS,lwS,lcS,kI1,nwB,oLat,bX,wX])
 simp only [Int.reduceLE,reduceIte,Int.reduceNeg] at b7
 have b8:=hin 8 (-9223372036854775808) 9223372036854775807 (by simp [lAcq0,kS,slV,mayV,i64s,i64b,lmap,lS,gS,bS,fS,bdS,shV,o1,frS,stS,chS,mAS,usS,acS,erS,chE,gS2,lS2,bS2,fS2,sAcq,laS,lwS,lcS,kI1,nwB,oLat,bX,wX])
 simp only [Int.reduceLE,reduceIte,Int.reduceNeg] at b8
 have b9:=hin 9 (-9223372036854775808) 9223372036854775807 (by simp [lAcq0,kS,slV,mayV,i64s,i64b,lmap,lS,gS,bS,fS,bdS,shV,o1,frS,stS,chS,mAS,usS,acS,erS,chE,gS2,lS2,bS2,fS2,sAcq,laS,lwS,lcS,kI1,nwB,oLat,bX,wX])
 simp only [Int.reduceLE,reduceIte,Int.reduceNeg] at b9
 exact ⟨b4,b5,b6,b7,b8,b9⟩
def lAcq0_ob (k:Nat) (l:List Lf):Prop:=∀ (kv:Kv) (iv0:Nat→Int) (bv0:Nat→Bool),InB lAcq0.B iv0→FT (sta FI FB kv iv0 bv0) (dlt dyn0) lAcq0.F→∀ (iv:Nat→Int) (bv:Nat→Bool),Agr 10 iv0 bv0 iv bv→lAcq0_inv iv0 bv0 k iv bv→∀ lf∈l,LfT (sta FI FB kv) lAcq0.os (lAcq0_inv iv0 bv0) (lAcq0_mu iv0 bv0) k iv bv lf
theorem lAcq0_o0:lAcq0_ob 0 lAcq0_L0:=by
 intro kv iv0 bv0 hin hF iv bv ha hi
 unfold lAcq0_L0
 refine List.forall_mem_cons.2 ⟨?_,List.forall_mem_cons.2 ⟨?_,List.forall_mem_cons.2 ⟨?_,List.forall_mem_cons.2 ⟨?_,List.forall_mem_cons.2 ⟨?_,List.forall_mem_cons.2 ⟨?_,List.forall_mem_cons.2 ⟨?_,List.forall_mem_cons.2 ⟨?_,List.forall_mem_cons.2 ⟨?_,List.forall_mem_cons.2 ⟨?_,List.forall_mem_cons.2 ⟨?_,List.forall_mem_cons.2 ⟨?_,List.forall_mem_cons.2 ⟨?_,List.forall_mem_cons.2 ⟨?_,List.forall_mem_cons.2 ⟨?_,List.forall_mem_cons.2 ⟨?_,List.forall_mem_cons.2 ⟨?_,List.forall_mem_cons.2 ⟨?_,List.forall_mem_cons.2 ⟨?_,List.forall_mem_cons.2 ⟨?_,List.forall_mem_cons.2 ⟨?_,List.forall_mem_cons.2 ⟨?_,List.forall_mem_cons.2 ⟨?_,List.forall_mem_cons.2 ⟨?_,List.forall_mem_cons.2 ⟨?_,List.forall_mem_cons.2 ⟨?_,List.forall_mem_cons.2 ⟨?_,List.forall_mem_cons.2 ⟨?_,List.forall_mem_cons.2 ⟨?_,List.forall_mem_cons.2 ⟨?_,List.forall_mem_cons.2 ⟨?_,List.forall_mem_cons.2 ⟨?_,List.forall_mem_cons.2 ⟨?_,List.forall_mem_cons.2 ⟨?_,List.forall_mem_cons.2 ⟨?_,List.forall_mem_cons.2 ⟨?_,List.forall_mem_nil _⟩⟩⟩⟩⟩⟩⟩⟩⟩⟩⟩⟩⟩⟩⟩⟩⟩⟩⟩⟩⟩⟩⟩⟩⟩⟩⟩⟩⟩⟩⟩⟩⟩⟩⟩⟩
 all_goals
  intro δ hf
 all_goals
  obtain ⟨b4,b5,b6,b7,b8,b9⟩:=lAcq0_b hin
 all_goals
  have a4:=ha.1 4 (by omega)
  have a5:=ha.1 5 (by omega)
  have a6:=ha.1 6 (by omega)
  have a7:=ha.1 7 (by omega)
  have a8:=ha.1 8 (by omega)
  have a9:=ha.1 9 (by omega)
 all_goals
  simp only [FT,TP,SB.tp,SI.tv,sta,IB.eval,and_true,true_and,ObsT,Ob.Tv,rowT,kix,In.tiv,↓tbvT,In.tbv,get_cons,get_nil,reduceIte,Nat.reduceEqDiff,Int.reduceToNat,Int.reduceAdd,Int.reduceSub,Int.reduceLE,Int.reduceLT,Int.reduceEq,ne_eq,Bool.false_eq_true,not_true_eq_false,not_false_eq_true,true_iff,false_iff,iff_true,iff_false,false_implies,implies_true,decT,decide_true,decide_false,Bool.decide_eq_true,ap2,pb2,FI_3,FI_3u,FI_8,FI_9,FI_3g,FI_3k,FI_8s,FI_8l,FI_8d,FB_1h,FB_1a,Int.toNat_natCast,Int.toNat_zero,FI_20,FI_21,FI_22,FI_24,FB_20,FB_21,FB_22,FB_24,lAcq0_inv,lAcq0_mu,lAcq0,o1,othT,kS,slV,mayV,i64s,i64b,lmap,lS,gS,bS,fS,bdS,shV,o1,frS,stS,chS,mAS,usS,acS,erS,chE,gS2,lS2,bS2,fS2,sAcq,laS,lwS,lcS,kI1,nwB,oLat,bX,wX,a4,a5,a6,a7,a8,a9] at hf hi ⊢
 all_goals
  try simp only [lent_def] at hf ⊢
 all_goals
  have h6:=sameS_of (eqR_refl 0 (iv0 6))
 all_goals
  have h7:=chk_cases 0 0 (iv0 4) (iv0 5) (iv0 6)
 all_goals
  have h9:=fun c=>chk_cases c 0 (iv0 4) (iv0 5) (iv0 6)
 all_goals
  have h9:=h9 (lentC 0 0)
 all_goals
  unfold shpS at h7 h9
 all_goals
  (repeat' (with_reducible apply And.intro))<;>first
  | omega
  | assumption
  | (unfold inM;omega)
  | exact trivial
  | (clear hin hF ha;grind)
theorem lAcq0_c:LsC ((tm0 lAcq0 Tryz.f3 (Tryz.f3.body.getD .skip))::[]) lAcq0.os [lAcq0_L0]:=by
 unfold lAcq0_L0
 exact ⟨List.forall_mem_cons.2 ⟨⟨⟨_,rfl,rfl⟩,by kernel_rfl⟩,List.forall_mem_cons.2 ⟨⟨⟨_,rfl,rfl⟩,by kernel_rfl⟩,List.forall_mem_cons.2 ⟨⟨⟨_,rfl,rfl⟩,by kernel_rfl⟩,List.forall_mem_cons.2 ⟨⟨⟨_,rfl,rfl⟩,by kernel_rfl⟩,List.forall_mem_cons.2 ⟨⟨⟨_,rfl,rfl⟩,by kernel_rfl⟩,List.forall_mem_cons.2 ⟨⟨⟨_,rfl,rfl⟩,by kernel_rfl⟩,List.forall_mem_cons.2 ⟨⟨⟨_,rfl,rfl⟩,by kernel_rfl⟩,List.forall_mem_cons.2 ⟨⟨⟨_,rfl,rfl⟩,by kernel_rfl⟩,List.forall_mem_cons.2 ⟨⟨⟨_,rfl,rfl⟩,by kernel_rfl⟩,List.forall_mem_cons.2 ⟨⟨⟨_,rfl,rfl⟩,by kernel_rfl⟩,List.forall_mem_cons.2 ⟨⟨⟨_,rfl,rfl⟩,by kernel_rfl⟩,List.forall_mem_cons.2 ⟨⟨⟨_,rfl,rfl⟩,by kernel_rfl⟩,List.forall_mem_cons.2 ⟨⟨⟨_,rfl,rfl⟩,by kernel_rfl⟩,List.forall_mem_cons.2 ⟨⟨⟨_,rfl,rfl⟩,by kernel_rfl⟩,List.forall_mem_cons.2 ⟨⟨⟨_,rfl,rfl⟩,by kernel_rfl⟩,List.forall_mem_cons.2 ⟨⟨⟨_,rfl,rfl⟩,by kernel_rfl⟩,List.forall_mem_cons.2 ⟨⟨⟨_,rfl,rfl⟩,by kernel_rfl⟩,List.forall_mem_cons.2 ⟨⟨⟨_,rfl,rfl⟩,by kernel_rfl⟩,List.forall_mem_cons.2 ⟨⟨⟨_,rfl,rfl⟩,by kernel_rfl⟩,List.forall_mem_cons.2 ⟨⟨⟨_,rfl,rfl⟩,by kernel_rfl⟩,List.forall_mem_cons.2 ⟨⟨⟨_,rfl,rfl⟩,by kernel_rfl⟩,List.forall_mem_cons.2 ⟨⟨⟨_,rfl,rfl⟩,by kernel_rfl⟩,List.forall_mem_cons.2 ⟨⟨⟨_,rfl,rfl⟩,by kernel_rfl⟩,List.forall_mem_cons.2 ⟨⟨⟨_,rfl,rfl⟩,by kernel_rfl⟩,List.forall_mem_cons.2 ⟨⟨⟨_,rfl,rfl⟩,by kernel_rfl⟩,List.forall_mem_cons.2 ⟨⟨⟨_,rfl,rfl⟩,by kernel_rfl⟩,List.forall_mem_cons.2 ⟨⟨⟨_,rfl,rfl⟩,by kernel_rfl⟩,List.forall_mem_cons.2 ⟨⟨⟨_,rfl,rfl⟩,by kernel_rfl⟩,List.forall_mem_cons.2 ⟨⟨⟨_,rfl,rfl⟩,by kernel_rfl⟩,List.forall_mem_cons.2 ⟨⟨⟨_,rfl,rfl⟩,by kernel_rfl⟩,List.forall_mem_cons.2 ⟨⟨⟨_,rfl,rfl⟩,by kernel_rfl⟩,List.forall_mem_cons.2 ⟨⟨⟨_,rfl,rfl⟩,by kernel_rfl⟩,List.forall_mem_cons.2 ⟨⟨⟨_,rfl,rfl⟩,by kernel_rfl⟩,List.forall_mem_cons.2 ⟨⟨⟨_,rfl,rfl⟩,by kernel_rfl⟩,List.forall_mem_cons.2 ⟨⟨⟨_,rfl,rfl⟩,by kernel_rfl⟩,List.forall_mem_cons.2 ⟨⟨⟨_,rfl,rfl⟩,by kernel_rfl⟩,List.forall_mem_nil _⟩⟩⟩⟩⟩⟩⟩⟩⟩⟩⟩⟩⟩⟩⟩⟩⟩⟩⟩⟩⟩⟩⟩⟩⟩⟩⟩⟩⟩⟩⟩⟩⟩⟩⟩⟩,trivial⟩
theorem lAcq0_ok:lAcq0.Ok Tryz.prog FI FB:=
 Con.of_plain (body:=Tryz.f3.body.getD .skip) pok fiok (EntsFor.cons cWorks_ok (EntsFor.cons sAcq_ok (EntsFor.cons rAcq_ok (EntsFor.cons sChk_ok (EntsFor.cons rRt_ok (EntsFor.cons rSame_ok EntsFor.nil)))))) lAcq0 Tryz.func3 (by kernel_rfl) 10 [] (by kernel_rfl) [lAcq0_L0] ⟨lAcq0_h0,trivial⟩ lAcq0_c
  lAcq0_inv lAcq0_mu (fun _ _ _=>trivial) fun kv iv0 bv0 hin hF k l iv bv hk ha hi=>match k,hk,hi with
  | 0,hk,hi=>by
    cases hk
    exact lAcq0_o0 kv iv0 bv0 hin hF iv bv ha hi
  | k+1,hk,_=>by simp at hk
end
end Go.Sx.Sl
