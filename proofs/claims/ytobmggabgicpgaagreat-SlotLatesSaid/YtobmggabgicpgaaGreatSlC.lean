/- Slots: the document's Right, Acquire, Same, by contract. -/
import Derived.Test.YtobmggabgicpgaaGreatSlB
import Derived.Test.YtobmggabgicpgaaGreatSlN
namespace Go.Sx.Sl
set_option linter.unusedVariables false
set_option linter.unusedSimpArgs false
set_option maxRecDepth 100000
set_option maxHeartbeats 0
noncomputable section
open Go Go.Sx Go.Sx.Ti Go.Proofs
def chE:SB:=.eq (.ap 22 (.v 0) (.v 1) (.v 4) (.v 5) (.v 6) (.c 0)) (.c 0)
def rMay:Con:=⟨43,[0,1,2,3,4,5,6,7],[slV],[],(7,0,18446744073709551615)::i64s [0,1,2,3,4,5,6],[],o1 (.bo mayV)⟩
def rRt:Con:=⟨15,[0,1,2,3,4,5,6],[shV,lS],gS,i64b 4::i64b 5::i64b 6::bS,fS,o1 (.bo chE)⟩
def gS2:List Gv:=[⟨0,.v 2,kS,0,.v 1⟩,⟨1,.v 6,kS,4,.v 5⟩]
def lS2:SV:=.sl (.k 1) (.v 6) (.v 5) (.v 7)
def bS2:List (Nat×Int×Int):=(5,0,64)::(6,0,-1)::bS
def fS2:List (SB×Bool):=(.le (.v 5) (.v 7),true)::(.le (.c 0) (.v 7),true)::fS
def rSame:Con:=⟨14,[0,1,2,3,4,5,6,7],[lS,lS2],gS2,bS2,fS2,o1 (.bo (.ap 24 (.v 0) (.v 1) (.v 4) (.v 5) (.c 0) (.c 0)))⟩
theorem sameS_end {c n d m:Int} (e:n=m) (h:∀ j:Nat,(j:Int) < n→(∀ f:Nat,f < 7→fl c j f=fl d j f)∧flu c j 7=flu d j 7):sameS c n d m:=⟨e,h⟩
theorem eqR_suc {c d i:Int} (h:eqR c d i) (h0:0≤i) (e0:fl c i.toNat 0=fl d i.toNat 0) (e1:fl c i.toNat 1=fl d i.toNat 1) (e2:fl c i.toNat 2=fl d i.toNat 2) (e3:fl c i.toNat 3=fl d i.toNat 3) (e4:fl c i.toNat 4=fl d i.toNat 4) (e5:fl c i.toNat 5=fl d i.toNat 5) (e6:fl c i.toNat 6=fl d i.toNat 6) (e7:flu c i.toNat 7=flu d i.toNat 7):eqR c d (i+1):=fun j hj=>by
 by_cases hj':(j:Int) < i
 ·exact h j hj'
 ·have:j=i.toNat:=by omega
  subst this
  refine ⟨fun f hf=>?_,e7⟩
  match f,hf with
  | 0,_=>exact e0
  | 1,_=>exact e1
  | 2,_=>exact e2
  | 3,_=>exact e3
  | 4,_=>exact e4
  | 5,_=>exact e5
  | 6,_=>exact e6
  | f+7,h=>omega
theorem sameS_at {c n d m i:Int} (h:sameS c n d m) (h0:0≤i) (hi:i < n):fl c i.toNat 0=fl d i.toNat 0∧fl c i.toNat 1=fl d i.toNat 1∧fl c i.toNat 2=fl d i.toNat 2∧fl c i.toNat 3=fl d i.toNat 3∧fl c i.toNat 4=fl d i.toNat 4∧fl c i.toNat 5=fl d i.toNat 5∧fl c i.toNat 6=fl d i.toNat 6∧flu c i.toNat 7=flu d i.toNat 7:=by
 obtain ⟨h1,h2⟩:=h.2 i.toNat (by omega)
 exact ⟨h1 0 (by omega),h1 1 (by omega),h1 2 (by omega),h1 3 (by omega),h1 4 (by omega),h1 5 (by omega),h1 6 (by omega),h2⟩
def rMay_L0:List Lf:=
 let p0_:SB×Bool:=((.eq (.v 5) (.c 0)),.true)
 let p1_:SB×Bool:=((.eq (.v 6) (.c 0)),.true)
 let p2_:SB×Bool:=((.eq (.v 7) (.c 0)),.true)
 let p3_:SB×Bool:=((.eq (.v 2) (.c 0)),.true)
 let p4_:SB×Bool:=((.eq (.v 2) (.c 0)),.false)
 let p5_:SB×Bool:=((.eq (.v 7) (.c 0)),.false)
 let p6_:SB×Bool:=((.eq (.v 6) (.c 0)),.false)
 let p7_:SB×Bool:=((.eq (.v 5) (.c 0)),.false)
 let f0_:List (SB×Bool):=[((.lt (.c 1099511627776) (.v 0)),.false),((.lt (.v 0) (.c 0)),.false)]
 let f1_:List (SB×Bool):=((.lt (.v 1) (.c 0)),.false)::f0_
 let f2_:List (SB×Bool):=((.lt (.c 5) (.v 1)),.false)::f1_
 let f3_:List (SB×Bool):=((.eq (.v 1) (.c 0)),.true)::f2_
 let f4_:List (SB×Bool):=((.eq (.v 1) (.c 0)),.false)::f2_
 let f5_:List (SB×Bool):=((.eq (.v 0) (.c 0)),.true)::f3_
 let f6_:List (SB×Bool):=((.eq (.v 0) (.c 0)),.false)::f4_
 let f7_:List (SB×Bool):=((.eq (.v 4) (.c 0)),.true)::f5_
 let f8_:List (SB×Bool):=((.eq (.v 1) (.c 1)),.true)::f6_
 let f9_:List (SB×Bool):=((.eq (.v 1) (.c 1)),.false)::f6_
 let f10_:List (SB×Bool):=p0_::f7_
 let f11_:List (SB×Bool):=((.le (.c 0) (.v 4)),.true)::f8_
 let f12_:List (SB×Bool):=((.eq (.v 4) (.c 0)),.true)::f9_
 let f13_:List (SB×Bool):=p1_::f10_
 let f14_:List (SB×Bool):=((.le (.v 4) (.c 1099511627776)),.true)::f11_
 let f15_:List (SB×Bool):=((.eq (.v 1) (.c 2)),.true)::f12_
 let f16_:List (SB×Bool):=((.eq (.v 1) (.c 2)),.false)::f12_
 let f17_:List (SB×Bool):=p2_::f13_
 let f18_:List (SB×Bool):=p0_::f14_
 let f19_:List (SB×Bool):=((.le (.v 6) (.v 5)),.true)::f15_
 let f20_:List (SB×Bool):=p0_::f16_
 let f21_:List (SB×Bool):=p1_::f18_
 let f22_:List (SB×Bool):=((.le (.v 7) (.c 4611686018427387904)),.true)::f19_
 let f23_:List (SB×Bool):=p1_::f20_
 let f24_:List (SB×Bool):=p2_::f21_
 let f25_:List (SB×Bool):=p4_::f22_
 let f26_:List (SB×Bool):=p2_::f23_
 let f27_:List (SB×Bool):=p4_::f24_
 let f28_:List (SB×Bool):=((.le (.c 0) (.v 2)),.true)::f25_
 let f29_:List (SB×Bool):=((.le (.c 0) (.v 2)),.true)::f27_
 let f30_:List (SB×Bool):=((.le (.v 2) (.c 5)),.true)::f28_
 let f31_:List (SB×Bool):=((.le (.v 2) (.c 5)),.true)::f29_
 [(.fin ([((.lt (.v 0) (.c 0)),.true)]) 0 ⟨⟨[],[]⟩,[],[],[]⟩ [(.eb (.and (.ap 20 (.v 0) (.v 1) (.v 2) (.v 3) (.v 4) (.c 0)) (.ap 21 (.v 1) (.v 5) (.v 6) (.v 7) (.c 0) (.c 0))) (.c .false))] []),
  (.fin ([((.lt (.c 1099511627776) (.v 0)),.true),((.lt (.v 0) (.c 0)),.false)]) 0 ⟨⟨[],[]⟩,[],[],[]⟩ [(.eb (.and (.ap 20 (.v 0) (.v 1) (.v 2) (.v 3) (.v 4) (.c 0)) (.ap 21 (.v 1) (.v 5) (.v 6) (.v 7) (.c 0) (.c 0))) (.c .false))] []),
  (.fin (((.lt (.v 1) (.c 0)),.true)::f0_) 0 ⟨⟨[],[]⟩,[],[],[]⟩ [(.eb (.and (.ap 20 (.v 0) (.v 1) (.v 2) (.v 3) (.v 4) (.c 0)) (.ap 21 (.v 1) (.v 5) (.v 6) (.v 7) (.c 0) (.c 0))) (.c .false))] []),
  (.fin (((.lt (.c 5) (.v 1)),.true)::f1_) 0 ⟨⟨[],[]⟩,[],[],[]⟩ [(.eb (.and (.ap 20 (.v 0) (.v 1) (.v 2) (.v 3) (.v 4) (.c 0)) (.ap 21 (.v 1) (.v 5) (.v 6) (.v 7) (.c 0) (.c 0))) (.c .false))] []),
  (.fin (p3_::f17_) 0 ⟨⟨[],[]⟩,[],[],[]⟩ [(.eb (.and (.ap 20 (.v 0) (.v 1) (.v 2) (.v 3) (.v 4) (.c 0)) (.ap 21 (.v 1) (.v 5) (.v 6) (.v 7) (.c 0) (.c 0))) (.eq (.v 3) (.c 0)))] []),
  (.fin (p4_::f17_) 0 ⟨⟨[],[]⟩,[],[],[]⟩ [(.eb (.and (.ap 20 (.v 0) (.v 1) (.v 2) (.v 3) (.v 4) (.c 0)) (.ap 21 (.v 1) (.v 5) (.v 6) (.v 7) (.c 0) (.c 0))) (.c .false))] []),
  (.fin (p5_::f13_) 0 ⟨⟨[],[]⟩,[],[],[]⟩ [(.eb (.and (.ap 20 (.v 0) (.v 1) (.v 2) (.v 3) (.v 4) (.c 0)) (.ap 21 (.v 1) (.v 5) (.v 6) (.v 7) (.c 0) (.c 0))) (.c .false))] []),
  (.fin (p6_::f10_) 0 ⟨⟨[],[]⟩,[],[],[]⟩ [(.eb (.and (.ap 20 (.v 0) (.v 1) (.v 2) (.v 3) (.v 4) (.c 0)) (.ap 21 (.v 1) (.v 5) (.v 6) (.v 7) (.c 0) (.c 0))) (.c .false))] []),
  (.fin (p7_::f7_) 0 ⟨⟨[],[]⟩,[],[],[]⟩ [(.eb (.and (.ap 20 (.v 0) (.v 1) (.v 2) (.v 3) (.v 4) (.c 0)) (.ap 21 (.v 1) (.v 5) (.v 6) (.v 7) (.c 0) (.c 0))) (.c .false))] []),
  (.fin (((.eq (.v 4) (.c 0)),.false)::f5_) 0 ⟨⟨[],[]⟩,[],[],[]⟩ [(.eb (.and (.ap 20 (.v 0) (.v 1) (.v 2) (.v 3) (.v 4) (.c 0)) (.ap 21 (.v 1) (.v 5) (.v 6) (.v 7) (.c 0) (.c 0))) (.c .false))] []),
  (.fin (((.eq (.v 0) (.c 0)),.false)::f3_) 0 ⟨⟨[],[]⟩,[],[],[]⟩ [(.eb (.and (.ap 20 (.v 0) (.v 1) (.v 2) (.v 3) (.v 4) (.c 0)) (.ap 21 (.v 1) (.v 5) (.v 6) (.v 7) (.c 0) (.c 0))) (.c .false))] []),
  (.fin (((.eq (.v 0) (.c 0)),.true)::f4_) 0 ⟨⟨[],[]⟩,[],[],[]⟩ [(.eb (.and (.ap 20 (.v 0) (.v 1) (.v 2) (.v 3) (.v 4) (.c 0)) (.ap 21 (.v 1) (.v 5) (.v 6) (.v 7) (.c 0) (.c 0))) (.c .false))] []),
  (.fin (p3_::f24_) 0 ⟨⟨[],[]⟩,[],[],[]⟩ [(.eb (.and (.ap 20 (.v 0) (.v 1) (.v 2) (.v 3) (.v 4) (.c 0)) (.ap 21 (.v 1) (.v 5) (.v 6) (.v 7) (.c 0) (.c 0))) (.c .false))] []),
  (.fin (((.le (.c 0) (.v 3)),.true)::f31_) 0 ⟨⟨[],[]⟩,[],[],[]⟩ [(.eb (.and (.ap 20 (.v 0) (.v 1) (.v 2) (.v 3) (.v 4) (.c 0)) (.ap 21 (.v 1) (.v 5) (.v 6) (.v 7) (.c 0) (.c 0))) (.le (.v 3) (.c 3)))] []),
  (.fin (((.le (.c 0) (.v 3)),.false)::f31_) 0 ⟨⟨[],[]⟩,[],[],[]⟩ [(.eb (.and (.ap 20 (.v 0) (.v 1) (.v 2) (.v 3) (.v 4) (.c 0)) (.ap 21 (.v 1) (.v 5) (.v 6) (.v 7) (.c 0) (.c 0))) (.c .false))] []),
  (.fin (((.le (.v 2) (.c 5)),.false)::f29_) 0 ⟨⟨[],[]⟩,[],[],[]⟩ [(.eb (.and (.ap 20 (.v 0) (.v 1) (.v 2) (.v 3) (.v 4) (.c 0)) (.ap 21 (.v 1) (.v 5) (.v 6) (.v 7) (.c 0) (.c 0))) (.c .false))] []),
  (.fin (((.le (.c 0) (.v 2)),.false)::f27_) 0 ⟨⟨[],[]⟩,[],[],[]⟩ [(.eb (.and (.ap 20 (.v 0) (.v 1) (.v 2) (.v 3) (.v 4) (.c 0)) (.ap 21 (.v 1) (.v 5) (.v 6) (.v 7) (.c 0) (.c 0))) (.c .false))] []),
  (.fin (p5_::f21_) 0 ⟨⟨[],[]⟩,[],[],[]⟩ [(.eb (.and (.ap 20 (.v 0) (.v 1) (.v 2) (.v 3) (.v 4) (.c 0)) (.ap 21 (.v 1) (.v 5) (.v 6) (.v 7) (.c 0) (.c 0))) (.c .false))] []),
  (.fin (p6_::f18_) 0 ⟨⟨[],[]⟩,[],[],[]⟩ [(.eb (.and (.ap 20 (.v 0) (.v 1) (.v 2) (.v 3) (.v 4) (.c 0)) (.ap 21 (.v 1) (.v 5) (.v 6) (.v 7) (.c 0) (.c 0))) (.c .false))] []),
  (.fin (p7_::f14_) 0 ⟨⟨[],[]⟩,[],[],[]⟩ [(.eb (.and (.ap 20 (.v 0) (.v 1) (.v 2) (.v 3) (.v 4) (.c 0)) (.ap 21 (.v 1) (.v 5) (.v 6) (.v 7) (.c 0) (.c 0))) (.c .false))] []),
  (.fin (((.le (.v 4) (.c 1099511627776)),.false)::f11_) 0 ⟨⟨[],[]⟩,[],[],[]⟩ [(.eb (.and (.ap 20 (.v 0) (.v 1) (.v 2) (.v 3) (.v 4) (.c 0)) (.ap 21 (.v 1) (.v 5) (.v 6) (.v 7) (.c 0) (.c 0))) (.c .false))] []),
  (.fin (((.le (.c 0) (.v 4)),.false)::f8_) 0 ⟨⟨[],[]⟩,[],[],[]⟩ [(.eb (.and (.ap 20 (.v 0) (.v 1) (.v 2) (.v 3) (.v 4) (.c 0)) (.ap 21 (.v 1) (.v 5) (.v 6) (.v 7) (.c 0) (.c 0))) (.c .false))] []),
  (.fin (p3_::f22_) 0 ⟨⟨[],[]⟩,[],[],[]⟩ [(.eb (.and (.ap 20 (.v 0) (.v 1) (.v 2) (.v 3) (.v 4) (.c 0)) (.ap 21 (.v 1) (.v 5) (.v 6) (.v 7) (.c 0) (.c 0))) (.c .false))] []),
  (.fin (((.le (.c 0) (.v 3)),.true)::f30_) 0 ⟨⟨[],[]⟩,[],[],[]⟩ [(.eb (.and (.ap 20 (.v 0) (.v 1) (.v 2) (.v 3) (.v 4) (.c 0)) (.ap 21 (.v 1) (.v 5) (.v 6) (.v 7) (.c 0) (.c 0))) (.le (.v 3) (.c 3)))] []),
  (.fin (((.le (.c 0) (.v 3)),.false)::f30_) 0 ⟨⟨[],[]⟩,[],[],[]⟩ [(.eb (.and (.ap 20 (.v 0) (.v 1) (.v 2) (.v 3) (.v 4) (.c 0)) (.ap 21 (.v 1) (.v 5) (.v 6) (.v 7) (.c 0) (.c 0))) (.c .false))] []),
  (.fin (((.le (.v 2) (.c 5)),.false)::f28_) 0 ⟨⟨[],[]⟩,[],[],[]⟩ [(.eb (.and (.ap 20 (.v 0) (.v 1) (.v 2) (.v 3) (.v 4) (.c 0)) (.ap 21 (.v 1) (.v 5) (.v 6) (.v 7) (.c 0) (.c 0))) (.c .false))] []),
  (.fin (((.le (.c 0) (.v 2)),.false)::f25_) 0 ⟨⟨[],[]⟩,[],[],[]⟩ [(.eb (.and (.ap 20 (.v 0) (.v 1) (.v 2) (.v 3) (.v 4) (.c 0)) (.ap 21 (.v 1) (.v 5) (.v 6) (.v 7) (.c 0) (.c 0))) (.c .false))] []),
  (.fin (((.le (.v 7) (.c 4611686018427387904)),.false)::f19_) 0 ⟨⟨[],[]⟩,[],[],[]⟩ [(.eb (.and (.ap 20 (.v 0) (.v 1) (.v 2) (.v 3) (.v 4) (.c 0)) (.ap 21 (.v 1) (.v 5) (.v 6) (.v 7) (.c 0) (.c 0))) (.c .false))] []),
  (.fin (((.le (.v 6) (.v 5)),.false)::f15_) 0 ⟨⟨[],[]⟩,[],[],[]⟩ [(.eb (.and (.ap 20 (.v 0) (.v 1) (.v 2) (.v 3) (.v 4) (.c 0)) (.ap 21 (.v 1) (.v 5) (.v 6) (.v 7) (.c 0) (.c 0))) (.c .false))] []),
  (.fin (p3_::f26_) 0 ⟨⟨[],[]⟩,[],[],[]⟩ [(.eb (.and (.ap 20 (.v 0) (.v 1) (.v 2) (.v 3) (.v 4) (.c 0)) (.ap 21 (.v 1) (.v 5) (.v 6) (.v 7) (.c 0) (.c 0))) (.eq (.v 3) (.c 0)))] []),
  (.fin (p4_::f26_) 0 ⟨⟨[],[]⟩,[],[],[]⟩ [(.eb (.and (.ap 20 (.v 0) (.v 1) (.v 2) (.v 3) (.v 4) (.c 0)) (.ap 21 (.v 1) (.v 5) (.v 6) (.v 7) (.c 0) (.c 0))) (.c .false))] []),
  (.fin (p5_::f23_) 0 ⟨⟨[],[]⟩,[],[],[]⟩ [(.eb (.and (.ap 20 (.v 0) (.v 1) (.v 2) (.v 3) (.v 4) (.c 0)) (.ap 21 (.v 1) (.v 5) (.v 6) (.v 7) (.c 0) (.c 0))) (.c .false))] []),
  (.fin (p6_::f20_) 0 ⟨⟨[],[]⟩,[],[],[]⟩ [(.eb (.and (.ap 20 (.v 0) (.v 1) (.v 2) (.v 3) (.v 4) (.c 0)) (.ap 21 (.v 1) (.v 5) (.v 6) (.v 7) (.c 0) (.c 0))) (.c .false))] []),
  (.fin (p7_::f16_) 0 ⟨⟨[],[]⟩,[],[],[]⟩ [(.eb (.and (.ap 20 (.v 0) (.v 1) (.v 2) (.v 3) (.v 4) (.c 0)) (.ap 21 (.v 1) (.v 5) (.v 6) (.v 7) (.c 0) (.c 0))) (.c .false))] []),
  (.fin (((.eq (.v 4) (.c 0)),.false)::f9_) 0 ⟨⟨[],[]⟩,[],[],[]⟩ [(.eb (.and (.ap 20 (.v 0) (.v 1) (.v 2) (.v 3) (.v 4) (.c 0)) (.ap 21 (.v 1) (.v 5) (.v 6) (.v 7) (.c 0) (.c 0))) (.c .false))] [])]
def rMay_run (T:Tm):=(ex (ccOf Tryz.prog BF [55,53,52,54] rMay) ((fun _=>[]) (ccOf Tryz.prog BF [55,53,52,54] rMay)) (dw (ccOf Tryz.prog BF [55,53,52,54] rMay) ((fun _=>[]) (ccOf Tryz.prog BF [55,53,52,54] rMay)) 1000 4) (stopX []) 4000 T.f T.fs T.H).lfs (ccOf Tryz.prog BF [55,53,52,54] rMay) ((tm0 rMay Tryz.f43 (Tryz.f43.body.getD .skip))::[]) rMay.os
theorem rMay_h0:rMay_run (tm0 rMay Tryz.f43 (Tryz.f43.body.getD .skip))=some rMay_L0:=by kernel_rfl
def rMay_inv:(Nat→Int)→(Nat→Bool)→Nat→(Nat→Int)→(Nat→Bool)→Prop:=fun _ _ _ _ _=>True
def rMay_mu:(Nat→Int)→(Nat→Bool)→Nat→(Nat→Int)→(Nat→Bool)→Nat:=fun _ _ _ _ _=>0
theorem rMay_b {iv0:Nat→Int} (hin:InB rMay.B iv0):(0≤iv0 7∧iv0 7≤18446744073709551615)∧((-9223372036854775808)≤iv0 0∧iv0 0≤9223372036854775807)∧((-9223372036854775808)≤iv0 1∧iv0 1≤9223372036854775807)∧((-9223372036854775808)≤iv0 2∧iv0 2≤9223372036854775807)∧((-9223372036854775808)≤iv0 3∧iv0 3≤9223372036854775807)∧((-9223372036854775808)≤iv0 4∧iv0 4≤9223372036854775807)∧((-9223372036854775808)≤iv0 5∧iv0 5≤9223372036854775807)∧((-9223372036854775808)≤iv0 6∧iv0 6≤9223372036854775807):=by
 have b7:=hin 7 0 18446744073709551615 (by simp [rMay,kS,slV,mayV,i64s,i64b,lmap,lS,gS,bS,fS,bdS,shV,o1,frS,stS,chS,mAS,usS,acS,erS,chE,gS2,lS2,bS2,fS2,sAcq])
 simp only [Int.reduceLE,reduceIte,Int.reduceNeg] at b7
 have b0:=hin 0 (-9223372036854775808) 9223372036854775807 (by simp [rMay,kS,slV,mayV,i64s,i64b,lmap,lS,gS,bS,fS,bdS,shV,o1,frS,stS,chS,mAS,usS,acS,erS,chE,gS2,lS2,bS2,fS2,sAcq])
 simp only [Int.reduceLE,reduceIte,Int.reduceNeg] at b0
 have b1:=hin 1 (-9223372036854775808) 9223372036854775807 (by simp [rMay,kS,slV,mayV,i64s,i64b,lmap,lS,gS,bS,fS,bdS,shV,o1,frS,stS,chS,mAS,usS,acS,erS,chE,gS2,lS2,bS2,fS2,sAcq])
 simp only [Int.reduceLE,reduceIte,Int.reduceNeg] at b1
 have b2:=hin 2 (-9223372036854775808) 9223372036854775807 (by simp [rMay,kS,slV,mayV,i64s,i64b,lmap,lS,gS,bS,fS,bdS,shV,o1,frS,stS,chS,mAS,usS,acS,erS,chE,gS2,lS2,bS2,fS2,sAcq])
 simp only [Int.reduceLE,reduceIte,Int.reduceNeg] at b2
 have b3:=hin 3 (-9223372036854775808) 9223372036854775807 (by simp [rMay,kS,slV,mayV,i64s,i64b,lmap,lS,gS,bS,fS,bdS,shV,o1,frS,stS,chS,mAS,usS,acS,erS,chE,gS2,lS2,bS2,fS2,sAcq])
 simp only [Int.reduceLE,reduceIte,Int.reduceNeg] at b3
 have b4:=hin 4 (-9223372036854775808) 9223372036854775807 (by simp [rMay,kS,slV,mayV,i64s,i64b,lmap,lS,gS,bS,fS,bdS,shV,o1,frS,stS,chS,mAS,usS,acS,erS,chE,gS2,lS2,bS2,fS2,sAcq])
 simp only [Int.reduceLE,reduceIte,Int.reduceNeg] at b4
 have b5:=hin 5 (-9223372036854775808) 9223372036854775807 (by simp [rMay,kS,slV,mayV,i64s,i64b,lmap,lS,gS,bS,fS,bdS,shV,o1,frS,stS,chS,mAS,usS,acS,erS,chE,gS2,lS2,bS2,fS2,sAcq])
 simp only [Int.reduceLE,reduceIte,Int.reduceNeg] at b5
 have b6:=hin 6 (-9223372036854775808) 9223372036854775807 (by simp [rMay,kS,slV,mayV,i64s,i64b,lmap,lS,gS,bS,fS,bdS,shV,o1,frS,stS,chS,mAS,usS,acS,erS,chE,gS2,lS2,bS2,fS2,sAcq])
 simp only [Int.reduceLE,reduceIte,Int.reduceNeg] at b6
 exact ⟨b7,b0,b1,b2,b3,b4,b5,b6⟩
def rMay_ob (k:Nat) (l:List Lf):Prop:=∀ (kv:Kv) (iv0:Nat→Int) (bv0:Nat→Bool),InB rMay.B iv0→FT (sta FI FB kv iv0 bv0) (dlt dyn0) rMay.F→∀ (iv:Nat→Int) (bv:Nat→Bool),Agr 8 iv0 bv0 iv bv→rMay_inv iv0 bv0 k iv bv→∀ lf∈l,LfT (sta FI FB kv) rMay.os (rMay_inv iv0 bv0) (rMay_mu iv0 bv0) k iv bv lf
theorem rMay_o0:rMay_ob 0 rMay_L0:=by
 intro kv iv0 bv0 hin hF iv bv ha hi
 unfold rMay_L0
 refine List.forall_mem_cons.2 ⟨?_,List.forall_mem_cons.2 ⟨?_,List.forall_mem_cons.2 ⟨?_,List.forall_mem_cons.2 ⟨?_,List.forall_mem_cons.2 ⟨?_,List.forall_mem_cons.2 ⟨?_,List.forall_mem_cons.2 ⟨?_,List.forall_mem_cons.2 ⟨?_,List.forall_mem_cons.2 ⟨?_,List.forall_mem_cons.2 ⟨?_,List.forall_mem_cons.2 ⟨?_,List.forall_mem_cons.2 ⟨?_,List.forall_mem_cons.2 ⟨?_,List.forall_mem_cons.2 ⟨?_,List.forall_mem_cons.2 ⟨?_,List.forall_mem_cons.2 ⟨?_,List.forall_mem_cons.2 ⟨?_,List.forall_mem_cons.2 ⟨?_,List.forall_mem_cons.2 ⟨?_,List.forall_mem_cons.2 ⟨?_,List.forall_mem_cons.2 ⟨?_,List.forall_mem_cons.2 ⟨?_,List.forall_mem_cons.2 ⟨?_,List.forall_mem_cons.2 ⟨?_,List.forall_mem_cons.2 ⟨?_,List.forall_mem_cons.2 ⟨?_,List.forall_mem_cons.2 ⟨?_,List.forall_mem_cons.2 ⟨?_,List.forall_mem_cons.2 ⟨?_,List.forall_mem_cons.2 ⟨?_,List.forall_mem_cons.2 ⟨?_,List.forall_mem_cons.2 ⟨?_,List.forall_mem_cons.2 ⟨?_,List.forall_mem_cons.2 ⟨?_,List.forall_mem_cons.2 ⟨?_,List.forall_mem_nil _⟩⟩⟩⟩⟩⟩⟩⟩⟩⟩⟩⟩⟩⟩⟩⟩⟩⟩⟩⟩⟩⟩⟩⟩⟩⟩⟩⟩⟩⟩⟩⟩⟩⟩⟩
 all_goals
  intro δ hf
 all_goals
  obtain ⟨b7,b0,b1,b2,b3,b4,b5,b6⟩:=rMay_b hin
 all_goals
  have a0:=ha.1 0 (by omega)
  have a1:=ha.1 1 (by omega)
  have a2:=ha.1 2 (by omega)
  have a3:=ha.1 3 (by omega)
  have a4:=ha.1 4 (by omega)
  have a5:=ha.1 5 (by omega)
  have a6:=ha.1 6 (by omega)
  have a7:=ha.1 7 (by omega)
 all_goals
  simp only [FT,TP,SB.tp,SI.tv,sta,IB.eval,and_true,true_and,ObsT,Ob.Tv,rowT,kix,In.tiv,↓tbvT,In.tbv,get_cons,get_nil,reduceIte,Nat.reduceEqDiff,Int.reduceToNat,Int.reduceAdd,Int.reduceSub,Int.reduceLE,Int.reduceLT,Int.reduceEq,ne_eq,Bool.false_eq_true,not_true_eq_false,not_false_eq_true,true_iff,false_iff,iff_true,iff_false,false_implies,implies_true,decT,decide_true,decide_false,Bool.decide_eq_true,ap2,pb2,FI_3,FI_3u,FI_8,FI_9,FI_3g,FI_3k,FI_8s,FI_8l,FI_8d,FB_1h,FB_1a,Int.toNat_natCast,Int.toNat_zero,FI_20,FI_21,FB_20,FB_21,rMay_inv,rMay_mu,rMay,o1,othT,kS,slV,mayV,i64s,i64b,lmap,lS,gS,bS,fS,bdS,shV,o1,frS,stS,chS,mAS,usS,acS,erS,chE,gS2,lS2,bS2,fS2,sAcq,a0,a1,a2,a3,a4,a5,a6,a7] at hf hi ⊢
 all_goals
  (repeat' (with_reducible apply And.intro))<;>first
  | omega
  | assumption
  | (unfold inM;omega)
  | exact trivial
  | (simp only [mayA,mayB];omega)
  | (intro h;simp only [mayA,mayB] at h;omega)
  | (clear hin hF ha;grind)
theorem rMay_c:LsC ((tm0 rMay Tryz.f43 (Tryz.f43.body.getD .skip))::[]) rMay.os [rMay_L0]:=by
 unfold rMay_L0
 exact ⟨List.forall_mem_cons.2 ⟨⟨⟨_,rfl,rfl⟩,by kernel_rfl⟩,List.forall_mem_cons.2 ⟨⟨⟨_,rfl,rfl⟩,by kernel_rfl⟩,List.forall_mem_cons.2 ⟨⟨⟨_,rfl,rfl⟩,by kernel_rfl⟩,List.forall_mem_cons.2 ⟨⟨⟨_,rfl,rfl⟩,by kernel_rfl⟩,List.forall_mem_cons.2 ⟨⟨⟨_,rfl,rfl⟩,by kernel_rfl⟩,List.forall_mem_cons.2 ⟨⟨⟨_,rfl,rfl⟩,by kernel_rfl⟩,List.forall_mem_cons.2 ⟨⟨⟨_,rfl,rfl⟩,by kernel_rfl⟩,List.forall_mem_cons.2 ⟨⟨⟨_,rfl,rfl⟩,by kernel_rfl⟩,List.forall_mem_cons.2 ⟨⟨⟨_,rfl,rfl⟩,by kernel_rfl⟩,List.forall_mem_cons.2 ⟨⟨⟨_,rfl,rfl⟩,by kernel_rfl⟩,List.forall_mem_cons.2 ⟨⟨⟨_,rfl,rfl⟩,by kernel_rfl⟩,List.forall_mem_cons.2 ⟨⟨⟨_,rfl,rfl⟩,by kernel_rfl⟩,List.forall_mem_cons.2 ⟨⟨⟨_,rfl,rfl⟩,by kernel_rfl⟩,List.forall_mem_cons.2 ⟨⟨⟨_,rfl,rfl⟩,by kernel_rfl⟩,List.forall_mem_cons.2 ⟨⟨⟨_,rfl,rfl⟩,by kernel_rfl⟩,List.forall_mem_cons.2 ⟨⟨⟨_,rfl,rfl⟩,by kernel_rfl⟩,List.forall_mem_cons.2 ⟨⟨⟨_,rfl,rfl⟩,by kernel_rfl⟩,List.forall_mem_cons.2 ⟨⟨⟨_,rfl,rfl⟩,by kernel_rfl⟩,List.forall_mem_cons.2 ⟨⟨⟨_,rfl,rfl⟩,by kernel_rfl⟩,List.forall_mem_cons.2 ⟨⟨⟨_,rfl,rfl⟩,by kernel_rfl⟩,List.forall_mem_cons.2 ⟨⟨⟨_,rfl,rfl⟩,by kernel_rfl⟩,List.forall_mem_cons.2 ⟨⟨⟨_,rfl,rfl⟩,by kernel_rfl⟩,List.forall_mem_cons.2 ⟨⟨⟨_,rfl,rfl⟩,by kernel_rfl⟩,List.forall_mem_cons.2 ⟨⟨⟨_,rfl,rfl⟩,by kernel_rfl⟩,List.forall_mem_cons.2 ⟨⟨⟨_,rfl,rfl⟩,by kernel_rfl⟩,List.forall_mem_cons.2 ⟨⟨⟨_,rfl,rfl⟩,by kernel_rfl⟩,List.forall_mem_cons.2 ⟨⟨⟨_,rfl,rfl⟩,by kernel_rfl⟩,List.forall_mem_cons.2 ⟨⟨⟨_,rfl,rfl⟩,by kernel_rfl⟩,List.forall_mem_cons.2 ⟨⟨⟨_,rfl,rfl⟩,by kernel_rfl⟩,List.forall_mem_cons.2 ⟨⟨⟨_,rfl,rfl⟩,by kernel_rfl⟩,List.forall_mem_cons.2 ⟨⟨⟨_,rfl,rfl⟩,by kernel_rfl⟩,List.forall_mem_cons.2 ⟨⟨⟨_,rfl,rfl⟩,by kernel_rfl⟩,List.forall_mem_cons.2 ⟨⟨⟨_,rfl,rfl⟩,by kernel_rfl⟩,List.forall_mem_cons.2 ⟨⟨⟨_,rfl,rfl⟩,by kernel_rfl⟩,List.forall_mem_cons.2 ⟨⟨⟨_,rfl,rfl⟩,by kernel_rfl⟩,List.forall_mem_nil _⟩⟩⟩⟩⟩⟩⟩⟩⟩⟩⟩⟩⟩⟩⟩⟩⟩⟩⟩⟩⟩⟩⟩⟩⟩⟩⟩⟩⟩⟩⟩⟩⟩⟩⟩,trivial⟩
theorem rMay_ok:rMay.Ok Tryz.prog FI FB:=
 Con.of_plain (body:=Tryz.f43.body.getD .skip) pok fiok EntsFor.nil rMay Tryz.func43 (by kernel_rfl) 8 [] (by kernel_rfl) [rMay_L0] ⟨rMay_h0,trivial⟩ rMay_c
  rMay_inv rMay_mu (fun _ _ _=>trivial) fun kv iv0 bv0 hin hF k l iv bv hk ha hi=>match k,hk,hi with
  | 0,hk,hi=>by
    cases hk
    exact rMay_o0 kv iv0 bv0 hin hF iv bv ha hi
  | k+1,hk,_=>by simp at hk
def rRt_T1:Tm:=⟨⟨15,28,[(5,(.it .i64 (.v 27))),(1,(.sl (.k 0) (.v 2) (.v 1) (.v 3)))],[(.code (atC Tryz.f15 [1,1,0,1,0,0])),(.inLoop (atC Tryz.f15 [1,1,0,1,0,0])),(.inBlock 0),(.code (atC Tryz.f15 [1,1,1]))],[],.none⟩,[],
    ⟨[],0,0,0,[((.eq (.v 1) (.v 6)),.true),((.le (.v 6) (.c 4)),.true),((.le (.c 1) (.v 6)),.true),((.le (.v 5) (.c 8)),.true),((.le (.c 1) (.v 5)),.true),((.le (.v 4) (.c 64)),.true),((.le (.c 1) (.v 4)),.true),((.le (.v 1) (.v 3)),.true),((.le (.c 0) (.v 3)),.true)],[1,0],[(6,(1,4)),(5,(1,8)),(4,(1,64)),(1,(0,64)),(2,(0,(-1))),(27,(0,(-1)))]⟩,[27]⟩
def rRt_L0:List Lf:=
 let x0_:SI:=(.ap 22 (.v 0) (.v 1) (.v 4) (.v 5) (.v 6) (.c 0))
 let f0_:List (SB×Bool):=[((.le (.v 1) (.v 3)),.true),((.le (.c 0) (.v 3)),.true)]
 let f1_:List (SB×Bool):=((.le (.c 1) (.v 4)),.true)::f0_
 let f2_:List (SB×Bool):=((.le (.v 4) (.c 64)),.true)::f1_
 let f3_:List (SB×Bool):=((.le (.c 1) (.v 5)),.true)::f2_
 let f4_:List (SB×Bool):=((.le (.v 5) (.c 8)),.true)::f3_
 let f5_:List (SB×Bool):=((.le (.c 1) (.v 6)),.true)::f4_
 let f6_:List (SB×Bool):=((.le (.v 6) (.c 4)),.true)::f5_
 [(.cut (((.eq (.v 1) (.v 6)),.true)::f6_) 1 ⟨⟨[(27,(.c 0))],[]⟩,[],[],[]⟩ [] (shT rRt_T1 ⟨⟨[(27,(.c 0))],[]⟩,[],[],[]⟩)),
  (.fin (((.eq (.v 1) (.v 6)),.false)::f6_) 0 ⟨⟨[],[]⟩,[],[],[]⟩ [(.eb (.eq x0_ (.c 0)) (.c .false))] []),
  (.fin (((.le (.v 6) (.c 4)),.false)::f5_) 0 ⟨⟨[],[]⟩,[],[],[]⟩ [(.eb (.eq x0_ (.c 0)) (.c .false))] []),
  (.fin (((.le (.c 1) (.v 6)),.false)::f4_) 0 ⟨⟨[],[]⟩,[],[],[]⟩ [(.eb (.eq x0_ (.c 0)) (.c .false))] []),
  (.fin (((.le (.v 5) (.c 8)),.false)::f3_) 0 ⟨⟨[],[]⟩,[],[],[]⟩ [(.eb (.eq x0_ (.c 0)) (.c .false))] []),
  (.fin (((.le (.c 1) (.v 5)),.false)::f2_) 0 ⟨⟨[],[]⟩,[],[],[]⟩ [(.eb (.eq x0_ (.c 0)) (.c .false))] []),
  (.fin (((.le (.v 4) (.c 64)),.false)::f1_) 0 ⟨⟨[],[]⟩,[],[],[]⟩ [(.eb (.eq x0_ (.c 0)) (.c .false))] []),
  (.fin (((.le (.c 1) (.v 4)),.false)::f0_) 0 ⟨⟨[],[]⟩,[],[],[]⟩ [(.eb (.eq x0_ (.c 0)) (.c .false))] [])]
def rRt_L1:List Lf:=
 let x0_:SI:=(.ap 3 (.v 0) (.v 27) (.c 0) (.c 0) (.c 0) (.c 0))
 let x1_:SI:=(.ap 3 (.v 0) (.v 27) (.c 1) (.c 0) (.c 0) (.c 0))
 let x2_:SI:=(.ap 3 (.v 0) (.v 27) (.c 2) (.c 0) (.c 0) (.c 0))
 let x3_:SI:=(.ap 3 (.v 0) (.v 27) (.c 3) (.c 0) (.c 0) (.c 0))
 let x4_:SI:=(.ap 3 (.v 0) (.v 27) (.c 4) (.c 0) (.c 0) (.c 0))
 let x5_:SI:=(.ap 3 (.v 0) (.v 27) (.c 5) (.c 0) (.c 0) (.c 0))
 let x6_:SI:=(.ap 3 (.v 0) (.v 27) (.c 6) (.c 0) (.c 0) (.c 0))
 let x7_:SI:=(.ap 7 (.v 0) (.v 27) (.c 7) (.c 0) (.c 0) (.c 0))
 let x8_:SI:=(.ap 22 (.v 0) (.v 1) (.v 4) (.v 5) (.v 6) (.c 0))
 let f0_:List (SB×Bool):=[((.eq (.v 1) (.v 6)),.true),((.le (.v 6) (.c 4)),.true),((.le (.c 1) (.v 6)),.true),((.le (.v 5) (.c 8)),.true),((.le (.c 1) (.v 5)),.true),((.le (.v 4) (.c 64)),.true),((.le (.c 1) (.v 4)),.true),((.le (.v 1) (.v 3)),.true),((.le (.c 0) (.v 3)),.true)]
 let f1_:List (SB×Bool):=((.lt (.v 27) (.v 1)),.true)::f0_
 let f2_:List (SB×Bool):=((.ap 20 x0_ x1_ x2_ x3_ x4_ (.c 0)),.true)::f1_
 [(.cut (((.ap 21 x1_ x5_ x6_ x7_ (.c 0) (.c 0)),.true)::f2_) 1 ⟨⟨[(27,(.op .add (.v 27) (.c 1)))],[]⟩,[],[],[]⟩ [] (shT rRt_T1 ⟨⟨[(27,(.op .add (.v 27) (.c 1)))],[]⟩,[],[],[]⟩)),
  (.fin (((.ap 21 x1_ x5_ x6_ x7_ (.c 0) (.c 0)),.false)::f2_) 0 ⟨⟨[],[]⟩,[],[],[]⟩ [(.eb (.eq x8_ (.c 0)) (.c .false))] []),
  (.fin (((.ap 20 x0_ x1_ x2_ x3_ x4_ (.c 0)),.false)::f1_) 0 ⟨⟨[],[]⟩,[],[],[]⟩ [(.eb (.eq x8_ (.c 0)) (.c .false))] []),
  (.fin (((.lt (.v 27) (.v 1)),.false)::f0_) 0 ⟨⟨[],[]⟩,[],[],[]⟩ [(.eb (.eq x8_ (.c 0)) (.c .true))] [])]
def rRt_run (T:Tm):=(ex (ccOf Tryz.prog BF [55,53,52,54] rRt) ((fun cc=>[rMay.ent cc]) (ccOf Tryz.prog BF [55,53,52,54] rRt)) (dw (ccOf Tryz.prog BF [55,53,52,54] rRt) ((fun cc=>[rMay.ent cc]) (ccOf Tryz.prog BF [55,53,52,54] rRt)) 1000 4) (stopX []) 4000 T.f T.fs T.H).lfs (ccOf Tryz.prog BF [55,53,52,54] rRt) ((tm0 rRt Tryz.f15 (Tryz.f15.body.getD .skip))::[rRt_T1]) rRt.os
theorem rRt_h0:rRt_run (tm0 rRt Tryz.f15 (Tryz.f15.body.getD .skip))=some rRt_L0:=by kernel_rfl
theorem rRt_h1:rRt_run rRt_T1=some rRt_L1:=by kernel_rfl
def rRt_inv:(Nat→Int)→(Nat→Bool)→Nat→(Nat→Int)→(Nat→Bool)→Prop:=fun iv0 _ k iv _=>match k with | 0=>True | _=>0≤iv 27∧iv 27≤iv0 1∧shpS (iv0 4) (iv0 5) (iv0 6)∧∀ j:Nat,(j:Int) < iv 27→mayR (iv0 0) j
def rRt_mu:(Nat→Int)→(Nat→Bool)→Nat→(Nat→Int)→(Nat→Bool)→Nat:=fun iv0 _ k iv _=>match k with | 0=>2 ^ 90 | _=>(iv0 1 - iv 27).toNat
theorem rRt_b {iv0:Nat→Int} (hin:InB rRt.B iv0):(0≤iv0 1∧iv0 1≤64)∧0≤iv0 2∧((-9223372036854775808)≤iv0 4∧iv0 4≤9223372036854775807)∧((-9223372036854775808)≤iv0 5∧iv0 5≤9223372036854775807)∧((-9223372036854775808)≤iv0 6∧iv0 6≤9223372036854775807):=by
 have b1:=hin 1 0 64 (by simp [rRt,kS,slV,mayV,i64s,i64b,lmap,lS,gS,bS,fS,bdS,shV,o1,frS,stS,chS,mAS,usS,acS,erS,chE,gS2,lS2,bS2,fS2,sAcq])
 simp only [Int.reduceLE,reduceIte,Int.reduceNeg] at b1
 have b2:=hin 2 0 (-1) (by simp [rRt,kS,slV,mayV,i64s,i64b,lmap,lS,gS,bS,fS,bdS,shV,o1,frS,stS,chS,mAS,usS,acS,erS,chE,gS2,lS2,bS2,fS2,sAcq])
 simp only [Int.reduceLE,reduceIte,Int.reduceNeg] at b2
 have b4:=hin 4 (-9223372036854775808) 9223372036854775807 (by simp [rRt,kS,slV,mayV,i64s,i64b,lmap,lS,gS,bS,fS,bdS,shV,o1,frS,stS,chS,mAS,usS,acS,erS,chE,gS2,lS2,bS2,fS2,sAcq])
 simp only [Int.reduceLE,reduceIte,Int.reduceNeg] at b4
 have b5:=hin 5 (-9223372036854775808) 9223372036854775807 (by simp [rRt,kS,slV,mayV,i64s,i64b,lmap,lS,gS,bS,fS,bdS,shV,o1,frS,stS,chS,mAS,usS,acS,erS,chE,gS2,lS2,bS2,fS2,sAcq])
 simp only [Int.reduceLE,reduceIte,Int.reduceNeg] at b5
 have b6:=hin 6 (-9223372036854775808) 9223372036854775807 (by simp [rRt,kS,slV,mayV,i64s,i64b,lmap,lS,gS,bS,fS,bdS,shV,o1,frS,stS,chS,mAS,usS,acS,erS,chE,gS2,lS2,bS2,fS2,sAcq])
 simp only [Int.reduceLE,reduceIte,Int.reduceNeg] at b6
 exact ⟨b1,b2.1,b4,b5,b6⟩
def rRt_ob (k:Nat) (l:List Lf):Prop:=∀ (kv:Kv) (iv0:Nat→Int) (bv0:Nat→Bool),InB rRt.B iv0→FT (sta FI FB kv iv0 bv0) (dlt dyn0) rRt.F→∀ (iv:Nat→Int) (bv:Nat→Bool),Agr 7 iv0 bv0 iv bv→rRt_inv iv0 bv0 k iv bv→∀ lf∈l,LfT (sta FI FB kv) rRt.os (rRt_inv iv0 bv0) (rRt_mu iv0 bv0) k iv bv lf
theorem rRt_o0:rRt_ob 0 rRt_L0:=by
 intro kv iv0 bv0 hin hF iv bv ha hi
 unfold rRt_L0
 refine List.forall_mem_cons.2 ⟨?_,List.forall_mem_cons.2 ⟨?_,List.forall_mem_cons.2 ⟨?_,List.forall_mem_cons.2 ⟨?_,List.forall_mem_cons.2 ⟨?_,List.forall_mem_cons.2 ⟨?_,List.forall_mem_cons.2 ⟨?_,List.forall_mem_cons.2 ⟨?_,List.forall_mem_nil _⟩⟩⟩⟩⟩⟩⟩⟩
 all_goals
  intro δ hf
 all_goals
  obtain ⟨b1,b2,b4,b5,b6⟩:=rRt_b hin
 all_goals
  have a0:=ha.1 0 (by omega)
  have a1:=ha.1 1 (by omega)
  have a2:=ha.1 2 (by omega)
  have a3:=ha.1 3 (by omega)
  have a4:=ha.1 4 (by omega)
  have a5:=ha.1 5 (by omega)
  have a6:=ha.1 6 (by omega)
 all_goals
  simp only [FT,TP,SB.tp,SI.tv,sta,IB.eval,and_true,true_and,ObsT,Ob.Tv,rowT,kix,In.tiv,↓tbvT,In.tbv,get_cons,get_nil,reduceIte,Nat.reduceEqDiff,Int.reduceToNat,Int.reduceAdd,Int.reduceSub,Int.reduceLE,Int.reduceLT,Int.reduceEq,ne_eq,Bool.false_eq_true,not_true_eq_false,not_false_eq_true,true_iff,false_iff,iff_true,iff_false,false_implies,implies_true,decT,decide_true,decide_false,Bool.decide_eq_true,ap2,pb2,FI_3,FI_3u,FI_8,FI_9,FI_3g,FI_3k,FI_8s,FI_8l,FI_8d,FB_1h,FB_1a,Int.toNat_natCast,Int.toNat_zero,FI_20,FI_21,FI_22,FB_20,FB_21,FB_22,rRt_inv,rRt_mu,rRt,o1,othT,kS,slV,mayV,i64s,i64b,lmap,lS,gS,bS,fS,bdS,shV,o1,frS,stS,chS,mAS,usS,acS,erS,chE,gS2,lS2,bS2,fS2,sAcq,a0,a1,a2,a3,a4,a5,a6] at hf hi ⊢
 all_goals
  have e1:=@chk_0 (iv0 0) (iv0 1) (iv0 4) (iv0 5) (iv0 6)
 all_goals
  have e2:=@chk_2 (iv0 0) (iv0 1) (iv0 4) (iv0 5) (iv0 6)
 all_goals
  unfold shpS at e1 e2
 all_goals
  (repeat' (with_reducible apply And.intro))<;>first
  | omega
  | assumption
  | (unfold inM;omega)
  | exact trivial
  | (intro j hj;omega)
  | (unfold shpS;omega)
  | (clear hin hF ha;grind)
theorem rRt_o1:rRt_ob 1 rRt_L1:=by
 intro kv iv0 bv0 hin hF iv bv ha hi
 unfold rRt_L1
 refine List.forall_mem_cons.2 ⟨?_,List.forall_mem_cons.2 ⟨?_,List.forall_mem_cons.2 ⟨?_,List.forall_mem_cons.2 ⟨?_,List.forall_mem_nil _⟩⟩⟩⟩
 all_goals
  intro δ hf
 all_goals
  obtain ⟨b1,b2,b4,b5,b6⟩:=rRt_b hin
 all_goals
  have a0:=ha.1 0 (by omega)
  have a1:=ha.1 1 (by omega)
  have a2:=ha.1 2 (by omega)
  have a3:=ha.1 3 (by omega)
  have a4:=ha.1 4 (by omega)
  have a5:=ha.1 5 (by omega)
  have a6:=ha.1 6 (by omega)
 all_goals
  simp only [FT,TP,SB.tp,SI.tv,sta,IB.eval,and_true,true_and,ObsT,Ob.Tv,rowT,kix,In.tiv,↓tbvT,In.tbv,get_cons,get_nil,reduceIte,Nat.reduceEqDiff,Int.reduceToNat,Int.reduceAdd,Int.reduceSub,Int.reduceLE,Int.reduceLT,Int.reduceEq,ne_eq,Bool.false_eq_true,not_true_eq_false,not_false_eq_true,true_iff,false_iff,iff_true,iff_false,false_implies,implies_true,decT,decide_true,decide_false,Bool.decide_eq_true,ap2,pb2,FI_3,FI_3u,FI_8,FI_9,FI_3g,FI_3k,FI_8s,FI_8l,FI_8d,FB_1h,FB_1a,Int.toNat_natCast,Int.toNat_zero,FI_20,FI_21,FI_22,FB_20,FB_21,FB_22,rRt_inv,rRt_mu,rRt,o1,othT,kS,slV,mayV,i64s,i64b,lmap,lS,gS,bS,fS,bdS,shV,o1,frS,stS,chS,mAS,usS,acS,erS,chE,gS2,lS2,bS2,fS2,sAcq,a0,a1,a2,a3,a4,a5,a6] at hf hi ⊢
 all_goals
  obtain ⟨g0,g1,gs,g2⟩:=hi
 all_goals
  have e1:=fun h1 h2=>bad_some (c:=iv0 0) (n:=iv0 1) (by omega) g0 h1 h2 g2
 all_goals
  have e2:=fun h=>bad_none (c:=iv0 0) (n:=iv0 1) (by omega) h
 all_goals
  have e3:=may_suc g2 g0
 all_goals
  have e5:=@chk_0 (iv0 0) (iv0 1) (iv0 4) (iv0 5) (iv0 6) gs
 all_goals
  have e6:=@chk_2 (iv0 0) (iv0 1) (iv0 4) (iv0 5) (iv0 6)
 all_goals
  (repeat' (with_reducible apply And.intro))<;>first
  | omega
  | assumption
  | (unfold inM;omega)
  | (have e4:mayR (iv0 0) (iv 27).toNat:=(by unfold mayR;grind);exact e3 e4)
  | (have e4:¬ mayR (iv0 0) (iv 27).toNat:=(by unfold mayR;grind);have:=e1 (by omega) e4;rw [e6 (by omega)];omega)
  | (have:=e2 (fun j hj=>g2 j (by omega));exact e5 (by omega) (by omega))
  | (clear hin hF ha;grind)
theorem rRt_c:LsC ((tm0 rRt Tryz.f15 (Tryz.f15.body.getD .skip))::[rRt_T1]) rRt.os [rRt_L0,rRt_L1]:=by
 unfold rRt_L0 rRt_L1
 exact ⟨List.forall_mem_cons.2 ⟨⟨⟨_,rfl,rfl⟩,by kernel_rfl⟩,List.forall_mem_cons.2 ⟨⟨⟨_,rfl,rfl⟩,by kernel_rfl⟩,List.forall_mem_cons.2 ⟨⟨⟨_,rfl,rfl⟩,by kernel_rfl⟩,List.forall_mem_cons.2 ⟨⟨⟨_,rfl,rfl⟩,by kernel_rfl⟩,List.forall_mem_cons.2 ⟨⟨⟨_,rfl,rfl⟩,by kernel_rfl⟩,List.forall_mem_cons.2 ⟨⟨⟨_,rfl,rfl⟩,by kernel_rfl⟩,List.forall_mem_cons.2 ⟨⟨⟨_,rfl,rfl⟩,by kernel_rfl⟩,List.forall_mem_cons.2 ⟨⟨⟨_,rfl,rfl⟩,by kernel_rfl⟩,List.forall_mem_nil _⟩⟩⟩⟩⟩⟩⟩⟩,List.forall_mem_cons.2 ⟨⟨⟨_,rfl,rfl⟩,by kernel_rfl⟩,List.forall_mem_cons.2 ⟨⟨⟨_,rfl,rfl⟩,by kernel_rfl⟩,List.forall_mem_cons.2 ⟨⟨⟨_,rfl,rfl⟩,by kernel_rfl⟩,List.forall_mem_cons.2 ⟨⟨⟨_,rfl,rfl⟩,by kernel_rfl⟩,List.forall_mem_nil _⟩⟩⟩⟩,trivial⟩
theorem rRt_ok:rRt.Ok Tryz.prog FI FB:=
 Con.of_plain (body:=Tryz.f15.body.getD .skip) pok fiok (EntsFor.cons rMay_ok EntsFor.nil) rRt Tryz.func15 (by kernel_rfl) 7 [rRt_T1] (by kernel_rfl) [rRt_L0,rRt_L1] ⟨rRt_h0,rRt_h1,trivial⟩ rRt_c
  rRt_inv rRt_mu (fun _ _ _=>trivial) fun kv iv0 bv0 hin hF k l iv bv hk ha hi=>match k,hk,hi with
  | 0,hk,hi=>by
    cases hk
    exact rRt_o0 kv iv0 bv0 hin hF iv bv ha hi
  | 1,hk,hi=>by
    cases hk
    exact rRt_o1 kv iv0 bv0 hin hF iv bv ha hi
  | k+2,hk,_=>by simp at hk
def rSame_T1:Tm:=⟨⟨14,26,[(5,(.it .i64 (.v 28))),(0,(.sl (.k 0) (.v 2) (.v 1) (.v 3))),(1,(.sl (.k 1) (.v 6) (.v 5) (.v 7)))],[(.code (atC Tryz.f14 [1,1,0,1,0,0])),(.inLoop (atC Tryz.f14 [1,1,0,1,0,0])),(.inBlock 0),(.code (atC Tryz.f14 [1,1,1]))],[],.none⟩,[],
    ⟨[],0,0,0,[((.eq (.v 1) (.v 5)),.true),((.le (.v 5) (.v 7)),.true),((.le (.c 0) (.v 7)),.true),((.le (.v 1) (.v 3)),.true),((.le (.c 0) (.v 3)),.true)],[2,1,0],[(5,(0,64)),(6,(0,(-1))),(1,(0,64)),(2,(0,(-1))),(28,(0,(-1)))]⟩,[28]⟩
def rSame_L0:List Lf:=
 let f0_:List (SB×Bool):=[((.le (.v 5) (.v 7)),.true),((.le (.c 0) (.v 7)),.true),((.le (.v 1) (.v 3)),.true),((.le (.c 0) (.v 3)),.true)]
 [(.cut (((.eq (.v 1) (.v 5)),.true)::f0_) 1 ⟨⟨[(28,(.c 0))],[]⟩,[],[],[]⟩ [] (shT rSame_T1 ⟨⟨[(28,(.c 0))],[]⟩,[],[],[]⟩)),
  (.fin (((.eq (.v 1) (.v 5)),.false)::f0_) 0 ⟨⟨[],[]⟩,[],[],[]⟩ [(.eb (.ap 24 (.v 0) (.v 1) (.v 4) (.v 5) (.c 0) (.c 0)) (.c .false))] [])]
def rSame_L1:List Lf:=
 let x0_:SI:=(.ap 3 (.v 0) (.v 28) (.c 0) (.c 0) (.c 0) (.c 0))
 let x1_:SI:=(.ap 3 (.v 4) (.v 28) (.c 0) (.c 0) (.c 0) (.c 0))
 let x2_:SI:=(.ap 3 (.v 0) (.v 28) (.c 1) (.c 0) (.c 0) (.c 0))
 let x3_:SI:=(.ap 3 (.v 4) (.v 28) (.c 1) (.c 0) (.c 0) (.c 0))
 let x4_:SI:=(.ap 3 (.v 0) (.v 28) (.c 2) (.c 0) (.c 0) (.c 0))
 let x5_:SI:=(.ap 3 (.v 4) (.v 28) (.c 2) (.c 0) (.c 0) (.c 0))
 let x6_:SI:=(.ap 3 (.v 0) (.v 28) (.c 3) (.c 0) (.c 0) (.c 0))
 let x7_:SI:=(.ap 3 (.v 4) (.v 28) (.c 3) (.c 0) (.c 0) (.c 0))
 let x8_:SI:=(.ap 3 (.v 0) (.v 28) (.c 4) (.c 0) (.c 0) (.c 0))
 let x9_:SI:=(.ap 3 (.v 4) (.v 28) (.c 4) (.c 0) (.c 0) (.c 0))
 let x10_:SI:=(.ap 3 (.v 0) (.v 28) (.c 5) (.c 0) (.c 0) (.c 0))
 let x11_:SI:=(.ap 3 (.v 4) (.v 28) (.c 5) (.c 0) (.c 0) (.c 0))
 let x12_:SI:=(.ap 3 (.v 0) (.v 28) (.c 6) (.c 0) (.c 0) (.c 0))
 let x13_:SI:=(.ap 3 (.v 4) (.v 28) (.c 6) (.c 0) (.c 0) (.c 0))
 let x14_:SI:=(.ap 7 (.v 0) (.v 28) (.c 7) (.c 0) (.c 0) (.c 0))
 let x15_:SI:=(.ap 7 (.v 4) (.v 28) (.c 7) (.c 0) (.c 0) (.c 0))
 let f0_:List (SB×Bool):=[((.eq (.v 1) (.v 5)),.true),((.le (.v 5) (.v 7)),.true),((.le (.c 0) (.v 7)),.true),((.le (.v 1) (.v 3)),.true),((.le (.c 0) (.v 3)),.true)]
 let f1_:List (SB×Bool):=((.lt (.v 28) (.v 1)),.true)::f0_
 let f2_:List (SB×Bool):=((.eq x0_ x1_),.true)::f1_
 let f3_:List (SB×Bool):=((.eq x2_ x3_),.true)::f2_
 let f4_:List (SB×Bool):=((.eq x4_ x5_),.true)::f3_
 let f5_:List (SB×Bool):=((.eq x6_ x7_),.true)::f4_
 let f6_:List (SB×Bool):=((.eq x8_ x9_),.true)::f5_
 let f7_:List (SB×Bool):=((.eq x10_ x11_),.true)::f6_
 let f8_:List (SB×Bool):=((.eq x12_ x13_),.true)::f7_
 [(.cut (((.eq x14_ x15_),.true)::f8_) 1 ⟨⟨[(28,(.op .add (.v 28) (.c 1)))],[]⟩,[],[],[]⟩ [] (shT rSame_T1 ⟨⟨[(28,(.op .add (.v 28) (.c 1)))],[]⟩,[],[],[]⟩)),
  (.fin (((.eq x14_ x15_),.false)::f8_) 0 ⟨⟨[],[]⟩,[],[],[]⟩ [(.eb (.ap 24 (.v 0) (.v 1) (.v 4) (.v 5) (.c 0) (.c 0)) (.c .false))] []),
  (.fin (((.eq x12_ x13_),.false)::f7_) 0 ⟨⟨[],[]⟩,[],[],[]⟩ [(.eb (.ap 24 (.v 0) (.v 1) (.v 4) (.v 5) (.c 0) (.c 0)) (.c .false))] []),
  (.fin (((.eq x10_ x11_),.false)::f6_) 0 ⟨⟨[],[]⟩,[],[],[]⟩ [(.eb (.ap 24 (.v 0) (.v 1) (.v 4) (.v 5) (.c 0) (.c 0)) (.c .false))] []),
  (.fin (((.eq x8_ x9_),.false)::f5_) 0 ⟨⟨[],[]⟩,[],[],[]⟩ [(.eb (.ap 24 (.v 0) (.v 1) (.v 4) (.v 5) (.c 0) (.c 0)) (.c .false))] []),
  (.fin (((.eq x6_ x7_),.false)::f4_) 0 ⟨⟨[],[]⟩,[],[],[]⟩ [(.eb (.ap 24 (.v 0) (.v 1) (.v 4) (.v 5) (.c 0) (.c 0)) (.c .false))] []),
  (.fin (((.eq x4_ x5_),.false)::f3_) 0 ⟨⟨[],[]⟩,[],[],[]⟩ [(.eb (.ap 24 (.v 0) (.v 1) (.v 4) (.v 5) (.c 0) (.c 0)) (.c .false))] []),
  (.fin (((.eq x2_ x3_),.false)::f2_) 0 ⟨⟨[],[]⟩,[],[],[]⟩ [(.eb (.ap 24 (.v 0) (.v 1) (.v 4) (.v 5) (.c 0) (.c 0)) (.c .false))] []),
  (.fin (((.eq x0_ x1_),.false)::f1_) 0 ⟨⟨[],[]⟩,[],[],[]⟩ [(.eb (.ap 24 (.v 0) (.v 1) (.v 4) (.v 5) (.c 0) (.c 0)) (.c .false))] []),
  (.fin (((.lt (.v 28) (.v 1)),.false)::f0_) 0 ⟨⟨[],[]⟩,[],[],[]⟩ [(.eb (.ap 24 (.v 0) (.v 1) (.v 4) (.v 5) (.c 0) (.c 0)) (.c .true))] [])]
def rSame_run (T:Tm):=(ex (ccOf Tryz.prog BF [55,53,52,54] rSame) ((fun _=>[]) (ccOf Tryz.prog BF [55,53,52,54] rSame)) (dw (ccOf Tryz.prog BF [55,53,52,54] rSame) ((fun _=>[]) (ccOf Tryz.prog BF [55,53,52,54] rSame)) 1000 4) (stopX []) 4000 T.f T.fs T.H).lfs (ccOf Tryz.prog BF [55,53,52,54] rSame) ((tm0 rSame Tryz.f14 (Tryz.f14.body.getD .skip))::[rSame_T1]) rSame.os
theorem rSame_h0:rSame_run (tm0 rSame Tryz.f14 (Tryz.f14.body.getD .skip))=some rSame_L0:=by kernel_rfl
theorem rSame_h1:rSame_run rSame_T1=some rSame_L1:=by kernel_rfl
def rSame_inv:(Nat→Int)→(Nat→Bool)→Nat→(Nat→Int)→(Nat→Bool)→Prop:=fun iv0 _ k iv _=>match k with | 0=>True | _=>0≤iv 28∧iv 28≤iv0 1∧eqR (iv0 0) (iv0 4) (iv 28)
def rSame_mu:(Nat→Int)→(Nat→Bool)→Nat→(Nat→Int)→(Nat→Bool)→Nat:=fun iv0 _ k iv _=>match k with | 0=>2 ^ 90 | _=>(iv0 1 - iv 28).toNat
theorem rSame_b {iv0:Nat→Int} (hin:InB rSame.B iv0):(0≤iv0 1∧iv0 1≤64)∧0≤iv0 2∧(0≤iv0 5∧iv0 5≤64)∧0≤iv0 6:=by
 have b1:=hin 1 0 64 (by simp [rSame,kS,slV,mayV,i64s,i64b,lmap,lS,gS,bS,fS,bdS,shV,o1,frS,stS,chS,mAS,usS,acS,erS,chE,gS2,lS2,bS2,fS2,sAcq])
 simp only [Int.reduceLE,reduceIte,Int.reduceNeg] at b1
 have b2:=hin 2 0 (-1) (by simp [rSame,kS,slV,mayV,i64s,i64b,lmap,lS,gS,bS,fS,bdS,shV,o1,frS,stS,chS,mAS,usS,acS,erS,chE,gS2,lS2,bS2,fS2,sAcq])
 simp only [Int.reduceLE,reduceIte,Int.reduceNeg] at b2
 have b5:=hin 5 0 64 (by simp [rSame,kS,slV,mayV,i64s,i64b,lmap,lS,gS,bS,fS,bdS,shV,o1,frS,stS,chS,mAS,usS,acS,erS,chE,gS2,lS2,bS2,fS2,sAcq])
 simp only [Int.reduceLE,reduceIte,Int.reduceNeg] at b5
 have b6:=hin 6 0 (-1) (by simp [rSame,kS,slV,mayV,i64s,i64b,lmap,lS,gS,bS,fS,bdS,shV,o1,frS,stS,chS,mAS,usS,acS,erS,chE,gS2,lS2,bS2,fS2,sAcq])
 simp only [Int.reduceLE,reduceIte,Int.reduceNeg] at b6
 exact ⟨b1,b2.1,b5,b6.1⟩
def rSame_ob (k:Nat) (l:List Lf):Prop:=∀ (kv:Kv) (iv0:Nat→Int) (bv0:Nat→Bool),InB rSame.B iv0→FT (sta FI FB kv iv0 bv0) (dlt dyn0) rSame.F→∀ (iv:Nat→Int) (bv:Nat→Bool),Agr 8 iv0 bv0 iv bv→rSame_inv iv0 bv0 k iv bv→∀ lf∈l,LfT (sta FI FB kv) rSame.os (rSame_inv iv0 bv0) (rSame_mu iv0 bv0) k iv bv lf
theorem rSame_o0:rSame_ob 0 rSame_L0:=by
 intro kv iv0 bv0 hin hF iv bv ha hi
 unfold rSame_L0
 refine List.forall_mem_cons.2 ⟨?_,List.forall_mem_cons.2 ⟨?_,List.forall_mem_nil _⟩⟩
 all_goals
  intro δ hf
 all_goals
  obtain ⟨b1,b2,b5,b6⟩:=rSame_b hin
 all_goals
  have a0:=ha.1 0 (by omega)
  have a1:=ha.1 1 (by omega)
  have a2:=ha.1 2 (by omega)
  have a3:=ha.1 3 (by omega)
  have a4:=ha.1 4 (by omega)
  have a5:=ha.1 5 (by omega)
  have a6:=ha.1 6 (by omega)
  have a7:=ha.1 7 (by omega)
 all_goals
  simp only [FT,TP,SB.tp,SI.tv,sta,IB.eval,and_true,true_and,ObsT,Ob.Tv,rowT,kix,In.tiv,↓tbvT,In.tbv,get_cons,get_nil,reduceIte,Nat.reduceEqDiff,Int.reduceToNat,Int.reduceAdd,Int.reduceSub,Int.reduceLE,Int.reduceLT,Int.reduceEq,ne_eq,Bool.false_eq_true,not_true_eq_false,not_false_eq_true,true_iff,false_iff,iff_true,iff_false,false_implies,implies_true,decT,decide_true,decide_false,Bool.decide_eq_true,ap2,pb2,FI_3,FI_3u,FI_8,FI_9,FI_3g,FI_3k,FI_8s,FI_8l,FI_8d,FB_1h,FB_1a,Int.toNat_natCast,Int.toNat_zero,FI_24,FB_24,rSame_inv,rSame_mu,rSame,o1,othT,kS,slV,mayV,i64s,i64b,lmap,lS,gS,bS,fS,bdS,shV,o1,frS,stS,chS,mAS,usS,acS,erS,chE,gS2,lS2,bS2,fS2,sAcq,a0,a1,a2,a3,a4,a5,a6,a7] at hf hi ⊢
 all_goals
  (repeat' (with_reducible apply And.intro))<;>first
  | omega
  | assumption
  | (unfold inM;omega)
  | exact trivial
  | (intro j hj;omega)
  | (intro h;have:=h.1;omega)
  | (clear hin hF ha;grind)
theorem rSame_o1:rSame_ob 1 rSame_L1:=by
 intro kv iv0 bv0 hin hF iv bv ha hi
 unfold rSame_L1
 refine List.forall_mem_cons.2 ⟨?_,List.forall_mem_cons.2 ⟨?_,List.forall_mem_cons.2 ⟨?_,List.forall_mem_cons.2 ⟨?_,List.forall_mem_cons.2 ⟨?_,List.forall_mem_cons.2 ⟨?_,List.forall_mem_cons.2 ⟨?_,List.forall_mem_cons.2 ⟨?_,List.forall_mem_cons.2 ⟨?_,List.forall_mem_cons.2 ⟨?_,List.forall_mem_nil _⟩⟩⟩⟩⟩⟩⟩⟩⟩⟩
 all_goals
  intro δ hf
 all_goals
  obtain ⟨b1,b2,b5,b6⟩:=rSame_b hin
 all_goals
  have a0:=ha.1 0 (by omega)
  have a1:=ha.1 1 (by omega)
  have a2:=ha.1 2 (by omega)
  have a3:=ha.1 3 (by omega)
  have a4:=ha.1 4 (by omega)
  have a5:=ha.1 5 (by omega)
  have a6:=ha.1 6 (by omega)
  have a7:=ha.1 7 (by omega)
 all_goals
  simp only [FT,TP,SB.tp,SI.tv,sta,IB.eval,and_true,true_and,ObsT,Ob.Tv,rowT,kix,In.tiv,↓tbvT,In.tbv,get_cons,get_nil,reduceIte,Nat.reduceEqDiff,Int.reduceToNat,Int.reduceAdd,Int.reduceSub,Int.reduceLE,Int.reduceLT,Int.reduceEq,ne_eq,Bool.false_eq_true,not_true_eq_false,not_false_eq_true,true_iff,false_iff,iff_true,iff_false,false_implies,implies_true,decT,decide_true,decide_false,Bool.decide_eq_true,ap2,pb2,FI_3,FI_3u,FI_8,FI_9,FI_3g,FI_3k,FI_8s,FI_8l,FI_8d,FB_1h,FB_1a,Int.toNat_natCast,Int.toNat_zero,FI_24,FB_24,rSame_inv,rSame_mu,rSame,o1,othT,kS,slV,mayV,i64s,i64b,lmap,lS,gS,bS,fS,bdS,shV,o1,frS,stS,chS,mAS,usS,acS,erS,chE,gS2,lS2,bS2,fS2,sAcq,a0,a1,a2,a3,a4,a5,a6,a7] at hf hi ⊢
 all_goals
  obtain ⟨g0,g1,g2⟩:=hi
 all_goals
  have e1:=@sameS_at (iv0 0) (iv0 1) (iv0 4) (iv0 5) (iv 28)
 all_goals
  have e2:=eqR_suc g2 g0
 all_goals
  (repeat' (with_reducible apply And.intro))<;>first
  | omega
  | assumption
  | (unfold inM;omega)
  | (exact e2 (by omega) (by omega) (by omega) (by omega) (by omega) (by omega) (by omega) (by omega))
  | (exact sameS_end (by omega) (fun j hj=>g2 j (by omega)))
  | (intro h;have:=e1 h g0 (by omega);omega)
  | (clear hin hF ha;grind)
theorem rSame_c:LsC ((tm0 rSame Tryz.f14 (Tryz.f14.body.getD .skip))::[rSame_T1]) rSame.os [rSame_L0,rSame_L1]:=by
 unfold rSame_L0 rSame_L1
 exact ⟨List.forall_mem_cons.2 ⟨⟨⟨_,rfl,rfl⟩,by kernel_rfl⟩,List.forall_mem_cons.2 ⟨⟨⟨_,rfl,rfl⟩,by kernel_rfl⟩,List.forall_mem_nil _⟩⟩,List.forall_mem_cons.2 ⟨⟨⟨_,rfl,rfl⟩,by kernel_rfl⟩,List.forall_mem_cons.2 ⟨⟨⟨_,rfl,rfl⟩,by kernel_rfl⟩,List.forall_mem_cons.2 ⟨⟨⟨_,rfl,rfl⟩,by kernel_rfl⟩,List.forall_mem_cons.2 ⟨⟨⟨_,rfl,rfl⟩,by kernel_rfl⟩,List.forall_mem_cons.2 ⟨⟨⟨_,rfl,rfl⟩,by kernel_rfl⟩,List.forall_mem_cons.2 ⟨⟨⟨_,rfl,rfl⟩,by kernel_rfl⟩,List.forall_mem_cons.2 ⟨⟨⟨_,rfl,rfl⟩,by kernel_rfl⟩,List.forall_mem_cons.2 ⟨⟨⟨_,rfl,rfl⟩,by kernel_rfl⟩,List.forall_mem_cons.2 ⟨⟨⟨_,rfl,rfl⟩,by kernel_rfl⟩,List.forall_mem_cons.2 ⟨⟨⟨_,rfl,rfl⟩,by kernel_rfl⟩,List.forall_mem_nil _⟩⟩⟩⟩⟩⟩⟩⟩⟩⟩,trivial⟩
theorem rSame_ok:rSame.Ok Tryz.prog FI FB:=
 Con.of_plain (body:=Tryz.f14.body.getD .skip) pok fiok EntsFor.nil rSame Tryz.func14 (by kernel_rfl) 8 [rSame_T1] (by kernel_rfl) [rSame_L0,rSame_L1] ⟨rSame_h0,rSame_h1,trivial⟩ rSame_c
  rSame_inv rSame_mu (fun _ _ _=>trivial) fun kv iv0 bv0 hin hF k l iv bv hk ha hi=>match k,hk,hi with
  | 0,hk,hi=>by
    cases hk
    exact rSame_o0 kv iv0 bv0 hin hF iv bv ha hi
  | 1,hk,hi=>by
    cases hk
    exact rSame_o1 kv iv0 bv0 hin hF iv bv ha hi
  | k+2,hk,_=>by simp at hk
end
end Go.Sx.Sl
