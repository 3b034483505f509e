/- Messages: which are the same. -/
import Derived.Test.YtljfkplkdeinmaaGreatMgE
namespace Go.Sx.Mg
set_option linter.unusedVariables false
set_option linter.unusedSimpArgs false
set_option maxRecDepth 100000
set_option maxHeartbeats 0
noncomputable section
open Go Go.Sx Go.Proofs
def eqB (i j:Nat):SB:=.or (.and (.v i) (.v j)) (.and (.not (.v i)) (.not (.v j)))
def mSB:SB:=(.and (eqB 0 1) (.eq (.ap 23 (.ap 22 (.ap 22 (.ap 22 (.ap 22 (.ap 21 (.ap 21 (.ap 21 (.ap 21 (.ap 21 (.ap 21 (.ap 21 (.ap 21 (.ap 21 (.ap 21 (.c 1) (.v 0) (.v 30) (.v 1) (.v 31) (.c 0)) (.v 2) (.v 32) (.v 3) (.v 33) (.c 0)) (.v 4) (.v 34) (.v 5) (.v 35) (.c 0)) (.v 6) (.v 36) (.v 7) (.v 37) (.c 0)) (.v 9) (.v 39) (.v 10) (.v 40) (.c 0)) (.v 11) (.v 41) (.v 12) (.v 42) (.c 0)) (.v 13) (.v 43) (.v 14) (.v 44) (.c 0)) (.v 15) (.v 45) (.v 16) (.v 46) (.c 0)) (.v 17) (.v 47) (.v 21) (.v 51) (.c 0)) (.v 22) (.v 52) (.v 23) (.v 53) (.c 0)) (.v 18) (.v 48) (.c 1) (.c 0) (.c 0)) (.v 19) (.v 49) (.c 5) (.c 0) (.c 0)) (.v 20) (.v 50) (.c 3) (.c 0) (.c 0)) (.v 25) (.v 55) (.c 3) (.c 0) (.c 0)) (.v 24) (.v 54) (.c 0) (.c 0) (.c 0)) (.c 1)))
def mA:List SV:=[.ag [.it .i64 (.v 0),.it .i64 (.v 1),.it .i64 (.v 2),.it .i64 (.v 3),.it .i64 (.v 4),.it .i64 (.v 5),.it .i64 (.v 6),.it .i64 (.v 7),.bo (.v 0),.it .i64 (.v 9),.it .i64 (.v 10),.it .i64 (.v 11),.it .i64 (.v 12),.it .i64 (.v 13),.it .i64 (.v 14),.it .i64 (.v 15),.it .u64 (.v 16),.it .i64 (.v 17),.fs 1 (.v 18),.fs 3 (.v 19),.fs 4 (.v 20),.it .i64 (.v 21),.it .i64 (.v 22),.it .u64 (.v 23),.fs 8 (.v 24),.fs 4 (.v 25)],.ag [.it .i64 (.v 30),.it .i64 (.v 31),.it .i64 (.v 32),.it .i64 (.v 33),.it .i64 (.v 34),.it .i64 (.v 35),.it .i64 (.v 36),.it .i64 (.v 37),.bo (.v 1),.it .i64 (.v 39),.it .i64 (.v 40),.it .i64 (.v 41),.it .i64 (.v 42),.it .i64 (.v 43),.it .i64 (.v 44),.it .i64 (.v 45),.it .u64 (.v 46),.it .i64 (.v 47),.fs 1 (.v 48),.fs 3 (.v 49),.fs 4 (.v 50),.it .i64 (.v 51),.it .i64 (.v 52),.it .u64 (.v 53),.fs 8 (.v 54),.fs 4 (.v 55)]]
def mV:List Nat:=[0,1,2,3,4,5,6,7,8,9,10,11,12,13,14,15,16,17,18,19,20,21,22,23,24,25,26,27,28,29,30,31,32,33,34,35,36,37,38,39,40,41,42,43,44,45,46,47,48,49,50,51,52,53,54,55,56,57,58,59]
def mB:List (Nat×Int×Int):=i64b 0::i64b 1::i64b 2::i64b 3::i64b 4::i64b 5::i64b 6::i64b 7::i64b 9::i64b 10::i64b 11::i64b 12::i64b 13::i64b 14::i64b 15::u64b 16::i64b 17::i64b 21::i64b 22::u64b 23::i64b 30::i64b 31::i64b 32::i64b 33::i64b 34::i64b 35::i64b 36::i64b 37::i64b 39::i64b 40::i64b 41::i64b 42::i64b 43::i64b 44::i64b 45::u64b 46::i64b 47::i64b 51::i64b 52::u64b 53::[]
def cMS:Con:=⟨6,mV,mA,[],mB,flF 18 300::flF 19 300::flF 20 300::flF 24 300::flF 25 300::flF 48 300::flF 49 300::flF 50 300::flF 54 300::flF 55 300::[],o1 (.bo mSB),[]⟩
def cRS:Con:=⟨7,mV,mA,[],mB,flF 18 300::flF 19 300::flF 20 300::flF 24 300::flF 25 300::flF 48 300::flF 49 300::flF 50 300::flF 54 300::flF 55 300::[],o1 (.bo mSB),[]⟩
def cMS_L0:List Lf:=
 let p0_:SB×Bool:=((.ap 30 (.v 18) (.v 48) (.c 1) (.c 0) (.c 0) (.c 0)),.true)
 let p1_:SB×Bool:=((.ap 30 (.v 19) (.v 49) (.c 5) (.c 0) (.c 0) (.c 0)),.true)
 let p2_:SB×Bool:=((.ap 30 (.v 20) (.v 50) (.c 3) (.c 0) (.c 0) (.c 0)),.true)
 let p3_:SB×Bool:=((.ap 31 (.v 24) (.v 54) (.c 0) (.c 0) (.c 0) (.c 0)),.true)
 let p4_:SB×Bool:=((.ap 31 (.v 24) (.v 54) (.c 0) (.c 0) (.c 0) (.c 0)),.false)
 let p5_:SB×Bool:=((.ap 30 (.v 20) (.v 50) (.c 3) (.c 0) (.c 0) (.c 0)),.false)
 let p6_:SB×Bool:=((.ap 30 (.v 19) (.v 49) (.c 5) (.c 0) (.c 0) (.c 0)),.false)
 let p7_:SB×Bool:=((.ap 30 (.v 18) (.v 48) (.c 1) (.c 0) (.c 0) (.c 0)),.false)
 let x8_:SI:=(.ap 23 (.ap 22 (.ap 22 (.ap 22 (.ap 22 (.ap 21 (.ap 21 (.ap 21 (.ap 21 (.ap 21 (.ap 21 (.ap 21 (.ap 21 (.ap 21 (.ap 21 (.c 1) (.v 0) (.v 30) (.v 1) (.v 31) (.c 0)) (.v 2) (.v 32) (.v 3) (.v 33) (.c 0)) (.v 4) (.v 34) (.v 5) (.v 35) (.c 0)) (.v 6) (.v 36) (.v 7) (.v 37) (.c 0)) (.v 9) (.v 39) (.v 10) (.v 40) (.c 0)) (.v 11) (.v 41) (.v 12) (.v 42) (.c 0)) (.v 13) (.v 43) (.v 14) (.v 44) (.c 0)) (.v 15) (.v 45) (.v 16) (.v 46) (.c 0)) (.v 17) (.v 47) (.v 21) (.v 51) (.c 0)) (.v 22) (.v 52) (.v 23) (.v 53) (.c 0)) (.v 18) (.v 48) (.c 1) (.c 0) (.c 0)) (.v 19) (.v 49) (.c 5) (.c 0) (.c 0)) (.v 20) (.v 50) (.c 3) (.c 0) (.c 0)) (.v 25) (.v 55) (.c 3) (.c 0) (.c 0)) (.v 24) (.v 54) (.c 0) (.c 0) (.c 0))
 let f0_:List (SB×Bool):=[((.le (.ap 200 (.v 18) (.c 0) (.c 0) (.c 0) (.c 0) (.c 0)) (.c 300)),.true),((.le (.ap 200 (.v 19) (.c 0) (.c 0) (.c 0) (.c 0) (.c 0)) (.c 300)),.true),((.le (.ap 200 (.v 20) (.c 0) (.c 0) (.c 0) (.c 0) (.c 0)) (.c 300)),.true),((.le (.ap 200 (.v 24) (.c 0) (.c 0) (.c 0) (.c 0) (.c 0)) (.c 300)),.true),((.le (.ap 200 (.v 25) (.c 0) (.c 0) (.c 0) (.c 0) (.c 0)) (.c 300)),.true),((.le (.ap 200 (.v 48) (.c 0) (.c 0) (.c 0) (.c 0) (.c 0)) (.c 300)),.true),((.le (.ap 200 (.v 49) (.c 0) (.c 0) (.c 0) (.c 0) (.c 0)) (.c 300)),.true),((.le (.ap 200 (.v 50) (.c 0) (.c 0) (.c 0) (.c 0) (.c 0)) (.c 300)),.true),((.le (.ap 200 (.v 54) (.c 0) (.c 0) (.c 0) (.c 0) (.c 0)) (.c 300)),.true),((.le (.ap 200 (.v 55) (.c 0) (.c 0) (.c 0) (.c 0) (.c 0)) (.c 300)),.true)]
 let f1_:List (SB×Bool):=((.eq (.v 0) (.v 30)),.true)::f0_
 let f2_:List (SB×Bool):=((.eq (.v 1) (.v 31)),.true)::f1_
 let f3_:List (SB×Bool):=((.eq (.v 2) (.v 32)),.true)::f2_
 let f4_:List (SB×Bool):=((.eq (.v 3) (.v 33)),.true)::f3_
 let f5_:List (SB×Bool):=((.eq (.v 4) (.v 34)),.true)::f4_
 let f6_:List (SB×Bool):=((.eq (.v 5) (.v 35)),.true)::f5_
 let f7_:List (SB×Bool):=((.eq (.v 6) (.v 36)),.true)::f6_
 let f8_:List (SB×Bool):=((.eq (.v 7) (.v 37)),.true)::f7_
 let f9_:List (SB×Bool):=((.v 0),.true)::f8_
 let f10_:List (SB×Bool):=((.v 0),.false)::f8_
 let f11_:List (SB×Bool):=((.v 1),.true)::f9_
 let f12_:List (SB×Bool):=((.v 1),.false)::f10_
 let f13_:List (SB×Bool):=((.eq (.v 9) (.v 39)),.true)::f11_
 let f14_:List (SB×Bool):=((.eq (.v 9) (.v 39)),.true)::f12_
 let f15_:List (SB×Bool):=((.eq (.v 10) (.v 40)),.true)::f13_
 let f16_:List (SB×Bool):=((.eq (.v 10) (.v 40)),.true)::f14_
 let f17_:List (SB×Bool):=((.eq (.v 11) (.v 41)),.true)::f15_
 let f18_:List (SB×Bool):=((.eq (.v 11) (.v 41)),.true)::f16_
 let f19_:List (SB×Bool):=((.eq (.v 12) (.v 42)),.true)::f17_
 let f20_:List (SB×Bool):=((.eq (.v 12) (.v 42)),.true)::f18_
 let f21_:List (SB×Bool):=((.eq (.v 13) (.v 43)),.true)::f19_
 let f22_:List (SB×Bool):=((.eq (.v 13) (.v 43)),.true)::f20_
 let f23_:List (SB×Bool):=((.eq (.v 14) (.v 44)),.true)::f21_
 let f24_:List (SB×Bool):=((.eq (.v 14) (.v 44)),.true)::f22_
 let f25_:List (SB×Bool):=((.eq (.v 15) (.v 45)),.true)::f23_
 let f26_:List (SB×Bool):=((.eq (.v 15) (.v 45)),.true)::f24_
 let f27_:List (SB×Bool):=((.eq (.v 16) (.v 46)),.true)::f25_
 let f28_:List (SB×Bool):=((.eq (.v 16) (.v 46)),.true)::f26_
 let f29_:List (SB×Bool):=((.lt (.v 17) (.v 47)),.false)::f27_
 let f30_:List (SB×Bool):=((.lt (.v 17) (.v 47)),.false)::f28_
 let f31_:List (SB×Bool):=((.lt (.v 47) (.v 17)),.false)::f29_
 let f32_:List (SB×Bool):=((.lt (.v 47) (.v 17)),.false)::f30_
 let f33_:List (SB×Bool):=p0_::f31_
 let f34_:List (SB×Bool):=p0_::f32_
 let f35_:List (SB×Bool):=p1_::f33_
 let f36_:List (SB×Bool):=p1_::f34_
 let f37_:List (SB×Bool):=p2_::f35_
 let f38_:List (SB×Bool):=p2_::f36_
 let f39_:List (SB×Bool):=((.eq (.v 21) (.v 51)),.true)::f37_
 let f40_:List (SB×Bool):=((.eq (.v 21) (.v 51)),.true)::f38_
 let f41_:List (SB×Bool):=((.eq (.v 22) (.v 52)),.true)::f39_
 let f42_:List (SB×Bool):=((.eq (.v 22) (.v 52)),.true)::f40_
 let f43_:List (SB×Bool):=((.eq (.v 23) (.v 53)),.true)::f41_
 let f44_:List (SB×Bool):=((.eq (.v 23) (.v 53)),.true)::f42_
 [(.fin (((.lt (.v 17) (.v 47)),.true)::f27_) 0 ⟨⟨[],[]⟩,[],[],[]⟩ [(.eb (.and (.or (.and (.v 0) (.v 1)) (.and (.not (.v 0)) (.not (.v 1)))) (.eq x8_ (.c 1))) (.c .false))] []),
  (.fin (((.lt (.v 47) (.v 17)),.true)::f29_) 0 ⟨⟨[],[]⟩,[],[],[]⟩ [(.eb (.and (.or (.and (.v 0) (.v 1)) (.and (.not (.v 0)) (.not (.v 1)))) (.eq x8_ (.c 1))) (.c .false))] []),
  (.fin (p3_::f43_) 0 ⟨⟨[],[]⟩,[],[],[]⟩ [(.eb (.and (.or (.and (.v 0) (.v 1)) (.and (.not (.v 0)) (.not (.v 1)))) (.eq x8_ (.c 1))) (.ap 30 (.v 25) (.v 55) (.c 3) (.c 0) (.c 0) (.c 0)))] []),
  (.fin (p4_::f43_) 0 ⟨⟨[],[]⟩,[],[],[]⟩ [(.eb (.and (.or (.and (.v 0) (.v 1)) (.and (.not (.v 0)) (.not (.v 1)))) (.eq x8_ (.c 1))) (.c .false))] []),
  (.fin (((.eq (.v 23) (.v 53)),.false)::f41_) 0 ⟨⟨[],[]⟩,[],[],[]⟩ [(.eb (.and (.or (.and (.v 0) (.v 1)) (.and (.not (.v 0)) (.not (.v 1)))) (.eq x8_ (.c 1))) (.c .false))] []),
  (.fin (((.eq (.v 22) (.v 52)),.false)::f39_) 0 ⟨⟨[],[]⟩,[],[],[]⟩ [(.eb (.and (.or (.and (.v 0) (.v 1)) (.and (.not (.v 0)) (.not (.v 1)))) (.eq x8_ (.c 1))) (.c .false))] []),
  (.fin (((.eq (.v 21) (.v 51)),.false)::f37_) 0 ⟨⟨[],[]⟩,[],[],[]⟩ [(.eb (.and (.or (.and (.v 0) (.v 1)) (.and (.not (.v 0)) (.not (.v 1)))) (.eq x8_ (.c 1))) (.c .false))] []),
  (.fin (p5_::f35_) 0 ⟨⟨[],[]⟩,[],[],[]⟩ [(.eb (.and (.or (.and (.v 0) (.v 1)) (.and (.not (.v 0)) (.not (.v 1)))) (.eq x8_ (.c 1))) (.c .false))] []),
  (.fin (p6_::f33_) 0 ⟨⟨[],[]⟩,[],[],[]⟩ [(.eb (.and (.or (.and (.v 0) (.v 1)) (.and (.not (.v 0)) (.not (.v 1)))) (.eq x8_ (.c 1))) (.c .false))] []),
  (.fin (p7_::f31_) 0 ⟨⟨[],[]⟩,[],[],[]⟩ [(.eb (.and (.or (.and (.v 0) (.v 1)) (.and (.not (.v 0)) (.not (.v 1)))) (.eq x8_ (.c 1))) (.c .false))] []),
  (.fin (((.eq (.v 16) (.v 46)),.false)::f25_) 0 ⟨⟨[],[]⟩,[],[],[]⟩ [(.eb (.and (.or (.and (.v 0) (.v 1)) (.and (.not (.v 0)) (.not (.v 1)))) (.eq x8_ (.c 1))) (.c .false))] []),
  (.fin (((.eq (.v 15) (.v 45)),.false)::f23_) 0 ⟨⟨[],[]⟩,[],[],[]⟩ [(.eb (.and (.or (.and (.v 0) (.v 1)) (.and (.not (.v 0)) (.not (.v 1)))) (.eq x8_ (.c 1))) (.c .false))] []),
  (.fin (((.eq (.v 14) (.v 44)),.false)::f21_) 0 ⟨⟨[],[]⟩,[],[],[]⟩ [(.eb (.and (.or (.and (.v 0) (.v 1)) (.and (.not (.v 0)) (.not (.v 1)))) (.eq x8_ (.c 1))) (.c .false))] []),
  (.fin (((.eq (.v 13) (.v 43)),.false)::f19_) 0 ⟨⟨[],[]⟩,[],[],[]⟩ [(.eb (.and (.or (.and (.v 0) (.v 1)) (.and (.not (.v 0)) (.not (.v 1)))) (.eq x8_ (.c 1))) (.c .false))] []),
  (.fin (((.eq (.v 12) (.v 42)),.false)::f17_) 0 ⟨⟨[],[]⟩,[],[],[]⟩ [(.eb (.and (.or (.and (.v 0) (.v 1)) (.and (.not (.v 0)) (.not (.v 1)))) (.eq x8_ (.c 1))) (.c .false))] []),
  (.fin (((.eq (.v 11) (.v 41)),.false)::f15_) 0 ⟨⟨[],[]⟩,[],[],[]⟩ [(.eb (.and (.or (.and (.v 0) (.v 1)) (.and (.not (.v 0)) (.not (.v 1)))) (.eq x8_ (.c 1))) (.c .false))] []),
  (.fin (((.eq (.v 10) (.v 40)),.false)::f13_) 0 ⟨⟨[],[]⟩,[],[],[]⟩ [(.eb (.and (.or (.and (.v 0) (.v 1)) (.and (.not (.v 0)) (.not (.v 1)))) (.eq x8_ (.c 1))) (.c .false))] []),
  (.fin (((.eq (.v 9) (.v 39)),.false)::f11_) 0 ⟨⟨[],[]⟩,[],[],[]⟩ [(.eb (.and (.or (.and (.v 0) (.v 1)) (.and (.not (.v 0)) (.not (.v 1)))) (.eq x8_ (.c 1))) (.c .false))] []),
  (.fin (((.v 1),.false)::f9_) 0 ⟨⟨[],[]⟩,[],[],[]⟩ [(.eb (.and (.or (.and (.v 0) (.v 1)) (.and (.not (.v 0)) (.not (.v 1)))) (.eq x8_ (.c 1))) (.c .false))] []),
  (.fin (((.v 1),.true)::f10_) 0 ⟨⟨[],[]⟩,[],[],[]⟩ [(.eb (.and (.or (.and (.v 0) (.v 1)) (.and (.not (.v 0)) (.not (.v 1)))) (.eq x8_ (.c 1))) (.c .false))] []),
  (.fin (((.lt (.v 17) (.v 47)),.true)::f28_) 0 ⟨⟨[],[]⟩,[],[],[]⟩ [(.eb (.and (.or (.and (.v 0) (.v 1)) (.and (.not (.v 0)) (.not (.v 1)))) (.eq x8_ (.c 1))) (.c .false))] []),
  (.fin (((.lt (.v 47) (.v 17)),.true)::f30_) 0 ⟨⟨[],[]⟩,[],[],[]⟩ [(.eb (.and (.or (.and (.v 0) (.v 1)) (.and (.not (.v 0)) (.not (.v 1)))) (.eq x8_ (.c 1))) (.c .false))] []),
  (.fin (p3_::f44_) 0 ⟨⟨[],[]⟩,[],[],[]⟩ [(.eb (.and (.or (.and (.v 0) (.v 1)) (.and (.not (.v 0)) (.not (.v 1)))) (.eq x8_ (.c 1))) (.ap 30 (.v 25) (.v 55) (.c 3) (.c 0) (.c 0) (.c 0)))] []),
  (.fin (p4_::f44_) 0 ⟨⟨[],[]⟩,[],[],[]⟩ [(.eb (.and (.or (.and (.v 0) (.v 1)) (.and (.not (.v 0)) (.not (.v 1)))) (.eq x8_ (.c 1))) (.c .false))] []),
  (.fin (((.eq (.v 23) (.v 53)),.false)::f42_) 0 ⟨⟨[],[]⟩,[],[],[]⟩ [(.eb (.and (.or (.and (.v 0) (.v 1)) (.and (.not (.v 0)) (.not (.v 1)))) (.eq x8_ (.c 1))) (.c .false))] []),
  (.fin (((.eq (.v 22) (.v 52)),.false)::f40_) 0 ⟨⟨[],[]⟩,[],[],[]⟩ [(.eb (.and (.or (.and (.v 0) (.v 1)) (.and (.not (.v 0)) (.not (.v 1)))) (.eq x8_ (.c 1))) (.c .false))] []),
  (.fin (((.eq (.v 21) (.v 51)),.false)::f38_) 0 ⟨⟨[],[]⟩,[],[],[]⟩ [(.eb (.and (.or (.and (.v 0) (.v 1)) (.and (.not (.v 0)) (.not (.v 1)))) (.eq x8_ (.c 1))) (.c .false))] []),
  (.fin (p5_::f36_) 0 ⟨⟨[],[]⟩,[],[],[]⟩ [(.eb (.and (.or (.and (.v 0) (.v 1)) (.and (.not (.v 0)) (.not (.v 1)))) (.eq x8_ (.c 1))) (.c .false))] []),
  (.fin (p6_::f34_) 0 ⟨⟨[],[]⟩,[],[],[]⟩ [(.eb (.and (.or (.and (.v 0) (.v 1)) (.and (.not (.v 0)) (.not (.v 1)))) (.eq x8_ (.c 1))) (.c .false))] []),
  (.fin (p7_::f32_) 0 ⟨⟨[],[]⟩,[],[],[]⟩ [(.eb (.and (.or (.and (.v 0) (.v 1)) (.and (.not (.v 0)) (.not (.v 1)))) (.eq x8_ (.c 1))) (.c .false))] []),
  (.fin (((.eq (.v 16) (.v 46)),.false)::f26_) 0 ⟨⟨[],[]⟩,[],[],[]⟩ [(.eb (.and (.or (.and (.v 0) (.v 1)) (.and (.not (.v 0)) (.not (.v 1)))) (.eq x8_ (.c 1))) (.c .false))] []),
  (.fin (((.eq (.v 15) (.v 45)),.false)::f24_) 0 ⟨⟨[],[]⟩,[],[],[]⟩ [(.eb (.and (.or (.and (.v 0) (.v 1)) (.and (.not (.v 0)) (.not (.v 1)))) (.eq x8_ (.c 1))) (.c .false))] []),
  (.fin (((.eq (.v 14) (.v 44)),.false)::f22_) 0 ⟨⟨[],[]⟩,[],[],[]⟩ [(.eb (.and (.or (.and (.v 0) (.v 1)) (.and (.not (.v 0)) (.not (.v 1)))) (.eq x8_ (.c 1))) (.c .false))] []),
  (.fin (((.eq (.v 13) (.v 43)),.false)::f20_) 0 ⟨⟨[],[]⟩,[],[],[]⟩ [(.eb (.and (.or (.and (.v 0) (.v 1)) (.and (.not (.v 0)) (.not (.v 1)))) (.eq x8_ (.c 1))) (.c .false))] []),
  (.fin (((.eq (.v 12) (.v 42)),.false)::f18_) 0 ⟨⟨[],[]⟩,[],[],[]⟩ [(.eb (.and (.or (.and (.v 0) (.v 1)) (.and (.not (.v 0)) (.not (.v 1)))) (.eq x8_ (.c 1))) (.c .false))] []),
  (.fin (((.eq (.v 11) (.v 41)),.false)::f16_) 0 ⟨⟨[],[]⟩,[],[],[]⟩ [(.eb (.and (.or (.and (.v 0) (.v 1)) (.and (.not (.v 0)) (.not (.v 1)))) (.eq x8_ (.c 1))) (.c .false))] []),
  (.fin (((.eq (.v 10) (.v 40)),.false)::f14_) 0 ⟨⟨[],[]⟩,[],[],[]⟩ [(.eb (.and (.or (.and (.v 0) (.v 1)) (.and (.not (.v 0)) (.not (.v 1)))) (.eq x8_ (.c 1))) (.c .false))] []),
  (.fin (((.eq (.v 9) (.v 39)),.false)::f12_) 0 ⟨⟨[],[]⟩,[],[],[]⟩ [(.eb (.and (.or (.and (.v 0) (.v 1)) (.and (.not (.v 0)) (.not (.v 1)))) (.eq x8_ (.c 1))) (.c .false))] []),
  (.fin (((.eq (.v 7) (.v 37)),.false)::f7_) 0 ⟨⟨[],[]⟩,[],[],[]⟩ [(.eb (.and (.or (.and (.v 0) (.v 1)) (.and (.not (.v 0)) (.not (.v 1)))) (.eq x8_ (.c 1))) (.c .false))] []),
  (.fin (((.eq (.v 6) (.v 36)),.false)::f6_) 0 ⟨⟨[],[]⟩,[],[],[]⟩ [(.eb (.and (.or (.and (.v 0) (.v 1)) (.and (.not (.v 0)) (.not (.v 1)))) (.eq x8_ (.c 1))) (.c .false))] []),
  (.fin (((.eq (.v 5) (.v 35)),.false)::f5_) 0 ⟨⟨[],[]⟩,[],[],[]⟩ [(.eb (.and (.or (.and (.v 0) (.v 1)) (.and (.not (.v 0)) (.not (.v 1)))) (.eq x8_ (.c 1))) (.c .false))] []),
  (.fin (((.eq (.v 4) (.v 34)),.false)::f4_) 0 ⟨⟨[],[]⟩,[],[],[]⟩ [(.eb (.and (.or (.and (.v 0) (.v 1)) (.and (.not (.v 0)) (.not (.v 1)))) (.eq x8_ (.c 1))) (.c .false))] []),
  (.fin (((.eq (.v 3) (.v 33)),.false)::f3_) 0 ⟨⟨[],[]⟩,[],[],[]⟩ [(.eb (.and (.or (.and (.v 0) (.v 1)) (.and (.not (.v 0)) (.not (.v 1)))) (.eq x8_ (.c 1))) (.c .false))] []),
  (.fin (((.eq (.v 2) (.v 32)),.false)::f2_) 0 ⟨⟨[],[]⟩,[],[],[]⟩ [(.eb (.and (.or (.and (.v 0) (.v 1)) (.and (.not (.v 0)) (.not (.v 1)))) (.eq x8_ (.c 1))) (.c .false))] []),
  (.fin (((.eq (.v 1) (.v 31)),.false)::f1_) 0 ⟨⟨[],[]⟩,[],[],[]⟩ [(.eb (.and (.or (.and (.v 0) (.v 1)) (.and (.not (.v 0)) (.not (.v 1)))) (.eq x8_ (.c 1))) (.c .false))] []),
  (.fin (((.eq (.v 0) (.v 30)),.false)::f0_) 0 ⟨⟨[],[]⟩,[],[],[]⟩ [(.eb (.and (.or (.and (.v 0) (.v 1)) (.and (.not (.v 0)) (.not (.v 1)))) (.eq x8_ (.c 1))) (.c .false))] [])]
def cMS_run (T:Tm):=(ex (ccOf Tryz.prog BF [24,26,29,32,53,56,76,79] cMS) ((fun cc=>[cE1.ent cc,cE5.ent cc,cE3.ent cc,cEb.ent cc,cER.ent cc]) (ccOf Tryz.prog BF [24,26,29,32,53,56,76,79] cMS)) (dw (ccOf Tryz.prog BF [24,26,29,32,53,56,76,79] cMS) ((fun cc=>[cE1.ent cc,cE5.ent cc,cE3.ent cc,cEb.ent cc,cER.ent cc]) (ccOf Tryz.prog BF [24,26,29,32,53,56,76,79] cMS)) 1500 12) (stopX [0,1,2,3,4,5,6,7,8,9,10,11,12,13,14,15,16,17,18,19,20,21,22,23,24,25,26,27,28,29,30,31,32,33,34,35,36,37,38,39,40,41,42,43,44,45,46,47,48,49,50,51,52,53,54,55,56,57,58,59,60,61,62,63,64,65,66,67,68,69,70,71,72,73,74,75,76,77,78,79,80,81,82,83,84,85,86,87,88,89,90,91,92,93,94,95,96,97,98,99,100,101,102,103,104,105,106,107,108,109,110,111,112,113,114,115,116,117,118,119,120,121,122,123,124,125,126,127,128,129,130,131,132,133,134,135,136,137,138,139,140,141,142,143,144,145,146,147,148,149,150,151,152,153,154,155,156,157,158,159,160,161,162,163,164,165,166,167,168,169,170,171,172,173,174,175,176,177,178,179,180,181,182,183,184,185,186,187,188,189,190,191,192,193,194,195,196,197,198,199,200,201,202,203,204,205,206,207,208,209,210,211,212,213,214,215,216,217,218,219,220,221,222,223,224,225,226,227,228,229,230,231,232,233,234,235,236,237,238,239,240,241,242,243,244,245,246,247,248,249,250,251,252,253,254,255,256,257,258,259,260,261,262,263,264,265,266,267,268,269,270,271,272,273,274,275,276,277,278,279,280,281,282,283,284,285,286,287,288,289,290,291,292,293,294,295,296,297,298,299,300,301,302,303,304,305,306,307,308,309,310,311,312,313,314,315,316,317,318,319,320,321,322,323,324,325,326,327,328,329,330,331,332,333,334,335,336,337,338,339,340,341,342,343,344,345,346,347,348,349,350,351,352,353,354,355,356,357,358,359,360,361,362,363,364,365,366,367,368,369,370,371,372,373,374,375,376,377,378,379,380,381,382,383,384,385,386,387,388,389,390,391,392,393,394,395,396,397,398,399]) 6000 T.f T.fs T.H).lfs (ccOf Tryz.prog BF [24,26,29,32,53,56,76,79] cMS) ((tm0 cMS Tryz.f6 (Tryz.f6.body.getD .skip))::[]) cMS.os
theorem cMS_h0:cMS_run (tm0 cMS Tryz.f6 (Tryz.f6.body.getD .skip))=some cMS_L0:=by kernel_rfl
def cMS_inv:(Nat→Int)→(Nat→Bool)→Nat→(Nat→Int)→(Nat→Bool)→Prop:=fun _ _ _ _ _=>True
def cMS_mu:(Nat→Int)→(Nat→Bool)→Nat→(Nat→Int)→(Nat→Bool)→Nat:=fun _ _ _ _ _=>0
def cMS_ob (k:Nat) (l:List Lf):Prop:=∀ (kv:Kv) (iv0:Nat→Int) (bv0:Nat→Bool),InB cMS.B iv0→FT (sta FI FB kv iv0 bv0) (dlt dyn0) cMS.F→∀ (iv:Nat→Int) (bv:Nat→Bool),Agr 60 iv0 bv0 iv bv→cMS_inv iv0 bv0 k iv bv→∀ lf∈l,LfT (sta FI FB kv) cMS.os (cMS_inv iv0 bv0) (cMS_mu iv0 bv0) k iv bv lf
theorem cMS_o0:cMS_ob 0 cMS_L0:=by
 intro kv iv0 bv0 hin hF iv bv ha hi
 unfold cMS_L0
 refine List.forall_mem_cons.2 ⟨?_,List.forall_mem_cons.2 ⟨?_,List.forall_mem_cons.2 ⟨?_,List.forall_mem_cons.2 ⟨?_,List.forall_mem_cons.2 ⟨?_,List.forall_mem_cons.2 ⟨?_,List.forall_mem_cons.2 ⟨?_,List.forall_mem_cons.2 ⟨?_,List.forall_mem_cons.2 ⟨?_,List.forall_mem_cons.2 ⟨?_,List.forall_mem_cons.2 ⟨?_,List.forall_mem_cons.2 ⟨?_,List.forall_mem_cons.2 ⟨?_,List.forall_mem_cons.2 ⟨?_,List.forall_mem_cons.2 ⟨?_,List.forall_mem_cons.2 ⟨?_,List.forall_mem_cons.2 ⟨?_,List.forall_mem_cons.2 ⟨?_,List.forall_mem_cons.2 ⟨?_,List.forall_mem_cons.2 ⟨?_,List.forall_mem_cons.2 ⟨?_,List.forall_mem_cons.2 ⟨?_,List.forall_mem_cons.2 ⟨?_,List.forall_mem_cons.2 ⟨?_,List.forall_mem_cons.2 ⟨?_,List.forall_mem_cons.2 ⟨?_,List.forall_mem_cons.2 ⟨?_,List.forall_mem_cons.2 ⟨?_,List.forall_mem_cons.2 ⟨?_,List.forall_mem_cons.2 ⟨?_,List.forall_mem_cons.2 ⟨?_,List.forall_mem_cons.2 ⟨?_,List.forall_mem_cons.2 ⟨?_,List.forall_mem_cons.2 ⟨?_,List.forall_mem_cons.2 ⟨?_,List.forall_mem_cons.2 ⟨?_,List.forall_mem_cons.2 ⟨?_,List.forall_mem_cons.2 ⟨?_,List.forall_mem_cons.2 ⟨?_,List.forall_mem_cons.2 ⟨?_,List.forall_mem_cons.2 ⟨?_,List.forall_mem_cons.2 ⟨?_,List.forall_mem_cons.2 ⟨?_,List.forall_mem_cons.2 ⟨?_,List.forall_mem_cons.2 ⟨?_,List.forall_mem_cons.2 ⟨?_,List.forall_mem_nil _⟩⟩⟩⟩⟩⟩⟩⟩⟩⟩⟩⟩⟩⟩⟩⟩⟩⟩⟩⟩⟩⟩⟩⟩⟩⟩⟩⟩⟩⟩⟩⟩⟩⟩⟩⟩⟩⟩⟩⟩⟩⟩⟩⟩⟩⟩
 all_goals
  intro δ hf
 all_goals
  have a0:=ha.1 0 (by omega)
  have a1:=ha.1 1 (by omega)
  have a2:=ha.1 2 (by omega)
  have a3:=ha.1 3 (by omega)
  have a4:=ha.1 4 (by omega)
  have a5:=ha.1 5 (by omega)
  have a6:=ha.1 6 (by omega)
  have a7:=ha.1 7 (by omega)
  have a8:=ha.1 8 (by omega)
  have a9:=ha.1 9 (by omega)
  have a10:=ha.1 10 (by omega)
  have a11:=ha.1 11 (by omega)
  have a12:=ha.1 12 (by omega)
  have a13:=ha.1 13 (by omega)
  have a14:=ha.1 14 (by omega)
  have a15:=ha.1 15 (by omega)
  have a16:=ha.1 16 (by omega)
  have a17:=ha.1 17 (by omega)
  have a18:=ha.1 18 (by omega)
  have a19:=ha.1 19 (by omega)
  have a20:=ha.1 20 (by omega)
  have a21:=ha.1 21 (by omega)
  have a22:=ha.1 22 (by omega)
  have a23:=ha.1 23 (by omega)
  have a24:=ha.1 24 (by omega)
  have a25:=ha.1 25 (by omega)
  have a26:=ha.1 26 (by omega)
  have a27:=ha.1 27 (by omega)
  have a28:=ha.1 28 (by omega)
  have a29:=ha.1 29 (by omega)
  have a30:=ha.1 30 (by omega)
  have a31:=ha.1 31 (by omega)
  have a32:=ha.1 32 (by omega)
  have a33:=ha.1 33 (by omega)
  have a34:=ha.1 34 (by omega)
  have a35:=ha.1 35 (by omega)
  have a36:=ha.1 36 (by omega)
  have a37:=ha.1 37 (by omega)
  have a38:=ha.1 38 (by omega)
  have a39:=ha.1 39 (by omega)
  have a40:=ha.1 40 (by omega)
  have a41:=ha.1 41 (by omega)
  have a42:=ha.1 42 (by omega)
  have a43:=ha.1 43 (by omega)
  have a44:=ha.1 44 (by omega)
  have a45:=ha.1 45 (by omega)
  have a46:=ha.1 46 (by omega)
  have a47:=ha.1 47 (by omega)
  have a48:=ha.1 48 (by omega)
  have a49:=ha.1 49 (by omega)
  have a50:=ha.1 50 (by omega)
  have a51:=ha.1 51 (by omega)
  have a52:=ha.1 52 (by omega)
  have a53:=ha.1 53 (by omega)
  have a54:=ha.1 54 (by omega)
  have a55:=ha.1 55 (by omega)
  have a56:=ha.1 56 (by omega)
  have a57:=ha.1 57 (by omega)
  have a58:=ha.1 58 (by omega)
  have a59:=ha.1 59 (by omega)
 all_goals
  simp only [FT,TP,SB.tp,SI.tv,sta,IB.eval,and_true,true_and,ObsT,Ob.Tv,rowT,kix,In.tiv,↓tbvT,In.tbv,get_cons,get_nil,reduceIte,Nat.reduceEqDiff,Int.reduceToNat,Int.reduceAdd,Int.reduceSub,Int.reduceLE,Int.reduceLT,Int.reduceEq,ne_eq,Bool.false_eq_true,not_true_eq_false,not_false_eq_true,true_iff,false_iff,iff_true,iff_false,false_implies,implies_true,decT,decide_true,decide_false,Bool.decide_eq_true,ap2,pb2,FI_3,FI_4,FI_6,FI_8,FI_9,FI_8c,FI_8z,FI_200,FB_0,FB_2,Int.toNat_natCast,Int.toNat_zero,FI_20,FI_21,FI_22,FI_23,FB_30,FB_31,cMS_inv,cMS_mu,cMS,o1,othT,o1,flF,SI.fl,flay,flayL,i64b,u64b,eqB,mSB,mA,mV,mB,a0,a1,a2,a3,a4,a5,a6,a7,a8,a9,a10,a11,a12,a13,a14,a15,a16,a17,a18,a19,a20,a21,a22,a23,a24,a25,a26,a27,a28,a29,a30,a31,a32,a33,a34,a35,a36,a37,a38,a39,a40,a41,a42,a43,a44,a45,a46,a47,a48,a49,a50,a51,a52,a53,a54,a55,a56,a57,a58,a59] at hf hi ⊢
 all_goals
  simp only [and2_one,andL_one,andR_one] at hf ⊢
 all_goals
  (repeat' (with_reducible apply And.intro))<;>first
  | omega
  | assumption
  | (unfold inM;omega)
  | exact trivial
  | (clear hin hF ha;grind)
theorem cMS_c:LsC ((tm0 cMS Tryz.f6 (Tryz.f6.body.getD .skip))::[]) cMS.os [cMS_L0]:=by
 unfold cMS_L0
 exact ⟨List.forall_mem_cons.2 ⟨⟨⟨_,rfl,rfl⟩,by kernel_rfl⟩,List.forall_mem_cons.2 ⟨⟨⟨_,rfl,rfl⟩,by kernel_rfl⟩,List.forall_mem_cons.2 ⟨⟨⟨_,rfl,rfl⟩,by kernel_rfl⟩,List.forall_mem_cons.2 ⟨⟨⟨_,rfl,rfl⟩,by kernel_rfl⟩,List.forall_mem_cons.2 ⟨⟨⟨_,rfl,rfl⟩,by kernel_rfl⟩,List.forall_mem_cons.2 ⟨⟨⟨_,rfl,rfl⟩,by kernel_rfl⟩,List.forall_mem_cons.2 ⟨⟨⟨_,rfl,rfl⟩,by kernel_rfl⟩,List.forall_mem_cons.2 ⟨⟨⟨_,rfl,rfl⟩,by kernel_rfl⟩,List.forall_mem_cons.2 ⟨⟨⟨_,rfl,rfl⟩,by kernel_rfl⟩,List.forall_mem_cons.2 ⟨⟨⟨_,rfl,rfl⟩,by kernel_rfl⟩,List.forall_mem_cons.2 ⟨⟨⟨_,rfl,rfl⟩,by kernel_rfl⟩,List.forall_mem_cons.2 ⟨⟨⟨_,rfl,rfl⟩,by kernel_rfl⟩,List.forall_mem_cons.2 ⟨⟨⟨_,rfl,rfl⟩,by kernel_rfl⟩,List.forall_mem_cons.2 ⟨⟨⟨_,rfl,rfl⟩,by kernel_rfl⟩,List.forall_mem_cons.2 ⟨⟨⟨_,rfl,rfl⟩,by kernel_rfl⟩,List.forall_mem_cons.2 ⟨⟨⟨_,rfl,rfl⟩,by kernel_rfl⟩,List.forall_mem_cons.2 ⟨⟨⟨_,rfl,rfl⟩,by kernel_rfl⟩,List.forall_mem_cons.2 ⟨⟨⟨_,rfl,rfl⟩,by kernel_rfl⟩,List.forall_mem_cons.2 ⟨⟨⟨_,rfl,rfl⟩,by kernel_rfl⟩,List.forall_mem_cons.2 ⟨⟨⟨_,rfl,rfl⟩,by kernel_rfl⟩,List.forall_mem_cons.2 ⟨⟨⟨_,rfl,rfl⟩,by kernel_rfl⟩,List.forall_mem_cons.2 ⟨⟨⟨_,rfl,rfl⟩,by kernel_rfl⟩,List.forall_mem_cons.2 ⟨⟨⟨_,rfl,rfl⟩,by kernel_rfl⟩,List.forall_mem_cons.2 ⟨⟨⟨_,rfl,rfl⟩,by kernel_rfl⟩,List.forall_mem_cons.2 ⟨⟨⟨_,rfl,rfl⟩,by kernel_rfl⟩,List.forall_mem_cons.2 ⟨⟨⟨_,rfl,rfl⟩,by kernel_rfl⟩,List.forall_mem_cons.2 ⟨⟨⟨_,rfl,rfl⟩,by kernel_rfl⟩,List.forall_mem_cons.2 ⟨⟨⟨_,rfl,rfl⟩,by kernel_rfl⟩,List.forall_mem_cons.2 ⟨⟨⟨_,rfl,rfl⟩,by kernel_rfl⟩,List.forall_mem_cons.2 ⟨⟨⟨_,rfl,rfl⟩,by kernel_rfl⟩,List.forall_mem_cons.2 ⟨⟨⟨_,rfl,rfl⟩,by kernel_rfl⟩,List.forall_mem_cons.2 ⟨⟨⟨_,rfl,rfl⟩,by kernel_rfl⟩,List.forall_mem_cons.2 ⟨⟨⟨_,rfl,rfl⟩,by kernel_rfl⟩,List.forall_mem_cons.2 ⟨⟨⟨_,rfl,rfl⟩,by kernel_rfl⟩,List.forall_mem_cons.2 ⟨⟨⟨_,rfl,rfl⟩,by kernel_rfl⟩,List.forall_mem_cons.2 ⟨⟨⟨_,rfl,rfl⟩,by kernel_rfl⟩,List.forall_mem_cons.2 ⟨⟨⟨_,rfl,rfl⟩,by kernel_rfl⟩,List.forall_mem_cons.2 ⟨⟨⟨_,rfl,rfl⟩,by kernel_rfl⟩,List.forall_mem_cons.2 ⟨⟨⟨_,rfl,rfl⟩,by kernel_rfl⟩,List.forall_mem_cons.2 ⟨⟨⟨_,rfl,rfl⟩,by kernel_rfl⟩,List.forall_mem_cons.2 ⟨⟨⟨_,rfl,rfl⟩,by kernel_rfl⟩,List.forall_mem_cons.2 ⟨⟨⟨_,rfl,rfl⟩,by kernel_rfl⟩,List.forall_mem_cons.2 ⟨⟨⟨_,rfl,rfl⟩,by kernel_rfl⟩,List.forall_mem_cons.2 ⟨⟨⟨_,rfl,rfl⟩,by kernel_rfl⟩,List.forall_mem_cons.2 ⟨⟨⟨_,rfl,rfl⟩,by kernel_rfl⟩,List.forall_mem_cons.2 ⟨⟨⟨_,rfl,rfl⟩,by kernel_rfl⟩,List.forall_mem_nil _⟩⟩⟩⟩⟩⟩⟩⟩⟩⟩⟩⟩⟩⟩⟩⟩⟩⟩⟩⟩⟩⟩⟩⟩⟩⟩⟩⟩⟩⟩⟩⟩⟩⟩⟩⟩⟩⟩⟩⟩⟩⟩⟩⟩⟩⟩,trivial⟩
theorem cMS_ok:cMS.Ok Tryz.prog FI FB:=
 Con.of_plain (body:=Tryz.f6.body.getD .skip) pok fiok (EntsFor.cons cE1_ok (EntsFor.cons cE5_ok (EntsFor.cons cE3_ok (EntsFor.cons cEb_ok (EntsFor.cons cER_ok EntsFor.nil))))) cMS Tryz.func6 (by kernel_rfl) 60 [] (by kernel_rfl) [cMS_L0] ⟨cMS_h0,trivial⟩ cMS_c
  cMS_inv cMS_mu (fun _ _ _=>trivial) fun kv iv0 bv0 hin hF k l iv bv hk ha hi=>match k,hk,hi with
  | 0,hk,hi=>by
    cases hk
    exact cMS_o0 kv iv0 bv0 hin hF iv bv ha hi
  | k+1,hk,_=>by simp at hk
def cRS_L0:List Lf:=
 let p0_:SB×Bool:=((.ap 30 (.v 18) (.v 48) (.c 1) (.c 0) (.c 0) (.c 0)),.true)
 let p1_:SB×Bool:=((.ap 30 (.v 19) (.v 49) (.c 5) (.c 0) (.c 0) (.c 0)),.true)
 let p2_:SB×Bool:=((.ap 30 (.v 20) (.v 50) (.c 3) (.c 0) (.c 0) (.c 0)),.true)
 let p3_:SB×Bool:=((.ap 31 (.v 24) (.v 54) (.c 0) (.c 0) (.c 0) (.c 0)),.true)
 let p4_:SB×Bool:=((.ap 31 (.v 24) (.v 54) (.c 0) (.c 0) (.c 0) (.c 0)),.false)
 let p5_:SB×Bool:=((.ap 30 (.v 20) (.v 50) (.c 3) (.c 0) (.c 0) (.c 0)),.false)
 let p6_:SB×Bool:=((.ap 30 (.v 19) (.v 49) (.c 5) (.c 0) (.c 0) (.c 0)),.false)
 let p7_:SB×Bool:=((.ap 30 (.v 18) (.v 48) (.c 1) (.c 0) (.c 0) (.c 0)),.false)
 let x8_:SI:=(.ap 23 (.ap 22 (.ap 22 (.ap 22 (.ap 22 (.ap 21 (.ap 21 (.ap 21 (.ap 21 (.ap 21 (.ap 21 (.ap 21 (.ap 21 (.ap 21 (.ap 21 (.c 1) (.v 0) (.v 30) (.v 1) (.v 31) (.c 0)) (.v 2) (.v 32) (.v 3) (.v 33) (.c 0)) (.v 4) (.v 34) (.v 5) (.v 35) (.c 0)) (.v 6) (.v 36) (.v 7) (.v 37) (.c 0)) (.v 9) (.v 39) (.v 10) (.v 40) (.c 0)) (.v 11) (.v 41) (.v 12) (.v 42) (.c 0)) (.v 13) (.v 43) (.v 14) (.v 44) (.c 0)) (.v 15) (.v 45) (.v 16) (.v 46) (.c 0)) (.v 17) (.v 47) (.v 21) (.v 51) (.c 0)) (.v 22) (.v 52) (.v 23) (.v 53) (.c 0)) (.v 18) (.v 48) (.c 1) (.c 0) (.c 0)) (.v 19) (.v 49) (.c 5) (.c 0) (.c 0)) (.v 20) (.v 50) (.c 3) (.c 0) (.c 0)) (.v 25) (.v 55) (.c 3) (.c 0) (.c 0)) (.v 24) (.v 54) (.c 0) (.c 0) (.c 0))
 let f0_:List (SB×Bool):=[((.le (.ap 200 (.v 18) (.c 0) (.c 0) (.c 0) (.c 0) (.c 0)) (.c 300)),.true),((.le (.ap 200 (.v 19) (.c 0) (.c 0) (.c 0) (.c 0) (.c 0)) (.c 300)),.true),((.le (.ap 200 (.v 20) (.c 0) (.c 0) (.c 0) (.c 0) (.c 0)) (.c 300)),.true),((.le (.ap 200 (.v 24) (.c 0) (.c 0) (.c 0) (.c 0) (.c 0)) (.c 300)),.true),((.le (.ap 200 (.v 25) (.c 0) (.c 0) (.c 0) (.c 0) (.c 0)) (.c 300)),.true),((.le (.ap 200 (.v 48) (.c 0) (.c 0) (.c 0) (.c 0) (.c 0)) (.c 300)),.true),((.le (.ap 200 (.v 49) (.c 0) (.c 0) (.c 0) (.c 0) (.c 0)) (.c 300)),.true),((.le (.ap 200 (.v 50) (.c 0) (.c 0) (.c 0) (.c 0) (.c 0)) (.c 300)),.true),((.le (.ap 200 (.v 54) (.c 0) (.c 0) (.c 0) (.c 0) (.c 0)) (.c 300)),.true),((.le (.ap 200 (.v 55) (.c 0) (.c 0) (.c 0) (.c 0) (.c 0)) (.c 300)),.true)]
 let f1_:List (SB×Bool):=((.eq (.v 0) (.v 30)),.true)::f0_
 let f2_:List (SB×Bool):=((.eq (.v 1) (.v 31)),.true)::f1_
 let f3_:List (SB×Bool):=((.eq (.v 2) (.v 32)),.true)::f2_
 let f4_:List (SB×Bool):=((.eq (.v 3) (.v 33)),.true)::f3_
 let f5_:List (SB×Bool):=((.eq (.v 4) (.v 34)),.true)::f4_
 let f6_:List (SB×Bool):=((.eq (.v 5) (.v 35)),.true)::f5_
 let f7_:List (SB×Bool):=((.eq (.v 6) (.v 36)),.true)::f6_
 let f8_:List (SB×Bool):=((.eq (.v 7) (.v 37)),.true)::f7_
 let f9_:List (SB×Bool):=((.v 0),.true)::f8_
 let f10_:List (SB×Bool):=((.v 0),.false)::f8_
 let f11_:List (SB×Bool):=((.v 1),.true)::f9_
 let f12_:List (SB×Bool):=((.v 1),.false)::f10_
 let f13_:List (SB×Bool):=((.eq (.v 9) (.v 39)),.true)::f11_
 let f14_:List (SB×Bool):=((.eq (.v 9) (.v 39)),.true)::f12_
 let f15_:List (SB×Bool):=((.eq (.v 10) (.v 40)),.true)::f13_
 let f16_:List (SB×Bool):=((.eq (.v 10) (.v 40)),.true)::f14_
 let f17_:List (SB×Bool):=((.eq (.v 11) (.v 41)),.true)::f15_
 let f18_:List (SB×Bool):=((.eq (.v 11) (.v 41)),.true)::f16_
 let f19_:List (SB×Bool):=((.eq (.v 12) (.v 42)),.true)::f17_
 let f20_:List (SB×Bool):=((.eq (.v 12) (.v 42)),.true)::f18_
 let f21_:List (SB×Bool):=((.eq (.v 13) (.v 43)),.true)::f19_
 let f22_:List (SB×Bool):=((.eq (.v 13) (.v 43)),.true)::f20_
 let f23_:List (SB×Bool):=((.eq (.v 14) (.v 44)),.true)::f21_
 let f24_:List (SB×Bool):=((.eq (.v 14) (.v 44)),.true)::f22_
 let f25_:List (SB×Bool):=((.eq (.v 15) (.v 45)),.true)::f23_
 let f26_:List (SB×Bool):=((.eq (.v 15) (.v 45)),.true)::f24_
 let f27_:List (SB×Bool):=((.eq (.v 16) (.v 46)),.true)::f25_
 let f28_:List (SB×Bool):=((.eq (.v 16) (.v 46)),.true)::f26_
 let f29_:List (SB×Bool):=((.eq (.v 17) (.v 47)),.true)::f27_
 let f30_:List (SB×Bool):=((.eq (.v 17) (.v 47)),.true)::f28_
 let f31_:List (SB×Bool):=p0_::f29_
 let f32_:List (SB×Bool):=p0_::f30_
 let f33_:List (SB×Bool):=((.eq (.v 21) (.v 51)),.true)::f31_
 let f34_:List (SB×Bool):=((.eq (.v 21) (.v 51)),.true)::f32_
 let f35_:List (SB×Bool):=((.eq (.v 22) (.v 52)),.true)::f33_
 let f36_:List (SB×Bool):=((.eq (.v 22) (.v 52)),.true)::f34_
 let f37_:List (SB×Bool):=((.eq (.v 23) (.v 53)),.true)::f35_
 let f38_:List (SB×Bool):=((.eq (.v 23) (.v 53)),.true)::f36_
 let f39_:List (SB×Bool):=p1_::f37_
 let f40_:List (SB×Bool):=p1_::f38_
 let f41_:List (SB×Bool):=p2_::f39_
 let f42_:List (SB×Bool):=p2_::f40_
 [(.fin (p3_::f41_) 0 ⟨⟨[],[]⟩,[],[],[]⟩ [(.eb (.and (.or (.and (.v 0) (.v 1)) (.and (.not (.v 0)) (.not (.v 1)))) (.eq x8_ (.c 1))) (.ap 30 (.v 25) (.v 55) (.c 3) (.c 0) (.c 0) (.c 0)))] []),
  (.fin (p4_::f41_) 0 ⟨⟨[],[]⟩,[],[],[]⟩ [(.eb (.and (.or (.and (.v 0) (.v 1)) (.and (.not (.v 0)) (.not (.v 1)))) (.eq x8_ (.c 1))) (.c .false))] []),
  (.fin (p5_::f39_) 0 ⟨⟨[],[]⟩,[],[],[]⟩ [(.eb (.and (.or (.and (.v 0) (.v 1)) (.and (.not (.v 0)) (.not (.v 1)))) (.eq x8_ (.c 1))) (.c .false))] []),
  (.fin (p6_::f37_) 0 ⟨⟨[],[]⟩,[],[],[]⟩ [(.eb (.and (.or (.and (.v 0) (.v 1)) (.and (.not (.v 0)) (.not (.v 1)))) (.eq x8_ (.c 1))) (.c .false))] []),
  (.fin (((.eq (.v 23) (.v 53)),.false)::f35_) 0 ⟨⟨[],[]⟩,[],[],[]⟩ [(.eb (.and (.or (.and (.v 0) (.v 1)) (.and (.not (.v 0)) (.not (.v 1)))) (.eq x8_ (.c 1))) (.c .false))] []),
  (.fin (((.eq (.v 22) (.v 52)),.false)::f33_) 0 ⟨⟨[],[]⟩,[],[],[]⟩ [(.eb (.and (.or (.and (.v 0) (.v 1)) (.and (.not (.v 0)) (.not (.v 1)))) (.eq x8_ (.c 1))) (.c .false))] []),
  (.fin (((.eq (.v 21) (.v 51)),.false)::f31_) 0 ⟨⟨[],[]⟩,[],[],[]⟩ [(.eb (.and (.or (.and (.v 0) (.v 1)) (.and (.not (.v 0)) (.not (.v 1)))) (.eq x8_ (.c 1))) (.c .false))] []),
  (.fin (p7_::f29_) 0 ⟨⟨[],[]⟩,[],[],[]⟩ [(.eb (.and (.or (.and (.v 0) (.v 1)) (.and (.not (.v 0)) (.not (.v 1)))) (.eq x8_ (.c 1))) (.c .false))] []),
  (.fin (((.eq (.v 17) (.v 47)),.false)::f27_) 0 ⟨⟨[],[]⟩,[],[],[]⟩ [(.eb (.and (.or (.and (.v 0) (.v 1)) (.and (.not (.v 0)) (.not (.v 1)))) (.eq x8_ (.c 1))) (.c .false))] []),
  (.fin (((.eq (.v 16) (.v 46)),.false)::f25_) 0 ⟨⟨[],[]⟩,[],[],[]⟩ [(.eb (.and (.or (.and (.v 0) (.v 1)) (.and (.not (.v 0)) (.not (.v 1)))) (.eq x8_ (.c 1))) (.c .false))] []),
  (.fin (((.eq (.v 15) (.v 45)),.false)::f23_) 0 ⟨⟨[],[]⟩,[],[],[]⟩ [(.eb (.and (.or (.and (.v 0) (.v 1)) (.and (.not (.v 0)) (.not (.v 1)))) (.eq x8_ (.c 1))) (.c .false))] []),
  (.fin (((.eq (.v 14) (.v 44)),.false)::f21_) 0 ⟨⟨[],[]⟩,[],[],[]⟩ [(.eb (.and (.or (.and (.v 0) (.v 1)) (.and (.not (.v 0)) (.not (.v 1)))) (.eq x8_ (.c 1))) (.c .false))] []),
  (.fin (((.eq (.v 13) (.v 43)),.false)::f19_) 0 ⟨⟨[],[]⟩,[],[],[]⟩ [(.eb (.and (.or (.and (.v 0) (.v 1)) (.and (.not (.v 0)) (.not (.v 1)))) (.eq x8_ (.c 1))) (.c .false))] []),
  (.fin (((.eq (.v 12) (.v 42)),.false)::f17_) 0 ⟨⟨[],[]⟩,[],[],[]⟩ [(.eb (.and (.or (.and (.v 0) (.v 1)) (.and (.not (.v 0)) (.not (.v 1)))) (.eq x8_ (.c 1))) (.c .false))] []),
  (.fin (((.eq (.v 11) (.v 41)),.false)::f15_) 0 ⟨⟨[],[]⟩,[],[],[]⟩ [(.eb (.and (.or (.and (.v 0) (.v 1)) (.and (.not (.v 0)) (.not (.v 1)))) (.eq x8_ (.c 1))) (.c .false))] []),
  (.fin (((.eq (.v 10) (.v 40)),.false)::f13_) 0 ⟨⟨[],[]⟩,[],[],[]⟩ [(.eb (.and (.or (.and (.v 0) (.v 1)) (.and (.not (.v 0)) (.not (.v 1)))) (.eq x8_ (.c 1))) (.c .false))] []),
  (.fin (((.eq (.v 9) (.v 39)),.false)::f11_) 0 ⟨⟨[],[]⟩,[],[],[]⟩ [(.eb (.and (.or (.and (.v 0) (.v 1)) (.and (.not (.v 0)) (.not (.v 1)))) (.eq x8_ (.c 1))) (.c .false))] []),
  (.fin (((.v 1),.false)::f9_) 0 ⟨⟨[],[]⟩,[],[],[]⟩ [(.eb (.and (.or (.and (.v 0) (.v 1)) (.and (.not (.v 0)) (.not (.v 1)))) (.eq x8_ (.c 1))) (.c .false))] []),
  (.fin (((.v 1),.true)::f10_) 0 ⟨⟨[],[]⟩,[],[],[]⟩ [(.eb (.and (.or (.and (.v 0) (.v 1)) (.and (.not (.v 0)) (.not (.v 1)))) (.eq x8_ (.c 1))) (.c .false))] []),
  (.fin (p3_::f42_) 0 ⟨⟨[],[]⟩,[],[],[]⟩ [(.eb (.and (.or (.and (.v 0) (.v 1)) (.and (.not (.v 0)) (.not (.v 1)))) (.eq x8_ (.c 1))) (.ap 30 (.v 25) (.v 55) (.c 3) (.c 0) (.c 0) (.c 0)))] []),
  (.fin (p4_::f42_) 0 ⟨⟨[],[]⟩,[],[],[]⟩ [(.eb (.and (.or (.and (.v 0) (.v 1)) (.and (.not (.v 0)) (.not (.v 1)))) (.eq x8_ (.c 1))) (.c .false))] []),
  (.fin (p5_::f40_) 0 ⟨⟨[],[]⟩,[],[],[]⟩ [(.eb (.and (.or (.and (.v 0) (.v 1)) (.and (.not (.v 0)) (.not (.v 1)))) (.eq x8_ (.c 1))) (.c .false))] []),
  (.fin (p6_::f38_) 0 ⟨⟨[],[]⟩,[],[],[]⟩ [(.eb (.and (.or (.and (.v 0) (.v 1)) (.and (.not (.v 0)) (.not (.v 1)))) (.eq x8_ (.c 1))) (.c .false))] []),
  (.fin (((.eq (.v 23) (.v 53)),.false)::f36_) 0 ⟨⟨[],[]⟩,[],[],[]⟩ [(.eb (.and (.or (.and (.v 0) (.v 1)) (.and (.not (.v 0)) (.not (.v 1)))) (.eq x8_ (.c 1))) (.c .false))] []),
  (.fin (((.eq (.v 22) (.v 52)),.false)::f34_) 0 ⟨⟨[],[]⟩,[],[],[]⟩ [(.eb (.and (.or (.and (.v 0) (.v 1)) (.and (.not (.v 0)) (.not (.v 1)))) (.eq x8_ (.c 1))) (.c .false))] []),
  (.fin (((.eq (.v 21) (.v 51)),.false)::f32_) 0 ⟨⟨[],[]⟩,[],[],[]⟩ [(.eb (.and (.or (.and (.v 0) (.v 1)) (.and (.not (.v 0)) (.not (.v 1)))) (.eq x8_ (.c 1))) (.c .false))] []),
  (.fin (p7_::f30_) 0 ⟨⟨[],[]⟩,[],[],[]⟩ [(.eb (.and (.or (.and (.v 0) (.v 1)) (.and (.not (.v 0)) (.not (.v 1)))) (.eq x8_ (.c 1))) (.c .false))] []),
  (.fin (((.eq (.v 17) (.v 47)),.false)::f28_) 0 ⟨⟨[],[]⟩,[],[],[]⟩ [(.eb (.and (.or (.and (.v 0) (.v 1)) (.and (.not (.v 0)) (.not (.v 1)))) (.eq x8_ (.c 1))) (.c .false))] []),
  (.fin (((.eq (.v 16) (.v 46)),.false)::f26_) 0 ⟨⟨[],[]⟩,[],[],[]⟩ [(.eb (.and (.or (.and (.v 0) (.v 1)) (.and (.not (.v 0)) (.not (.v 1)))) (.eq x8_ (.c 1))) (.c .false))] []),
  (.fin (((.eq (.v 15) (.v 45)),.false)::f24_) 0 ⟨⟨[],[]⟩,[],[],[]⟩ [(.eb (.and (.or (.and (.v 0) (.v 1)) (.and (.not (.v 0)) (.not (.v 1)))) (.eq x8_ (.c 1))) (.c .false))] []),
  (.fin (((.eq (.v 14) (.v 44)),.false)::f22_) 0 ⟨⟨[],[]⟩,[],[],[]⟩ [(.eb (.and (.or (.and (.v 0) (.v 1)) (.and (.not (.v 0)) (.not (.v 1)))) (.eq x8_ (.c 1))) (.c .false))] []),
  (.fin (((.eq (.v 13) (.v 43)),.false)::f20_) 0 ⟨⟨[],[]⟩,[],[],[]⟩ [(.eb (.and (.or (.and (.v 0) (.v 1)) (.and (.not (.v 0)) (.not (.v 1)))) (.eq x8_ (.c 1))) (.c .false))] []),
  (.fin (((.eq (.v 12) (.v 42)),.false)::f18_) 0 ⟨⟨[],[]⟩,[],[],[]⟩ [(.eb (.and (.or (.and (.v 0) (.v 1)) (.and (.not (.v 0)) (.not (.v 1)))) (.eq x8_ (.c 1))) (.c .false))] []),
  (.fin (((.eq (.v 11) (.v 41)),.false)::f16_) 0 ⟨⟨[],[]⟩,[],[],[]⟩ [(.eb (.and (.or (.and (.v 0) (.v 1)) (.and (.not (.v 0)) (.not (.v 1)))) (.eq x8_ (.c 1))) (.c .false))] []),
  (.fin (((.eq (.v 10) (.v 40)),.false)::f14_) 0 ⟨⟨[],[]⟩,[],[],[]⟩ [(.eb (.and (.or (.and (.v 0) (.v 1)) (.and (.not (.v 0)) (.not (.v 1)))) (.eq x8_ (.c 1))) (.c .false))] []),
  (.fin (((.eq (.v 9) (.v 39)),.false)::f12_) 0 ⟨⟨[],[]⟩,[],[],[]⟩ [(.eb (.and (.or (.and (.v 0) (.v 1)) (.and (.not (.v 0)) (.not (.v 1)))) (.eq x8_ (.c 1))) (.c .false))] []),
  (.fin (((.eq (.v 7) (.v 37)),.false)::f7_) 0 ⟨⟨[],[]⟩,[],[],[]⟩ [(.eb (.and (.or (.and (.v 0) (.v 1)) (.and (.not (.v 0)) (.not (.v 1)))) (.eq x8_ (.c 1))) (.c .false))] []),
  (.fin (((.eq (.v 6) (.v 36)),.false)::f6_) 0 ⟨⟨[],[]⟩,[],[],[]⟩ [(.eb (.and (.or (.and (.v 0) (.v 1)) (.and (.not (.v 0)) (.not (.v 1)))) (.eq x8_ (.c 1))) (.c .false))] []),
  (.fin (((.eq (.v 5) (.v 35)),.false)::f5_) 0 ⟨⟨[],[]⟩,[],[],[]⟩ [(.eb (.and (.or (.and (.v 0) (.v 1)) (.and (.not (.v 0)) (.not (.v 1)))) (.eq x8_ (.c 1))) (.c .false))] []),
  (.fin (((.eq (.v 4) (.v 34)),.false)::f4_) 0 ⟨⟨[],[]⟩,[],[],[]⟩ [(.eb (.and (.or (.and (.v 0) (.v 1)) (.and (.not (.v 0)) (.not (.v 1)))) (.eq x8_ (.c 1))) (.c .false))] []),
  (.fin (((.eq (.v 3) (.v 33)),.false)::f3_) 0 ⟨⟨[],[]⟩,[],[],[]⟩ [(.eb (.and (.or (.and (.v 0) (.v 1)) (.and (.not (.v 0)) (.not (.v 1)))) (.eq x8_ (.c 1))) (.c .false))] []),
  (.fin (((.eq (.v 2) (.v 32)),.false)::f2_) 0 ⟨⟨[],[]⟩,[],[],[]⟩ [(.eb (.and (.or (.and (.v 0) (.v 1)) (.and (.not (.v 0)) (.not (.v 1)))) (.eq x8_ (.c 1))) (.c .false))] []),
  (.fin (((.eq (.v 1) (.v 31)),.false)::f1_) 0 ⟨⟨[],[]⟩,[],[],[]⟩ [(.eb (.and (.or (.and (.v 0) (.v 1)) (.and (.not (.v 0)) (.not (.v 1)))) (.eq x8_ (.c 1))) (.c .false))] []),
  (.fin (((.eq (.v 0) (.v 30)),.false)::f0_) 0 ⟨⟨[],[]⟩,[],[],[]⟩ [(.eb (.and (.or (.and (.v 0) (.v 1)) (.and (.not (.v 0)) (.not (.v 1)))) (.eq x8_ (.c 1))) (.c .false))] [])]
def cRS_run (T:Tm):=(ex (ccOf Tryz.prog BF [24,26,29,32,53,56,76,79] cRS) ((fun cc=>[cDb.ent cc,cDR.ent cc,cDT.ent cc]) (ccOf Tryz.prog BF [24,26,29,32,53,56,76,79] cRS)) (dw (ccOf Tryz.prog BF [24,26,29,32,53,56,76,79] cRS) ((fun cc=>[cDb.ent cc,cDR.ent cc,cDT.ent cc]) (ccOf Tryz.prog BF [24,26,29,32,53,56,76,79] cRS)) 1500 12) (stopX [0,1,2,3,4,5,6,7,8,9,10,11,12,13,14,15,16,17,18,19,20,21,22,23,24,25,26,27,28,29,30,31,32,33,34,35,36,37,38,39,40,41,42,43,44,45,46,47,48,49,50,51,52,53,54,55,56,57,58,59,60,61,62,63,64,65,66,67,68,69,70,71,72,73,74,75,76,77,78,79,80,81,82,83,84,85,86,87,88,89,90,91,92,93,94,95,96,97,98,99,100,101,102,103,104,105,106,107,108,109,110,111,112,113,114,115,116,117,118,119,120,121,122,123,124,125,126,127,128,129,130,131,132,133,134,135,136,137,138,139,140,141,142,143,144,145,146,147,148,149,150,151,152,153,154,155,156,157,158,159,160,161,162,163,164,165,166,167,168,169,170,171,172,173,174,175,176,177,178,179,180,181,182,183,184,185,186,187,188,189,190,191,192,193,194,195,196,197,198,199,200,201,202,203,204,205,206,207,208,209,210,211,212,213,214,215,216,217,218,219,220,221,222,223,224,225,226,227,228,229,230,231,232,233,234,235,236,237,238,239,240,241,242,243,244,245,246,247,248,249,250,251,252,253,254,255,256,257,258,259,260,261,262,263,264,265,266,267,268,269,270,271,272,273,274,275,276,277,278,279,280,281,282,283,284,285,286,287,288,289,290,291,292,293,294,295,296,297,298,299,300,301,302,303,304,305,306,307,308,309,310,311,312,313,314,315,316,317,318,319,320,321,322,323,324,325,326,327,328,329,330,331,332,333,334,335,336,337,338,339,340,341,342,343,344,345,346,347,348,349,350,351,352,353,354,355,356,357,358,359,360,361,362,363,364,365,366,367,368,369,370,371,372,373,374,375,376,377,378,379,380,381,382,383,384,385,386,387,388,389,390,391,392,393,394,395,396,397,398,399]) 6000 T.f T.fs T.H).lfs (ccOf Tryz.prog BF [24,26,29,32,53,56,76,79] cRS) ((tm0 cRS Tryz.f7 (Tryz.f7.body.getD .skip))::[]) cRS.os
theorem cRS_h0:cRS_run (tm0 cRS Tryz.f7 (Tryz.f7.body.getD .skip))=some cRS_L0:=by kernel_rfl
def cRS_inv:(Nat→Int)→(Nat→Bool)→Nat→(Nat→Int)→(Nat→Bool)→Prop:=fun _ _ _ _ _=>True
def cRS_mu:(Nat→Int)→(Nat→Bool)→Nat→(Nat→Int)→(Nat→Bool)→Nat:=fun _ _ _ _ _=>0
def cRS_ob (k:Nat) (l:List Lf):Prop:=∀ (kv:Kv) (iv0:Nat→Int) (bv0:Nat→Bool),InB cRS.B iv0→FT (sta FI FB kv iv0 bv0) (dlt dyn0) cRS.F→∀ (iv:Nat→Int) (bv:Nat→Bool),Agr 60 iv0 bv0 iv bv→cRS_inv iv0 bv0 k iv bv→∀ lf∈l,LfT (sta FI FB kv) cRS.os (cRS_inv iv0 bv0) (cRS_mu iv0 bv0) k iv bv lf
theorem cRS_o0:cRS_ob 0 cRS_L0:=by
 intro kv iv0 bv0 hin hF iv bv ha hi
 unfold cRS_L0
 refine List.forall_mem_cons.2 ⟨?_,List.forall_mem_cons.2 ⟨?_,List.forall_mem_cons.2 ⟨?_,List.forall_mem_cons.2 ⟨?_,List.forall_mem_cons.2 ⟨?_,List.forall_mem_cons.2 ⟨?_,List.forall_mem_cons.2 ⟨?_,List.forall_mem_cons.2 ⟨?_,List.forall_mem_cons.2 ⟨?_,List.forall_mem_cons.2 ⟨?_,List.forall_mem_cons.2 ⟨?_,List.forall_mem_cons.2 ⟨?_,List.forall_mem_cons.2 ⟨?_,List.forall_mem_cons.2 ⟨?_,List.forall_mem_cons.2 ⟨?_,List.forall_mem_cons.2 ⟨?_,List.forall_mem_cons.2 ⟨?_,List.forall_mem_cons.2 ⟨?_,List.forall_mem_cons.2 ⟨?_,List.forall_mem_cons.2 ⟨?_,List.forall_mem_cons.2 ⟨?_,List.forall_mem_cons.2 ⟨?_,List.forall_mem_cons.2 ⟨?_,List.forall_mem_cons.2 ⟨?_,List.forall_mem_cons.2 ⟨?_,List.forall_mem_cons.2 ⟨?_,List.forall_mem_cons.2 ⟨?_,List.forall_mem_cons.2 ⟨?_,List.forall_mem_cons.2 ⟨?_,List.forall_mem_cons.2 ⟨?_,List.forall_mem_cons.2 ⟨?_,List.forall_mem_cons.2 ⟨?_,List.forall_mem_cons.2 ⟨?_,List.forall_mem_cons.2 ⟨?_,List.forall_mem_cons.2 ⟨?_,List.forall_mem_cons.2 ⟨?_,List.forall_mem_cons.2 ⟨?_,List.forall_mem_cons.2 ⟨?_,List.forall_mem_cons.2 ⟨?_,List.forall_mem_cons.2 ⟨?_,List.forall_mem_cons.2 ⟨?_,List.forall_mem_cons.2 ⟨?_,List.forall_mem_cons.2 ⟨?_,List.forall_mem_cons.2 ⟨?_,List.forall_mem_nil _⟩⟩⟩⟩⟩⟩⟩⟩⟩⟩⟩⟩⟩⟩⟩⟩⟩⟩⟩⟩⟩⟩⟩⟩⟩⟩⟩⟩⟩⟩⟩⟩⟩⟩⟩⟩⟩⟩⟩⟩⟩⟩⟩⟩
 all_goals
  intro δ hf
 all_goals
  have a0:=ha.1 0 (by omega)
  have a1:=ha.1 1 (by omega)
  have a2:=ha.1 2 (by omega)
  have a3:=ha.1 3 (by omega)
  have a4:=ha.1 4 (by omega)
  have a5:=ha.1 5 (by omega)
  have a6:=ha.1 6 (by omega)
  have a7:=ha.1 7 (by omega)
  have a8:=ha.1 8 (by omega)
  have a9:=ha.1 9 (by omega)
  have a10:=ha.1 10 (by omega)
  have a11:=ha.1 11 (by omega)
  have a12:=ha.1 12 (by omega)
  have a13:=ha.1 13 (by omega)
  have a14:=ha.1 14 (by omega)
  have a15:=ha.1 15 (by omega)
  have a16:=ha.1 16 (by omega)
  have a17:=ha.1 17 (by omega)
  have a18:=ha.1 18 (by omega)
  have a19:=ha.1 19 (by omega)
  have a20:=ha.1 20 (by omega)
  have a21:=ha.1 21 (by omega)
  have a22:=ha.1 22 (by omega)
  have a23:=ha.1 23 (by omega)
  have a24:=ha.1 24 (by omega)
  have a25:=ha.1 25 (by omega)
  have a26:=ha.1 26 (by omega)
  have a27:=ha.1 27 (by omega)
  have a28:=ha.1 28 (by omega)
  have a29:=ha.1 29 (by omega)
  have a30:=ha.1 30 (by omega)
  have a31:=ha.1 31 (by omega)
  have a32:=ha.1 32 (by omega)
  have a33:=ha.1 33 (by omega)
  have a34:=ha.1 34 (by omega)
  have a35:=ha.1 35 (by omega)
  have a36:=ha.1 36 (by omega)
  have a37:=ha.1 37 (by omega)
  have a38:=ha.1 38 (by omega)
  have a39:=ha.1 39 (by omega)
  have a40:=ha.1 40 (by omega)
  have a41:=ha.1 41 (by omega)
  have a42:=ha.1 42 (by omega)
  have a43:=ha.1 43 (by omega)
  have a44:=ha.1 44 (by omega)
  have a45:=ha.1 45 (by omega)
  have a46:=ha.1 46 (by omega)
  have a47:=ha.1 47 (by omega)
  have a48:=ha.1 48 (by omega)
  have a49:=ha.1 49 (by omega)
  have a50:=ha.1 50 (by omega)
  have a51:=ha.1 51 (by omega)
  have a52:=ha.1 52 (by omega)
  have a53:=ha.1 53 (by omega)
  have a54:=ha.1 54 (by omega)
  have a55:=ha.1 55 (by omega)
  have a56:=ha.1 56 (by omega)
  have a57:=ha.1 57 (by omega)
  have a58:=ha.1 58 (by omega)
  have a59:=ha.1 59 (by omega)
 all_goals
  simp only [FT,TP,SB.tp,SI.tv,sta,IB.eval,and_true,true_and,ObsT,Ob.Tv,rowT,kix,In.tiv,↓tbvT,In.tbv,get_cons,get_nil,reduceIte,Nat.reduceEqDiff,Int.reduceToNat,Int.reduceAdd,Int.reduceSub,Int.reduceLE,Int.reduceLT,Int.reduceEq,ne_eq,Bool.false_eq_true,not_true_eq_false,not_false_eq_true,true_iff,false_iff,iff_true,iff_false,false_implies,implies_true,decT,decide_true,decide_false,Bool.decide_eq_true,ap2,pb2,FI_3,FI_4,FI_6,FI_8,FI_9,FI_8c,FI_8z,FI_200,FB_0,FB_2,Int.toNat_natCast,Int.toNat_zero,FI_20,FI_21,FI_22,FI_23,FB_30,FB_31,cRS_inv,cRS_mu,cRS,o1,othT,o1,flF,SI.fl,flay,flayL,i64b,u64b,eqB,mSB,mA,mV,mB,a0,a1,a2,a3,a4,a5,a6,a7,a8,a9,a10,a11,a12,a13,a14,a15,a16,a17,a18,a19,a20,a21,a22,a23,a24,a25,a26,a27,a28,a29,a30,a31,a32,a33,a34,a35,a36,a37,a38,a39,a40,a41,a42,a43,a44,a45,a46,a47,a48,a49,a50,a51,a52,a53,a54,a55,a56,a57,a58,a59] at hf hi ⊢
 all_goals
  simp only [and2_one,andL_one,andR_one] at hf ⊢
 all_goals
  (repeat' (with_reducible apply And.intro))<;>first
  | omega
  | assumption
  | (unfold inM;omega)
  | exact trivial
  | (clear hin hF ha;grind)
theorem cRS_c:LsC ((tm0 cRS Tryz.f7 (Tryz.f7.body.getD .skip))::[]) cRS.os [cRS_L0]:=by
 unfold cRS_L0
 exact ⟨List.forall_mem_cons.2 ⟨⟨⟨_,rfl,rfl⟩,by kernel_rfl⟩,List.forall_mem_cons.2 ⟨⟨⟨_,rfl,rfl⟩,by kernel_rfl⟩,List.forall_mem_cons.2 ⟨⟨⟨_,rfl,rfl⟩,by kernel_rfl⟩,List.forall_mem_cons.2 ⟨⟨⟨_,rfl,rfl⟩,by kernel_rfl⟩,List.forall_mem_cons.2 ⟨⟨⟨_,rfl,rfl⟩,by kernel_rfl⟩,List.forall_mem_cons.2 ⟨⟨⟨_,rfl,rfl⟩,by kernel_rfl⟩,List.forall_mem_cons.2 ⟨⟨⟨_,rfl,rfl⟩,by kernel_rfl⟩,List.forall_mem_cons.2 ⟨⟨⟨_,rfl,rfl⟩,by kernel_rfl⟩,List.forall_mem_cons.2 ⟨⟨⟨_,rfl,rfl⟩,by kernel_rfl⟩,List.forall_mem_cons.2 ⟨⟨⟨_,rfl,rfl⟩,by kernel_rfl⟩,List.forall_mem_cons.2 ⟨⟨⟨_,rfl,rfl⟩,by kernel_rfl⟩,List.forall_mem_cons.2 ⟨⟨⟨_,rfl,rfl⟩,by kernel_rfl⟩,List.forall_mem_cons.2 ⟨⟨⟨_,rfl,rfl⟩,by kernel_rfl⟩,List.forall_mem_cons.2 ⟨⟨⟨_,rfl,rfl⟩,by kernel_rfl⟩,List.forall_mem_cons.2 ⟨⟨⟨_,rfl,rfl⟩,by kernel_rfl⟩,List.forall_mem_cons.2 ⟨⟨⟨_,rfl,rfl⟩,by kernel_rfl⟩,List.forall_mem_cons.2 ⟨⟨⟨_,rfl,rfl⟩,by kernel_rfl⟩,List.forall_mem_cons.2 ⟨⟨⟨_,rfl,rfl⟩,by kernel_rfl⟩,List.forall_mem_cons.2 ⟨⟨⟨_,rfl,rfl⟩,by kernel_rfl⟩,List.forall_mem_cons.2 ⟨⟨⟨_,rfl,rfl⟩,by kernel_rfl⟩,List.forall_mem_cons.2 ⟨⟨⟨_,rfl,rfl⟩,by kernel_rfl⟩,List.forall_mem_cons.2 ⟨⟨⟨_,rfl,rfl⟩,by kernel_rfl⟩,List.forall_mem_cons.2 ⟨⟨⟨_,rfl,rfl⟩,by kernel_rfl⟩,List.forall_mem_cons.2 ⟨⟨⟨_,rfl,rfl⟩,by kernel_rfl⟩,List.forall_mem_cons.2 ⟨⟨⟨_,rfl,rfl⟩,by kernel_rfl⟩,List.forall_mem_cons.2 ⟨⟨⟨_,rfl,rfl⟩,by kernel_rfl⟩,List.forall_mem_cons.2 ⟨⟨⟨_,rfl,rfl⟩,by kernel_rfl⟩,List.forall_mem_cons.2 ⟨⟨⟨_,rfl,rfl⟩,by kernel_rfl⟩,List.forall_mem_cons.2 ⟨⟨⟨_,rfl,rfl⟩,by kernel_rfl⟩,List.forall_mem_cons.2 ⟨⟨⟨_,rfl,rfl⟩,by kernel_rfl⟩,List.forall_mem_cons.2 ⟨⟨⟨_,rfl,rfl⟩,by kernel_rfl⟩,List.forall_mem_cons.2 ⟨⟨⟨_,rfl,rfl⟩,by kernel_rfl⟩,List.forall_mem_cons.2 ⟨⟨⟨_,rfl,rfl⟩,by kernel_rfl⟩,List.forall_mem_cons.2 ⟨⟨⟨_,rfl,rfl⟩,by kernel_rfl⟩,List.forall_mem_cons.2 ⟨⟨⟨_,rfl,rfl⟩,by kernel_rfl⟩,List.forall_mem_cons.2 ⟨⟨⟨_,rfl,rfl⟩,by kernel_rfl⟩,List.forall_mem_cons.2 ⟨⟨⟨_,rfl,rfl⟩,by kernel_rfl⟩,List.forall_mem_cons.2 ⟨⟨⟨_,rfl,rfl⟩,by kernel_rfl⟩,List.forall_mem_cons.2 ⟨⟨⟨_,rfl,rfl⟩,by kernel_rfl⟩,List.forall_mem_cons.2 ⟨⟨⟨_,rfl,rfl⟩,by kernel_rfl⟩,List.forall_mem_cons.2 ⟨⟨⟨_,rfl,rfl⟩,by kernel_rfl⟩,List.forall_mem_cons.2 ⟨⟨⟨_,rfl,rfl⟩,by kernel_rfl⟩,List.forall_mem_cons.2 ⟨⟨⟨_,rfl,rfl⟩,by kernel_rfl⟩,List.forall_mem_cons.2 ⟨⟨⟨_,rfl,rfl⟩,by kernel_rfl⟩,List.forall_mem_nil _⟩⟩⟩⟩⟩⟩⟩⟩⟩⟩⟩⟩⟩⟩⟩⟩⟩⟩⟩⟩⟩⟩⟩⟩⟩⟩⟩⟩⟩⟩⟩⟩⟩⟩⟩⟩⟩⟩⟩⟩⟩⟩⟩⟩,trivial⟩
theorem cRS_ok:cRS.Ok Tryz.prog FI FB:=
 Con.of_plain (body:=Tryz.f7.body.getD .skip) pok fiok (EntsFor.cons cDb_ok (EntsFor.cons cDR_ok (EntsFor.cons cDT_ok EntsFor.nil))) cRS Tryz.func7 (by kernel_rfl) 60 [] (by kernel_rfl) [cRS_L0] ⟨cRS_h0,trivial⟩ cRS_c
  cRS_inv cRS_mu (fun _ _ _=>trivial) fun kv iv0 bv0 hin hF k l iv bv hk ha hi=>match k,hk,hi with
  | 0,hk,hi=>by
    cases hk
    exact cRS_o0 kv iv0 bv0 hin hF iv bv ha hi
  | k+1,hk,_=>by simp at hk
end
end Go.Sx.Mg
