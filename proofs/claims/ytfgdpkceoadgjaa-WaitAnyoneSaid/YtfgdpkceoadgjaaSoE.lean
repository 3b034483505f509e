/- Sorting: pdqsort. -/
import Derived.Test.YtfgdpkceoadgjaaSoF
namespace Go.Sx.Mhw
set_option linter.unusedVariables false
set_option linter.unusedSimpArgs false
set_option maxRecDepth 100000
set_option maxHeartbeats 0
open Go Go.Sx Go.Proofs
noncomputable def uPdq:Com:=⟨148,[0,1,2,3,4,5,6,7],[dU,.it .i64 (.v 5),.it .i64 (.v 6),.it .i64 (.v 7),cmpV],mU (.v 0),1,bU,(.le (.c 0) (.v 5),true)::(.le (.v 5) (.c 1000),true)::(.le (.c 0) (.v 6),true)::(.le (.v 6) (.c 1000),true)::(.le (.c 0) (.v 7),true)::(.le (.v 7) (.c 1000),true)::leF 5 6::leF 6 1::fU,
 [⟨[],.tp [],mU (tP 53),1,0,[]⟩],.op .sub (.v 6) (.v 5)⟩
noncomputable def uPdq_T1:Tm:=⟨⟨148,148,[(11,(.bo (.v 29))),(10,(.bo (.v 30))),(0,(.sl (.n 0) (.c 0) (.v 1) (.v 2))),(1,(.it .i64 (.v 31))),(2,(.it .i64 (.v 32))),(3,(.it .i64 (.v 33))),(4,(.fn 117 [(.it .i64 (.v 4))] []))],[(.code (atC Try.f148 [1,1,0,0])),(.inLoop (atC Try.f148 [1,1,0,0])),(.inBlock 0)],[],.none⟩,[],
  ⟨[(0,(.arr [(.nt .i64),(.nt .i64),(.nt .i64),(.nt .i64),(.nt .i64),(.nt .i64)] (.v 28) (.v 1) 158 (.v 3)))],1,0,0,[((.le (.c 0) (.v 5)),.true),((.le (.v 5) (.c 1000)),.true),((.le (.c 0) (.v 6)),.true),((.le (.v 6) (.c 1000)),.true),((.le (.c 0) (.v 7)),.true),((.le (.v 7) (.c 1000)),.true),((.le (.v 5) (.v 6)),.true),((.le (.v 6) (.v 1)),.true),((.le (.v 1) (.v 2)),.true),((.le (.v 1) (.v 3)),.true),((.le (.c 0) (.v 31)),.true),((.le (.v 31) (.c 1000)),.true),((.le (.c 0) (.v 32)),.true),((.le (.v 32) (.c 1000)),.true),((.le (.v 31) (.v 32)),.true),((.le (.v 32) (.v 1)),.true),((.le (.c 0) (.v 33)),.true),((.le (.v 33) (.c 1000)),.true),((.le (.op .sub (.v 32) (.v 31)) (.op .sub (.v 6) (.v 5))),.true)],[0],[(31,(0,1000)),(32,(0,1000)),(33,(0,1000)),(5,(0,1000)),(5,(0,1000)),(6,(0,1000)),(6,(0,1000)),(7,(0,1000)),(7,(0,1000)),(5,(0,1000)),(6,(0,1000)),(6,(0,1000)),(1,(0,1000)),(1,(0,1000)),(1,(0,1000)),(3,(0,(-1))),(1,(0,1000)),(3,(0,(-1))),(4,((-9223372036854775808),9223372036854775807)),(5,(0,(-1))),(6,(0,(-1))),(7,(0,(-1)))]⟩,[29,30,31,32,33,28]⟩
noncomputable def uPdq_L0:List Lf:=
 [(let i_:In:=⟨⟨[(28,(.v 0)),(33,(.v 7)),(32,(.v 6)),(31,(.v 5))],[(30,(.c .true)),(29,(.c .true))]⟩,[(0,0)],[],[]⟩;.cut ([((.le (.c 0) (.v 5)),.true),((.le (.v 5) (.c 1000)),.true),((.le (.c 0) (.v 6)),.true),((.le (.v 6) (.c 1000)),.true),((.le (.c 0) (.v 7)),.true),((.le (.v 7) (.c 1000)),.true),((.le (.v 5) (.v 6)),.true),((.le (.v 6) (.v 1)),.true),((.le (.v 1) (.v 2)),.true),((.le (.v 1) (.v 3)),.true)]) 1 i_ [] (shT uPdq_T1 i_))]
noncomputable def uPdq_L1:List Lf:=
 let x0_:SI:=(.op .sub (.v 32) (.v 31))
 let x1_:SI:=(.op .add (.v 31) (.c (-1)))
 let x2_:SI:=(.op .add (.v 33) (.c (-1)))
 let p3_:SB×Bool:=((.lt (.c 0) (.v 31)),.true)
 let p4_:SB×Bool:=((.lt (.c 0) (.v 31)),.false)
 let x5_:SI:=(.op .tdiv x0_ (.c 8))
 let x6_:SI:=(.ap 50 (.v 28) (.v 1) (.v 31) (.v 32) (.v 4) (.c 0))
 let x7_:SI:=(.ap 49 (.v 28) (.v 1) (.v 31) (.v 32) (.c 0) (.c 0))
 let x8_:SI:=(.ap 51 (.v 28) (.v 1) (.v 31) (.v 32) (.v 4) (.c 0))
 let x9_:SI:=(.ap 52 (.v 28) (.v 1) (.v 31) (.v 32) (.c 0) (.c 0))
 let x10_:SI:=(.ap 48 (.v 28) (.v 1) (.v 31) (.v 32) (.v 4) (.c 0))
 let x11_:SI:=(.wk .i64 x5_)
 let x12_:SI:=(.ap 50 x7_ (.v 1) (.v 31) (.v 32) (.v 4) (.c 0))
 let x13_:SI:=(.ap 51 x7_ (.v 1) (.v 31) (.v 32) (.v 4) (.c 0))
 let x14_:SI:=(.ap 52 x7_ (.v 1) (.v 31) (.v 32) (.c 0) (.c 0))
 let x15_:SI:=(.ap 48 x9_ (.v 1) (.v 31) (.v 32) (.v 4) (.c 0))
 let x16_:SI:=(.ap 45 (.v 28) (.v 1) (.v 31) (.v 32) x6_ (.v 4))
 let x17_:SI:=(.ap 44 (.v 28) (.v 1) (.v 31) (.v 32) x6_ (.v 4))
 let x18_:SI:=(.ap 47 (.v 28) (.v 1) (.v 31) (.v 32) x6_ (.v 4))
 let x19_:SI:=(.op .sub (.op .add (.v 32) (.c (-1))) (.op .sub x6_ (.v 31)))
 let x20_:SI:=(.op .add x16_ (.c 1))
 let x21_:SI:=(.op .sub x16_ (.v 31))
 let x22_:SI:=(.op .sub (.v 32) x16_)
 let p23_:SB×Bool:=((.le (.c 0) x16_),.true)
 let p24_:SB×Bool:=((.le (.v 31) x16_),.true)
 let p25_:SB×Bool:=((.lt x16_ (.v 32)),.true)
 let p26_:SB×Bool:=((.le x16_ (.c 1000)),.true)
 let x27_:SI:=(.ap 45 x10_ (.v 1) (.v 31) (.v 32) x6_ (.v 4))
 let x28_:SI:=(.ap 44 x10_ (.v 1) (.v 31) (.v 32) x6_ (.v 4))
 let x29_:SI:=(.ap 47 x10_ (.v 1) (.v 31) (.v 32) x6_ (.v 4))
 let x30_:SI:=(.op .sub (.op .add (.v 32) (.c (-1))) (.op .sub x12_ (.v 31)))
 let x31_:SI:=(.op .sub x27_ (.v 31))
 let x32_:SI:=(.op .sub (.v 32) x27_)
 let x33_:SI:=(.ap 45 x7_ (.v 1) (.v 31) (.v 32) x12_ (.v 4))
 let x34_:SI:=(.ap 44 x7_ (.v 1) (.v 31) (.v 32) x12_ (.v 4))
 let x35_:SI:=(.ap 47 x7_ (.v 1) (.v 31) (.v 32) x12_ (.v 4))
 let x36_:SI:=(.ap 45 x9_ (.v 1) (.v 31) (.v 32) x19_ (.v 4))
 let x37_:SI:=(.ap 44 x9_ (.v 1) (.v 31) (.v 32) x19_ (.v 4))
 let x38_:SI:=(.ap 47 x9_ (.v 1) (.v 31) (.v 32) x19_ (.v 4))
 let x39_:SI:=(.op .sub x33_ (.v 31))
 let x40_:SI:=(.op .sub (.v 32) x33_)
 let x41_:SI:=(.op .sub x36_ (.v 31))
 let x42_:SI:=(.op .sub (.v 32) x36_)
 let x43_:SI:=(.ap 45 x15_ (.v 1) (.v 31) (.v 32) x19_ (.v 4))
 let x44_:SI:=(.ap 44 x15_ (.v 1) (.v 31) (.v 32) x19_ (.v 4))
 let x45_:SI:=(.ap 47 x15_ (.v 1) (.v 31) (.v 32) x19_ (.v 4))
 let p46_:SB×Bool:=((.lt x21_ x22_),.true)
 let p47_:SB×Bool:=((.lt x21_ x22_),.false)
 let x48_:SI:=(.op .sub x43_ (.v 31))
 let x49_:SI:=(.op .sub (.v 32) x43_)
 let x50_:SI:=(.ap 45 x14_ (.v 1) (.v 31) (.v 32) x30_ (.v 4))
 let x51_:SI:=(.ap 44 x14_ (.v 1) (.v 31) (.v 32) x30_ (.v 4))
 let x52_:SI:=(.ap 47 x14_ (.v 1) (.v 31) (.v 32) x30_ (.v 4))
 let x53_:SI:=(.op .sub x50_ (.v 31))
 let x54_:SI:=(.op .sub (.v 32) x50_)
 let x55_:SI:=(.ap 40 (.ap 3 (.v 28) x1_ (.c 3) (.c 0) (.c 0) (.c 0)) (.ap 3 (.v 28) x1_ (.c 5) (.c 0) (.c 0) (.c 0)) (.op .sub (.ap 3 (.v 28) x1_ (.c 4) (.c 0) (.c 0) (.c 0)) (.v 4)) (.ap 3 (.v 28) x6_ (.c 3) (.c 0) (.c 0) (.c 0)) (.ap 3 (.v 28) x6_ (.c 5) (.c 0) (.c 0) (.c 0)) (.op .sub (.ap 3 (.v 28) x6_ (.c 4) (.c 0) (.c 0) (.c 0)) (.v 4)))
 let x56_:SI:=(.ap 40 (.ap 3 x10_ x1_ (.c 3) (.c 0) (.c 0) (.c 0)) (.ap 3 x10_ x1_ (.c 5) (.c 0) (.c 0) (.c 0)) (.op .sub (.ap 3 x10_ x1_ (.c 4) (.c 0) (.c 0) (.c 0)) (.v 4)) (.ap 3 x10_ x6_ (.c 3) (.c 0) (.c 0) (.c 0)) (.ap 3 x10_ x6_ (.c 5) (.c 0) (.c 0) (.c 0)) (.op .sub (.ap 3 x10_ x6_ (.c 4) (.c 0) (.c 0) (.c 0)) (.v 4)))
 let x57_:SI:=(.ap 40 (.ap 3 x7_ x1_ (.c 3) (.c 0) (.c 0) (.c 0)) (.ap 3 x7_ x1_ (.c 5) (.c 0) (.c 0) (.c 0)) (.op .sub (.ap 3 x7_ x1_ (.c 4) (.c 0) (.c 0) (.c 0)) (.v 4)) (.ap 3 x7_ x12_ (.c 3) (.c 0) (.c 0) (.c 0)) (.ap 3 x7_ x12_ (.c 5) (.c 0) (.c 0) (.c 0)) (.op .sub (.ap 3 x7_ x12_ (.c 4) (.c 0) (.c 0) (.c 0)) (.v 4)))
 let x58_:SI:=(.ap 40 (.ap 3 x9_ x1_ (.c 3) (.c 0) (.c 0) (.c 0)) (.ap 3 x9_ x1_ (.c 5) (.c 0) (.c 0) (.c 0)) (.op .sub (.ap 3 x9_ x1_ (.c 4) (.c 0) (.c 0) (.c 0)) (.v 4)) (.ap 3 x9_ x19_ (.c 3) (.c 0) (.c 0) (.c 0)) (.ap 3 x9_ x19_ (.c 5) (.c 0) (.c 0) (.c 0)) (.op .sub (.ap 3 x9_ x19_ (.c 4) (.c 0) (.c 0) (.c 0)) (.v 4)))
 let x59_:SI:=(.ap 40 (.ap 3 x15_ x1_ (.c 3) (.c 0) (.c 0) (.c 0)) (.ap 3 x15_ x1_ (.c 5) (.c 0) (.c 0) (.c 0)) (.op .sub (.ap 3 x15_ x1_ (.c 4) (.c 0) (.c 0) (.c 0)) (.v 4)) (.ap 3 x15_ x19_ (.c 3) (.c 0) (.c 0) (.c 0)) (.ap 3 x15_ x19_ (.c 5) (.c 0) (.c 0) (.c 0)) (.op .sub (.ap 3 x15_ x19_ (.c 4) (.c 0) (.c 0) (.c 0)) (.v 4)))
 let x60_:SI:=(.ap 40 (.ap 3 x14_ x1_ (.c 3) (.c 0) (.c 0) (.c 0)) (.ap 3 x14_ x1_ (.c 5) (.c 0) (.c 0) (.c 0)) (.op .sub (.ap 3 x14_ x1_ (.c 4) (.c 0) (.c 0) (.c 0)) (.v 4)) (.ap 3 x14_ x30_ (.c 3) (.c 0) (.c 0) (.c 0)) (.ap 3 x14_ x30_ (.c 5) (.c 0) (.c 0) (.c 0)) (.op .sub (.ap 3 x14_ x30_ (.c 4) (.c 0) (.c 0) (.c 0)) (.v 4)))
 let f0_:List (SB×Bool):=[((.le (.c 0) (.v 5)),.true),((.le (.v 5) (.c 1000)),.true),((.le (.c 0) (.v 6)),.true),((.le (.v 6) (.c 1000)),.true),((.le (.c 0) (.v 7)),.true),((.le (.v 7) (.c 1000)),.true),((.le (.v 5) (.v 6)),.true),((.le (.v 6) (.v 1)),.true),((.le (.v 1) (.v 2)),.true),((.le (.v 1) (.v 3)),.true),((.le (.c 0) (.v 31)),.true),((.le (.v 31) (.c 1000)),.true),((.le (.c 0) (.v 32)),.true),((.le (.v 32) (.c 1000)),.true),((.le (.v 31) (.v 32)),.true),((.le (.v 32) (.v 1)),.true),((.le (.c 0) (.v 33)),.true),((.le (.v 33) (.c 1000)),.true),((.le x0_ (.op .sub (.v 6) (.v 5))),.true)]
 let f1_:List (SB×Bool):=((.le x0_ (.c 12)),.false)::f0_
 let f2_:List (SB×Bool):=((.eq (.v 33) (.c 0)),.false)::f1_
 let f3_:List (SB×Bool):=((.le (.v 31) x6_),.true)::((.lt x6_ (.v 32)),.true)::((.v 30),.true)::f2_
 let f4_:List (SB×Bool):=((.le (.v 31) x12_),.true)::((.lt x12_ (.v 32)),.true)::((.v 30),.false)::f2_
 let f5_:List (SB×Bool):=((.eq x8_ (.c 2)),.true)::f3_
 let f6_:List (SB×Bool):=((.eq x8_ (.c 2)),.false)::f3_
 let f7_:List (SB×Bool):=((.eq x13_ (.c 2)),.true)::f4_
 let f8_:List (SB×Bool):=((.eq x13_ (.c 2)),.false)::f4_
 let f9_:List (SB×Bool):=((.v 29),.true)::f5_
 let f10_:List (SB×Bool):=((.v 29),.false)::f5_
 let f11_:List (SB×Bool):=((.v 29),.true)::f6_
 let f12_:List (SB×Bool):=((.v 29),.false)::f6_
 let f13_:List (SB×Bool):=p3_::f7_
 let f14_:List (SB×Bool):=p3_::f8_
 let f15_:List (SB×Bool):=((.ap 48 x9_ (.v 1) (.v 31) (.v 32) (.v 4) (.c 0)),.false)::f9_
 let f16_:List (SB×Bool):=p3_::f10_
 let f17_:List (SB×Bool):=((.eq x8_ (.c 1)),.true)::f11_
 let f18_:List (SB×Bool):=((.eq x8_ (.c 1)),.false)::f11_
 let f19_:List (SB×Bool):=p3_::f12_
 let f20_:List (SB×Bool):=p3_::f15_
 let f21_:List (SB×Bool):=((.ap 48 (.v 28) (.v 1) (.v 31) (.v 32) (.v 4) (.c 0)),.false)::f17_
 let f22_:List (SB×Bool):=p3_::f18_
 let f23_:List (SB×Bool):=p3_::f21_
 let f24_:List (SB×Bool):=((.le (.v 31) x50_),.true)::((.lt x50_ (.v 32)),.true)::((.le (.c 0) x50_),.true)::((.le x50_ (.c 1000)),.true)::p4_::f7_
 let f25_:List (SB×Bool):=((.le (.v 31) x33_),.true)::((.lt x33_ (.v 32)),.true)::((.le (.c 0) x33_),.true)::((.le x33_ (.c 1000)),.true)::p4_::f8_
 let f26_:List (SB×Bool):=((.le (.v 31) x36_),.true)::((.lt x36_ (.v 32)),.true)::((.le (.c 0) x36_),.true)::((.le x36_ (.c 1000)),.true)::p4_::f10_
 let f27_:List (SB×Bool):=p24_::p25_::p23_::p26_::p4_::f12_
 let f28_:List (SB×Bool):=((.le (.v 31) x50_),.true)::((.lt x50_ (.v 32)),.true)::((.le (.c 0) x50_),.true)::((.le x50_ (.c 1000)),.true)::((.lt x60_ (.c 0)),.true)::f13_
 let f29_:List (SB×Bool):=((.le (.v 31) x33_),.true)::((.lt x33_ (.v 32)),.true)::((.le (.c 0) x33_),.true)::((.le x33_ (.c 1000)),.true)::((.lt x57_ (.c 0)),.true)::f14_
 let f30_:List (SB×Bool):=((.le (.v 31) x43_),.true)::((.lt x43_ (.v 32)),.true)::((.le (.c 0) x43_),.true)::((.le x43_ (.c 1000)),.true)::p4_::f15_
 let f31_:List (SB×Bool):=((.le (.v 31) x36_),.true)::((.lt x36_ (.v 32)),.true)::((.le (.c 0) x36_),.true)::((.le x36_ (.c 1000)),.true)::((.lt x58_ (.c 0)),.true)::f16_
 let f32_:List (SB×Bool):=p24_::p25_::p23_::p26_::p4_::f18_
 let f33_:List (SB×Bool):=p24_::p25_::p23_::p26_::((.lt x55_ (.c 0)),.true)::f19_
 let f34_:List (SB×Bool):=((.le (.v 31) x43_),.true)::((.lt x43_ (.v 32)),.true)::((.le (.c 0) x43_),.true)::((.le x43_ (.c 1000)),.true)::((.lt x59_ (.c 0)),.true)::f20_
 let f35_:List (SB×Bool):=((.le (.v 31) x27_),.true)::((.lt x27_ (.v 32)),.true)::((.le (.c 0) x27_),.true)::((.le x27_ (.c 1000)),.true)::p4_::f21_
 let f36_:List (SB×Bool):=p24_::p25_::p23_::p26_::((.lt x55_ (.c 0)),.true)::f22_
 let f37_:List (SB×Bool):=((.le (.v 31) x27_),.true)::((.lt x27_ (.v 32)),.true)::((.le (.c 0) x27_),.true)::((.le x27_ (.c 1000)),.true)::((.lt x56_ (.c 0)),.true)::f23_
 [(.fin (((.le x0_ (.c 12)),.true)::f0_) 0 ⟨⟨[],[]⟩,[(0,0)],[],[]⟩ [(.ar [(.nt .i64),(.nt .i64),(.nt .i64),(.nt .i64),(.nt .i64),(.nt .i64)] (.ap 53 (.v 0) (.v 1) (.v 5) (.v 6) (.v 7) (.v 4)) (.ap 41 (.v 28) (.v 1) (.v 31) (.v 32) (.v 4) (.c 0)) (.v 1))] [.none]),
  (.fin (((.eq (.v 33) (.c 0)),.true)::f1_) 0 ⟨⟨[],[]⟩,[(0,0)],[],[]⟩ [(.ar [(.nt .i64),(.nt .i64),(.nt .i64),(.nt .i64),(.nt .i64),(.nt .i64)] (.ap 53 (.v 0) (.v 1) (.v 5) (.v 6) (.v 7) (.v 4)) (.ap 43 (.v 28) (.v 1) (.v 31) (.v 32) (.v 4) (.c 0)) (.v 1))] [.none]),
  (.fin (((.ap 48 x9_ (.v 1) (.v 31) (.v 32) (.v 4) (.c 0)),.true)::f9_) 0 ⟨⟨[],[]⟩,[(0,0)],[],[]⟩ [(.ar [(.nt .i64),(.nt .i64),(.nt .i64),(.nt .i64),(.nt .i64),(.nt .i64)] (.ap 53 (.v 0) (.v 1) (.v 5) (.v 6) (.v 7) (.v 4)) (.ap 48 x9_ (.v 1) (.v 31) (.v 32) (.v 4) (.c 0)) (.v 1))] [.none]),
  (let i_:In:=⟨⟨[(28,(.ap 53 x44_ (.v 1) (.v 31) x43_ (.v 33) (.v 4))),(33,(.v 33)),(32,(.v 32)),(31,(.op .add x43_ (.c 1)))],[(30,(.le x11_ x48_)),(29,(.ap 44 x15_ (.v 1) (.v 31) (.v 32) x19_ (.v 4)))]⟩,[(0,0)],[],[]⟩;.cut (((.lt x48_ x49_),.true)::f34_) 1 i_ [(.rn (.op .add x43_ (.c 1)) 0 1000)] (shT uPdq_T1 i_)),
  (let i_:In:=⟨⟨[(28,(.ap 53 x44_ (.v 1) (.op .add x43_ (.c 1)) (.v 32) (.v 33) (.v 4))),(33,(.v 33)),(32,(.ap 45 x15_ (.v 1) (.v 31) (.v 32) x19_ (.v 4))),(31,(.v 31))],[(30,(.le x11_ x49_)),(29,(.ap 44 x15_ (.v 1) (.v 31) (.v 32) x19_ (.v 4)))]⟩,[(0,0)],[],[]⟩;.cut (((.lt x48_ x49_),.false)::f34_) 1 i_ [] (shT uPdq_T1 i_)),
  (let i_:In:=⟨⟨[(28,(.ap 46 x15_ (.v 1) (.v 31) (.v 32) x19_ (.v 4))),(33,(.v 33)),(32,(.v 32)),(31,(.ap 47 x15_ (.v 1) (.v 31) (.v 32) x19_ (.v 4)))],[(30,(.v 30)),(29,(.v 29))]⟩,[(0,0)],[],[]⟩;.cut (((.lt (.v 31) x45_),.true)::((.le x45_ (.v 32)),.true)::((.le (.c 0) x45_),.true)::((.le x45_ (.c 1000)),.true)::((.lt x59_ (.c 0)),.false)::f20_) 1 i_ [(.rn (.ap 47 x15_ (.v 1) (.v 31) (.v 32) x19_ (.v 4)) 0 1000)] (shT uPdq_T1 i_)),
  (let i_:In:=⟨⟨[(28,(.ap 53 x44_ (.v 1) (.v 31) x43_ (.v 33) (.v 4))),(33,(.v 33)),(32,(.v 32)),(31,(.op .add x43_ (.c 1)))],[(30,(.le x5_ x48_)),(29,(.ap 44 x15_ (.v 1) (.v 31) (.v 32) x19_ (.v 4)))]⟩,[(0,0)],[],[]⟩;.cut (((.lt x48_ x49_),.true)::f30_) 1 i_ [(.rn (.op .add x43_ (.c 1)) 0 1000)] (shT uPdq_T1 i_)),
  (let i_:In:=⟨⟨[(28,(.ap 53 x44_ (.v 1) (.op .add x43_ (.c 1)) (.v 32) (.v 33) (.v 4))),(33,(.v 33)),(32,(.ap 45 x15_ (.v 1) (.v 31) (.v 32) x19_ (.v 4))),(31,(.v 31))],[(30,(.le x5_ x49_)),(29,(.ap 44 x15_ (.v 1) (.v 31) (.v 32) x19_ (.v 4)))]⟩,[(0,0)],[],[]⟩;.cut (((.lt x48_ x49_),.false)::f30_) 1 i_ [] (shT uPdq_T1 i_)),
  (let i_:In:=⟨⟨[(28,(.ap 53 x37_ (.v 1) (.v 31) x36_ (.v 33) (.v 4))),(33,(.v 33)),(32,(.v 32)),(31,(.op .add x36_ (.c 1)))],[(30,(.le x11_ x41_)),(29,(.ap 44 x9_ (.v 1) (.v 31) (.v 32) x19_ (.v 4)))]⟩,[(0,0)],[],[]⟩;.cut (((.lt x41_ x42_),.true)::f31_) 1 i_ [(.rn (.op .add x36_ (.c 1)) 0 1000)] (shT uPdq_T1 i_)),
  (let i_:In:=⟨⟨[(28,(.ap 53 x37_ (.v 1) (.op .add x36_ (.c 1)) (.v 32) (.v 33) (.v 4))),(33,(.v 33)),(32,(.ap 45 x9_ (.v 1) (.v 31) (.v 32) x19_ (.v 4))),(31,(.v 31))],[(30,(.le x11_ x42_)),(29,(.ap 44 x9_ (.v 1) (.v 31) (.v 32) x19_ (.v 4)))]⟩,[(0,0)],[],[]⟩;.cut (((.lt x41_ x42_),.false)::f31_) 1 i_ [] (shT uPdq_T1 i_)),
  (let i_:In:=⟨⟨[(28,(.ap 46 x9_ (.v 1) (.v 31) (.v 32) x19_ (.v 4))),(33,(.v 33)),(32,(.v 32)),(31,(.ap 47 x9_ (.v 1) (.v 31) (.v 32) x19_ (.v 4)))],[(30,(.v 30)),(29,(.v 29))]⟩,[(0,0)],[],[]⟩;.cut (((.lt (.v 31) x38_),.true)::((.le x38_ (.v 32)),.true)::((.le (.c 0) x38_),.true)::((.le x38_ (.c 1000)),.true)::((.lt x58_ (.c 0)),.false)::f16_) 1 i_ [(.rn (.ap 47 x9_ (.v 1) (.v 31) (.v 32) x19_ (.v 4)) 0 1000)] (shT uPdq_T1 i_)),
  (let i_:In:=⟨⟨[(28,(.ap 53 x37_ (.v 1) (.v 31) x36_ (.v 33) (.v 4))),(33,(.v 33)),(32,(.v 32)),(31,(.op .add x36_ (.c 1)))],[(30,(.le x5_ x41_)),(29,(.ap 44 x9_ (.v 1) (.v 31) (.v 32) x19_ (.v 4)))]⟩,[(0,0)],[],[]⟩;.cut (((.lt x41_ x42_),.true)::f26_) 1 i_ [(.rn (.op .add x36_ (.c 1)) 0 1000)] (shT uPdq_T1 i_)),
  (let i_:In:=⟨⟨[(28,(.ap 53 x37_ (.v 1) (.op .add x36_ (.c 1)) (.v 32) (.v 33) (.v 4))),(33,(.v 33)),(32,(.ap 45 x9_ (.v 1) (.v 31) (.v 32) x19_ (.v 4))),(31,(.v 31))],[(30,(.le x5_ x42_)),(29,(.ap 44 x9_ (.v 1) (.v 31) (.v 32) x19_ (.v 4)))]⟩,[(0,0)],[],[]⟩;.cut (((.lt x41_ x42_),.false)::f26_) 1 i_ [] (shT uPdq_T1 i_)),
  (.fin (((.ap 48 (.v 28) (.v 1) (.v 31) (.v 32) (.v 4) (.c 0)),.true)::f17_) 0 ⟨⟨[],[]⟩,[(0,0)],[],[]⟩ [(.ar [(.nt .i64),(.nt .i64),(.nt .i64),(.nt .i64),(.nt .i64),(.nt .i64)] (.ap 53 (.v 0) (.v 1) (.v 5) (.v 6) (.v 7) (.v 4)) (.ap 48 (.v 28) (.v 1) (.v 31) (.v 32) (.v 4) (.c 0)) (.v 1))] [.none]),
  (let i_:In:=⟨⟨[(28,(.ap 53 x28_ (.v 1) (.v 31) x27_ (.v 33) (.v 4))),(33,(.v 33)),(32,(.v 32)),(31,(.op .add x27_ (.c 1)))],[(30,(.le x11_ x31_)),(29,(.ap 44 x10_ (.v 1) (.v 31) (.v 32) x6_ (.v 4)))]⟩,[(0,0)],[],[]⟩;.cut (((.lt x31_ x32_),.true)::f37_) 1 i_ [(.rn (.op .add x27_ (.c 1)) 0 1000)] (shT uPdq_T1 i_)),
  (let i_:In:=⟨⟨[(28,(.ap 53 x28_ (.v 1) (.op .add x27_ (.c 1)) (.v 32) (.v 33) (.v 4))),(33,(.v 33)),(32,(.ap 45 x10_ (.v 1) (.v 31) (.v 32) x6_ (.v 4))),(31,(.v 31))],[(30,(.le x11_ x32_)),(29,(.ap 44 x10_ (.v 1) (.v 31) (.v 32) x6_ (.v 4)))]⟩,[(0,0)],[],[]⟩;.cut (((.lt x31_ x32_),.false)::f37_) 1 i_ [] (shT uPdq_T1 i_)),
  (let i_:In:=⟨⟨[(28,(.ap 46 x10_ (.v 1) (.v 31) (.v 32) x6_ (.v 4))),(33,(.v 33)),(32,(.v 32)),(31,(.ap 47 x10_ (.v 1) (.v 31) (.v 32) x6_ (.v 4)))],[(30,(.v 30)),(29,(.v 29))]⟩,[(0,0)],[],[]⟩;.cut (((.lt (.v 31) x29_),.true)::((.le x29_ (.v 32)),.true)::((.le (.c 0) x29_),.true)::((.le x29_ (.c 1000)),.true)::((.lt x56_ (.c 0)),.false)::f23_) 1 i_ [(.rn (.ap 47 x10_ (.v 1) (.v 31) (.v 32) x6_ (.v 4)) 0 1000)] (shT uPdq_T1 i_)),
  (let i_:In:=⟨⟨[(28,(.ap 53 x28_ (.v 1) (.v 31) x27_ (.v 33) (.v 4))),(33,(.v 33)),(32,(.v 32)),(31,(.op .add x27_ (.c 1)))],[(30,(.le x5_ x31_)),(29,(.ap 44 x10_ (.v 1) (.v 31) (.v 32) x6_ (.v 4)))]⟩,[(0,0)],[],[]⟩;.cut (((.lt x31_ x32_),.true)::f35_) 1 i_ [(.rn (.op .add x27_ (.c 1)) 0 1000)] (shT uPdq_T1 i_)),
  (let i_:In:=⟨⟨[(28,(.ap 53 x28_ (.v 1) (.op .add x27_ (.c 1)) (.v 32) (.v 33) (.v 4))),(33,(.v 33)),(32,(.ap 45 x10_ (.v 1) (.v 31) (.v 32) x6_ (.v 4))),(31,(.v 31))],[(30,(.le x5_ x32_)),(29,(.ap 44 x10_ (.v 1) (.v 31) (.v 32) x6_ (.v 4)))]⟩,[(0,0)],[],[]⟩;.cut (((.lt x31_ x32_),.false)::f35_) 1 i_ [] (shT uPdq_T1 i_)),
  (let i_:In:=⟨⟨[(28,(.ap 53 x17_ (.v 1) (.v 31) x16_ (.v 33) (.v 4))),(33,(.v 33)),(32,(.v 32)),(31,(.op .add x16_ (.c 1)))],[(30,(.le x11_ x21_)),(29,(.ap 44 (.v 28) (.v 1) (.v 31) (.v 32) x6_ (.v 4)))]⟩,[(0,0)],[],[]⟩;.cut (p46_::f36_) 1 i_ [(.rn (.op .add x16_ (.c 1)) 0 1000)] (shT uPdq_T1 i_)),
  (let i_:In:=⟨⟨[(28,(.ap 53 x17_ (.v 1) x20_ (.v 32) (.v 33) (.v 4))),(33,(.v 33)),(32,(.ap 45 (.v 28) (.v 1) (.v 31) (.v 32) x6_ (.v 4))),(31,(.v 31))],[(30,(.le x11_ x22_)),(29,(.ap 44 (.v 28) (.v 1) (.v 31) (.v 32) x6_ (.v 4)))]⟩,[(0,0)],[],[]⟩;.cut (p47_::f36_) 1 i_ [] (shT uPdq_T1 i_)),
  (let i_:In:=⟨⟨[(28,(.ap 46 (.v 28) (.v 1) (.v 31) (.v 32) x6_ (.v 4))),(33,(.v 33)),(32,(.v 32)),(31,(.ap 47 (.v 28) (.v 1) (.v 31) (.v 32) x6_ (.v 4)))],[(30,(.v 30)),(29,(.v 29))]⟩,[(0,0)],[],[]⟩;.cut (((.lt (.v 31) x18_),.true)::((.le x18_ (.v 32)),.true)::((.le (.c 0) x18_),.true)::((.le x18_ (.c 1000)),.true)::((.lt x55_ (.c 0)),.false)::f22_) 1 i_ [(.rn (.ap 47 (.v 28) (.v 1) (.v 31) (.v 32) x6_ (.v 4)) 0 1000)] (shT uPdq_T1 i_)),
  (let i_:In:=⟨⟨[(28,(.ap 53 x17_ (.v 1) (.v 31) x16_ (.v 33) (.v 4))),(33,(.v 33)),(32,(.v 32)),(31,(.op .add x16_ (.c 1)))],[(30,(.le x5_ x21_)),(29,(.ap 44 (.v 28) (.v 1) (.v 31) (.v 32) x6_ (.v 4)))]⟩,[(0,0)],[],[]⟩;.cut (p46_::f32_) 1 i_ [(.rn (.op .add x16_ (.c 1)) 0 1000)] (shT uPdq_T1 i_)),
  (let i_:In:=⟨⟨[(28,(.ap 53 x17_ (.v 1) x20_ (.v 32) (.v 33) (.v 4))),(33,(.v 33)),(32,(.ap 45 (.v 28) (.v 1) (.v 31) (.v 32) x6_ (.v 4))),(31,(.v 31))],[(30,(.le x5_ x22_)),(29,(.ap 44 (.v 28) (.v 1) (.v 31) (.v 32) x6_ (.v 4)))]⟩,[(0,0)],[],[]⟩;.cut (p47_::f32_) 1 i_ [] (shT uPdq_T1 i_)),
  (let i_:In:=⟨⟨[(28,(.ap 53 x17_ (.v 1) (.v 31) x16_ (.v 33) (.v 4))),(33,(.v 33)),(32,(.v 32)),(31,(.op .add x16_ (.c 1)))],[(30,(.le x11_ x21_)),(29,(.ap 44 (.v 28) (.v 1) (.v 31) (.v 32) x6_ (.v 4)))]⟩,[(0,0)],[],[]⟩;.cut (p46_::f33_) 1 i_ [(.rn (.op .add x16_ (.c 1)) 0 1000)] (shT uPdq_T1 i_)),
  (let i_:In:=⟨⟨[(28,(.ap 53 x17_ (.v 1) x20_ (.v 32) (.v 33) (.v 4))),(33,(.v 33)),(32,(.ap 45 (.v 28) (.v 1) (.v 31) (.v 32) x6_ (.v 4))),(31,(.v 31))],[(30,(.le x11_ x22_)),(29,(.ap 44 (.v 28) (.v 1) (.v 31) (.v 32) x6_ (.v 4)))]⟩,[(0,0)],[],[]⟩;.cut (p47_::f33_) 1 i_ [] (shT uPdq_T1 i_)),
  (let i_:In:=⟨⟨[(28,(.ap 46 (.v 28) (.v 1) (.v 31) (.v 32) x6_ (.v 4))),(33,(.v 33)),(32,(.v 32)),(31,(.ap 47 (.v 28) (.v 1) (.v 31) (.v 32) x6_ (.v 4)))],[(30,(.v 30)),(29,(.v 29))]⟩,[(0,0)],[],[]⟩;.cut (((.lt (.v 31) x18_),.true)::((.le x18_ (.v 32)),.true)::((.le (.c 0) x18_),.true)::((.le x18_ (.c 1000)),.true)::((.lt x55_ (.c 0)),.false)::f19_) 1 i_ [(.rn (.ap 47 (.v 28) (.v 1) (.v 31) (.v 32) x6_ (.v 4)) 0 1000)] (shT uPdq_T1 i_)),
  (let i_:In:=⟨⟨[(28,(.ap 53 x17_ (.v 1) (.v 31) x16_ (.v 33) (.v 4))),(33,(.v 33)),(32,(.v 32)),(31,(.op .add x16_ (.c 1)))],[(30,(.le x5_ x21_)),(29,(.ap 44 (.v 28) (.v 1) (.v 31) (.v 32) x6_ (.v 4)))]⟩,[(0,0)],[],[]⟩;.cut (p46_::f27_) 1 i_ [(.rn (.op .add x16_ (.c 1)) 0 1000)] (shT uPdq_T1 i_)),
  (let i_:In:=⟨⟨[(28,(.ap 53 x17_ (.v 1) x20_ (.v 32) (.v 33) (.v 4))),(33,(.v 33)),(32,(.ap 45 (.v 28) (.v 1) (.v 31) (.v 32) x6_ (.v 4))),(31,(.v 31))],[(30,(.le x5_ x22_)),(29,(.ap 44 (.v 28) (.v 1) (.v 31) (.v 32) x6_ (.v 4)))]⟩,[(0,0)],[],[]⟩;.cut (p47_::f27_) 1 i_ [] (shT uPdq_T1 i_)),
  (let i_:In:=⟨⟨[(28,(.ap 53 x51_ (.v 1) (.v 31) x50_ x2_ (.v 4))),(33,(.op .add (.v 33) (.c (-1)))),(32,(.v 32)),(31,(.op .add x50_ (.c 1)))],[(30,(.le x11_ x53_)),(29,(.ap 44 x14_ (.v 1) (.v 31) (.v 32) x30_ (.v 4)))]⟩,[(0,0)],[],[]⟩;.cut (((.lt x53_ x54_),.true)::f28_) 1 i_ [(.rn (.op .add x50_ (.c 1)) 0 1000)] (shT uPdq_T1 i_)),
  (let i_:In:=⟨⟨[(28,(.ap 53 x51_ (.v 1) (.op .add x50_ (.c 1)) (.v 32) x2_ (.v 4))),(33,(.op .add (.v 33) (.c (-1)))),(32,(.ap 45 x14_ (.v 1) (.v 31) (.v 32) x30_ (.v 4))),(31,(.v 31))],[(30,(.le x11_ x54_)),(29,(.ap 44 x14_ (.v 1) (.v 31) (.v 32) x30_ (.v 4)))]⟩,[(0,0)],[],[]⟩;.cut (((.lt x53_ x54_),.false)::f28_) 1 i_ [] (shT uPdq_T1 i_)),
  (let i_:In:=⟨⟨[(28,(.ap 46 x14_ (.v 1) (.v 31) (.v 32) x30_ (.v 4))),(33,(.op .add (.v 33) (.c (-1)))),(32,(.v 32)),(31,(.ap 47 x14_ (.v 1) (.v 31) (.v 32) x30_ (.v 4)))],[(30,(.v 30)),(29,(.v 29))]⟩,[(0,0)],[],[]⟩;.cut (((.lt (.v 31) x52_),.true)::((.le x52_ (.v 32)),.true)::((.le (.c 0) x52_),.true)::((.le x52_ (.c 1000)),.true)::((.lt x60_ (.c 0)),.false)::f13_) 1 i_ [(.rn (.ap 47 x14_ (.v 1) (.v 31) (.v 32) x30_ (.v 4)) 0 1000)] (shT uPdq_T1 i_)),
  (let i_:In:=⟨⟨[(28,(.ap 53 x51_ (.v 1) (.v 31) x50_ x2_ (.v 4))),(33,(.op .add (.v 33) (.c (-1)))),(32,(.v 32)),(31,(.op .add x50_ (.c 1)))],[(30,(.le x5_ x53_)),(29,(.ap 44 x14_ (.v 1) (.v 31) (.v 32) x30_ (.v 4)))]⟩,[(0,0)],[],[]⟩;.cut (((.lt x53_ x54_),.true)::f24_) 1 i_ [(.rn (.op .add x50_ (.c 1)) 0 1000)] (shT uPdq_T1 i_)),
  (let i_:In:=⟨⟨[(28,(.ap 53 x51_ (.v 1) (.op .add x50_ (.c 1)) (.v 32) x2_ (.v 4))),(33,(.op .add (.v 33) (.c (-1)))),(32,(.ap 45 x14_ (.v 1) (.v 31) (.v 32) x30_ (.v 4))),(31,(.v 31))],[(30,(.le x5_ x54_)),(29,(.ap 44 x14_ (.v 1) (.v 31) (.v 32) x30_ (.v 4)))]⟩,[(0,0)],[],[]⟩;.cut (((.lt x53_ x54_),.false)::f24_) 1 i_ [] (shT uPdq_T1 i_)),
  (let i_:In:=⟨⟨[(28,(.ap 53 x34_ (.v 1) (.v 31) x33_ x2_ (.v 4))),(33,(.op .add (.v 33) (.c (-1)))),(32,(.v 32)),(31,(.op .add x33_ (.c 1)))],[(30,(.le x11_ x39_)),(29,(.ap 44 x7_ (.v 1) (.v 31) (.v 32) x12_ (.v 4)))]⟩,[(0,0)],[],[]⟩;.cut (((.lt x39_ x40_),.true)::f29_) 1 i_ [(.rn (.op .add x33_ (.c 1)) 0 1000)] (shT uPdq_T1 i_)),
  (let i_:In:=⟨⟨[(28,(.ap 53 x34_ (.v 1) (.op .add x33_ (.c 1)) (.v 32) x2_ (.v 4))),(33,(.op .add (.v 33) (.c (-1)))),(32,(.ap 45 x7_ (.v 1) (.v 31) (.v 32) x12_ (.v 4))),(31,(.v 31))],[(30,(.le x11_ x40_)),(29,(.ap 44 x7_ (.v 1) (.v 31) (.v 32) x12_ (.v 4)))]⟩,[(0,0)],[],[]⟩;.cut (((.lt x39_ x40_),.false)::f29_) 1 i_ [] (shT uPdq_T1 i_)),
  (let i_:In:=⟨⟨[(28,(.ap 46 x7_ (.v 1) (.v 31) (.v 32) x12_ (.v 4))),(33,(.op .add (.v 33) (.c (-1)))),(32,(.v 32)),(31,(.ap 47 x7_ (.v 1) (.v 31) (.v 32) x12_ (.v 4)))],[(30,(.v 30)),(29,(.v 29))]⟩,[(0,0)],[],[]⟩;.cut (((.lt (.v 31) x35_),.true)::((.le x35_ (.v 32)),.true)::((.le (.c 0) x35_),.true)::((.le x35_ (.c 1000)),.true)::((.lt x57_ (.c 0)),.false)::f14_) 1 i_ [(.rn (.ap 47 x7_ (.v 1) (.v 31) (.v 32) x12_ (.v 4)) 0 1000)] (shT uPdq_T1 i_)),
  (let i_:In:=⟨⟨[(28,(.ap 53 x34_ (.v 1) (.v 31) x33_ x2_ (.v 4))),(33,(.op .add (.v 33) (.c (-1)))),(32,(.v 32)),(31,(.op .add x33_ (.c 1)))],[(30,(.le x5_ x39_)),(29,(.ap 44 x7_ (.v 1) (.v 31) (.v 32) x12_ (.v 4)))]⟩,[(0,0)],[],[]⟩;.cut (((.lt x39_ x40_),.true)::f25_) 1 i_ [(.rn (.op .add x33_ (.c 1)) 0 1000)] (shT uPdq_T1 i_)),
  (let i_:In:=⟨⟨[(28,(.ap 53 x34_ (.v 1) (.op .add x33_ (.c 1)) (.v 32) x2_ (.v 4))),(33,(.op .add (.v 33) (.c (-1)))),(32,(.ap 45 x7_ (.v 1) (.v 31) (.v 32) x12_ (.v 4))),(31,(.v 31))],[(30,(.le x5_ x40_)),(29,(.ap 44 x7_ (.v 1) (.v 31) (.v 32) x12_ (.v 4)))]⟩,[(0,0)],[],[]⟩;.cut (((.lt x39_ x40_),.false)::f25_) 1 i_ [] (shT uPdq_T1 i_))]
theorem uPdq_h0:(ex (ccM Try.prog BF [58,84]) (uPdq.entR (ccM Try.prog BF [58,84])::(fun cc=>[uCmp.ent cc,uIns.ent cc,uHea.ent cc,uBrk.ent cc,uChs.ent cc,uRev.ent cc,uPin.ent cc,uPeq.ent cc,uPar.ent cc]) (ccM Try.prog BF [58,84])) (dw (ccM Try.prog BF [58,84]) (uPdq.entR (ccM Try.prog BF [58,84])::(fun cc=>[uCmp.ent cc,uIns.ent cc,uHea.ent cc,uBrk.ent cc,uChs.ent cc,uRev.ent cc,uPin.ent cc,uPeq.ent cc,uPar.ent cc]) (ccM Try.prog BF [58,84])) 1000 4) (stopX []) 4000 (tmM uPdq Try.f148 (Try.f148.body.getD .skip)).f (tmM uPdq Try.f148 (Try.f148.body.getD .skip)).fs (tmM uPdq Try.f148 (Try.f148.body.getD .skip)).H).lfsM 1 (ccM Try.prog BF [58,84]) ((tmM uPdq Try.f148 (Try.f148.body.getD .skip))::[uPdq_T1]) uPdq.os=some uPdq_L0:=by kernel_rfl
theorem uPdq_h1:(ex (ccM Try.prog BF [58,84]) (uPdq.entR (ccM Try.prog BF [58,84])::(fun cc=>[uCmp.ent cc,uIns.ent cc,uHea.ent cc,uBrk.ent cc,uChs.ent cc,uRev.ent cc,uPin.ent cc,uPeq.ent cc,uPar.ent cc]) (ccM Try.prog BF [58,84])) (dw (ccM Try.prog BF [58,84]) (uPdq.entR (ccM Try.prog BF [58,84])::(fun cc=>[uCmp.ent cc,uIns.ent cc,uHea.ent cc,uBrk.ent cc,uChs.ent cc,uRev.ent cc,uPin.ent cc,uPeq.ent cc,uPar.ent cc]) (ccM Try.prog BF [58,84])) 1000 4) (stopX []) 4000 uPdq_T1.f uPdq_T1.fs uPdq_T1.H).lfsM 1 (ccM Try.prog BF [58,84]) ((tmM uPdq Try.f148 (Try.f148.body.getD .skip))::[uPdq_T1]) uPdq.os=some uPdq_L1:=by kernel_rfl
def uPdq_inv:(Nat→Int)→(Nat→Bool)→Nat→(Nat→Int)→(Nat→Bool)→Prop:=fun iv0 _ k iv bv=>match k with
 | 0=>True
 | _=>0≤iv 31∧iv 31≤iv 32∧iv 32≤iv0 1∧iv 32≤1000∧0≤iv 33∧iv 33≤1000∧iv 32 - iv 31≤iv0 6 - iv0 5∧pdqS (iv0 4) (iv0 1) (iv 28) (iv 31) (iv 32) (iv 33) (bv 30) (bv 29)=Sort.pdq (ltU (iv0 4)) (arrOf (iv0 0) (iv0 1)) (iv0 5).toNat (iv0 6).toNat (iv0 7).toNat true true
def uPdq_mu:(Nat→Int)→(Nat→Bool)→Nat→(Nat→Int)→(Nat→Bool)→Nat:=fun iv0 _ k iv _=>match k with | 0=>2 ^ 90 | _=>(iv 32 - iv 31).toNat
theorem uPdq_o0 (kv:Kv) (iv0:Nat→Int) (bv0:Nat→Bool) (hin:InB uPdq.B iv0) (hF:FT (sta FI FB kv iv0 bv0) (dlt dyn0) uPdq.F) (iv:Nat→Int) (bv:Nat→Bool) (ha:Agr 8 iv0 bv0 iv bv) (hi:uPdq_inv iv0 bv0 0 iv bv) :
  ∀ lf∈uPdq_L0,LfT (sta FI FB kv) uPdq.os (uPdq_inv iv0 bv0) (uPdq_mu iv0 bv0) 0 iv bv lf:=by
 unfold uPdq_L0
 refine List.forall_mem_cons.2 ⟨?_,List.forall_mem_nil _⟩
 all_goals
  intro δ hf
 all_goals
  simp only [FT,TP,SB.tp,SI.tv,sta,IB.eval,and_true,true_and,ObsT,Ob.Tv,rowT,kix,In.tiv,↓tbvT,In.tbv,get_cons,get_nil,reduceIte,Nat.reduceEqDiff,Int.reduceToNat,Int.reduceAdd,Int.reduceSub,Int.reduceLE,Int.reduceLT,Int.reduceEq,ne_eq,Bool.false_eq_true,not_true_eq_false,not_false_eq_true,true_iff,false_iff,iff_true,iff_false,false_implies,implies_true,decT,decide_true,decide_false,Bool.decide_eq_true,ap2,pb2,FI_3,FI_8,FI_9,FI_3g,FI_8m,Int.toNat_natCast,Int.toNat_zero,FI_40,FI_41,FI_43,FI_44,FI_45,FI_46,FI_47,FI_48,FI_49,FI_50,FI_51,FI_52,FI_53,FB_44,FB_48] at hf
 all_goals
  have a0:=ha.1 0 (by omega)
  have a1:=ha.1 1 (by omega)
  have a2:=ha.1 2 (by omega)
  have a3:=ha.1 3 (by omega)
  have a4:=ha.1 4 (by omega)
  have a5:=ha.1 5 (by omega)
  have a6:=ha.1 6 (by omega)
  have a7:=ha.1 7 (by omega)
 all_goals
  have b1:=hin 1 0 1000 (by simp [uPdq,kU,ints,i64s,lmap,i64b,dU,cmpV,mU,bU,fU,leF,ltF,tU,nu,mS,ltAt,mS',tM,tC,tP,pP,pC])
  simp only [Int.reduceLE,reduceIte,Int.reduceNeg] at b1
 all_goals
  have b4:=hin 4 (-9223372036854775808) 9223372036854775807 (by simp [uPdq,kU,ints,i64s,lmap,i64b,dU,cmpV,mU,bU,fU,leF,ltF,tU,nu,mS,ltAt,mS',tM,tC,tP,pP,pC])
  simp only [Int.reduceLE,reduceIte,Int.reduceNeg] at b4
 all_goals
  simp only [FT,TP,SB.tp,SI.tv,sta,IB.eval,and_true,true_and,ObsT,Ob.Tv,rowT,kix,In.tiv,↓tbvT,In.tbv,get_cons,get_nil,reduceIte,Nat.reduceEqDiff,Int.reduceToNat,Int.reduceAdd,Int.reduceSub,Int.reduceLE,Int.reduceLT,Int.reduceEq,ne_eq,Bool.false_eq_true,not_true_eq_false,not_false_eq_true,true_iff,false_iff,iff_true,iff_false,false_implies,implies_true,decT,decide_true,decide_false,Bool.decide_eq_true,ap2,pb2,FI_3,FI_8,FI_9,FI_3g,FI_8m,Int.toNat_natCast,Int.toNat_zero,FI_40,FI_41,FI_43,FI_44,FI_45,FI_46,FI_47,FI_48,FI_49,FI_50,FI_51,FI_52,FI_53,FB_44,FB_48,uPdq_inv,uPdq_mu,uPdq,o1,othT,kU,ints,i64s,lmap,i64b,dU,cmpV,mU,bU,fU,leF,ltF,tU,nu,mS,ltAt,mS',tM,tC,tP,pP,pC,a0,a1,a2,a3,a4,a5,a6,a7] at hf hi ⊢
 all_goals
  (repeat' (with_reducible apply And.intro))<;>first
  | omega
  | assumption
  | (unfold inM;omega)
  | (rfl)
theorem uPdq_o1 (kv:Kv) (iv0:Nat→Int) (bv0:Nat→Bool) (hin:InB uPdq.B iv0) (hF:FT (sta FI FB kv iv0 bv0) (dlt dyn0) uPdq.F) (iv:Nat→Int) (bv:Nat→Bool) (ha:Agr 8 iv0 bv0 iv bv) (hi:uPdq_inv iv0 bv0 1 iv bv) :
  ∀ lf∈uPdq_L1,LfT (sta FI FB kv) uPdq.os (uPdq_inv iv0 bv0) (uPdq_mu iv0 bv0) 1 iv bv lf:=by
 unfold uPdq_L1
 refine List.forall_mem_cons.2 ⟨?_,List.forall_mem_cons.2 ⟨?_,List.forall_mem_cons.2 ⟨?_,List.forall_mem_cons.2 ⟨?_,List.forall_mem_cons.2 ⟨?_,List.forall_mem_cons.2 ⟨?_,List.forall_mem_cons.2 ⟨?_,List.forall_mem_cons.2 ⟨?_,List.forall_mem_cons.2 ⟨?_,List.forall_mem_cons.2 ⟨?_,List.forall_mem_cons.2 ⟨?_,List.forall_mem_cons.2 ⟨?_,List.forall_mem_cons.2 ⟨?_,List.forall_mem_cons.2 ⟨?_,List.forall_mem_cons.2 ⟨?_,List.forall_mem_cons.2 ⟨?_,List.forall_mem_cons.2 ⟨?_,List.forall_mem_cons.2 ⟨?_,List.forall_mem_cons.2 ⟨?_,List.forall_mem_cons.2 ⟨?_,List.forall_mem_cons.2 ⟨?_,List.forall_mem_cons.2 ⟨?_,List.forall_mem_cons.2 ⟨?_,List.forall_mem_cons.2 ⟨?_,List.forall_mem_cons.2 ⟨?_,List.forall_mem_cons.2 ⟨?_,List.forall_mem_cons.2 ⟨?_,List.forall_mem_cons.2 ⟨?_,List.forall_mem_cons.2 ⟨?_,List.forall_mem_cons.2 ⟨?_,List.forall_mem_cons.2 ⟨?_,List.forall_mem_cons.2 ⟨?_,List.forall_mem_cons.2 ⟨?_,List.forall_mem_cons.2 ⟨?_,List.forall_mem_cons.2 ⟨?_,List.forall_mem_cons.2 ⟨?_,List.forall_mem_cons.2 ⟨?_,List.forall_mem_cons.2 ⟨?_,List.forall_mem_cons.2 ⟨?_,List.forall_mem_nil _⟩⟩⟩⟩⟩⟩⟩⟩⟩⟩⟩⟩⟩⟩⟩⟩⟩⟩⟩⟩⟩⟩⟩⟩⟩⟩⟩⟩⟩⟩⟩⟩⟩⟩⟩⟩⟩⟩⟩
 all_goals
  intro δ hf
 all_goals
  simp only [FT,TP,SB.tp,SI.tv,sta,IB.eval,and_true,true_and,ObsT,Ob.Tv,rowT,kix,In.tiv,↓tbvT,In.tbv,get_cons,get_nil,reduceIte,Nat.reduceEqDiff,Int.reduceToNat,Int.reduceAdd,Int.reduceSub,Int.reduceLE,Int.reduceLT,Int.reduceEq,ne_eq,Bool.false_eq_true,not_true_eq_false,not_false_eq_true,true_iff,false_iff,iff_true,iff_false,false_implies,implies_true,decT,decide_true,decide_false,Bool.decide_eq_true,ap2,pb2,FI_3,FI_8,FI_9,FI_3g,FI_8m,Int.toNat_natCast,Int.toNat_zero,FI_40,FI_41,FI_43,FI_44,FI_45,FI_46,FI_47,FI_48,FI_49,FI_50,FI_51,FI_52,FI_53,FB_44,FB_48] at hf
 all_goals
  have a0:=ha.1 0 (by omega)
  have a1:=ha.1 1 (by omega)
  have a2:=ha.1 2 (by omega)
  have a3:=ha.1 3 (by omega)
  have a4:=ha.1 4 (by omega)
  have a5:=ha.1 5 (by omega)
  have a6:=ha.1 6 (by omega)
  have a7:=ha.1 7 (by omega)
 all_goals
  have b1:=hin 1 0 1000 (by simp [uPdq,kU,ints,i64s,lmap,i64b,dU,cmpV,mU,bU,fU,leF,ltF,tU,nu,mS,ltAt,mS',tM,tC,tP,pP,pC])
  simp only [Int.reduceLE,reduceIte,Int.reduceNeg] at b1
 all_goals
  have b4:=hin 4 (-9223372036854775808) 9223372036854775807 (by simp [uPdq,kU,ints,i64s,lmap,i64b,dU,cmpV,mU,bU,fU,leF,ltF,tU,nu,mS,ltAt,mS',tM,tC,tP,pP,pC])
  simp only [Int.reduceLE,reduceIte,Int.reduceNeg] at b4
 all_goals
  simp only [FT,TP,SB.tp,SI.tv,sta,IB.eval,and_true,true_and,ObsT,Ob.Tv,rowT,kix,In.tiv,↓tbvT,In.tbv,get_cons,get_nil,reduceIte,Nat.reduceEqDiff,Int.reduceToNat,Int.reduceAdd,Int.reduceSub,Int.reduceLE,Int.reduceLT,Int.reduceEq,ne_eq,Bool.false_eq_true,not_true_eq_false,not_false_eq_true,true_iff,false_iff,iff_true,iff_false,false_implies,implies_true,decT,decide_true,decide_false,Bool.decide_eq_true,ap2,pb2,FI_3,FI_8,FI_9,FI_3g,FI_8m,Int.toNat_natCast,Int.toNat_zero,FI_40,FI_41,FI_43,FI_44,FI_45,FI_46,FI_47,FI_48,FI_49,FI_50,FI_51,FI_52,FI_53,FB_44,FB_48,uPdq_inv,uPdq_mu,uPdq,o1,othT,kU,ints,i64s,lmap,i64b,dU,cmpV,mU,bU,fU,leF,ltF,tU,nu,mS,ltAt,mS',tM,tC,tP,pP,pC,a0,a1,a2,a3,a4,a5,a6,a7] at hf hi ⊢
 all_goals
  obtain ⟨g0,g1,g2,g3,g4,g5,g6,g7⟩:=hi
 all_goals
  have hq:(iv 32 - iv 31).tdiv 8=(iv 32 - iv 31) / 8:=Int.tdiv_eq_ediv_of_nonneg (by omega)
 all_goals
  try simp only [hq] at hf ⊢
 all_goals
  try (simp (disch:=omega) only [i64_in] at hf ⊢)
 all_goals
  revert hf
  simp only [and_imp]
  intros
 all_goals
  first
  | (rw [S0_ins (by omega)] at g7;unfold pdqU;exact rows6 g7 _ (by assumption))
  | (rw [S0_hea (by omega) (by omega) (by omega)] at g7;unfold pdqU;exact rows6 g7 _ (by assumption))
  | (rw [S0_bal (by omega) (by omega) (by omega) (by assumption)] at g7)
  | (rw [S0_brk (by omega) (by omega) (by omega) (by assumption)] at g7)
 all_goals
  first
  | (rw [P2_dec (by omega) (by omega) (by omega) (by omega) (by assumption)] at g7)
  | (rw [P2_no (by omega) (by omega) (by assumption)] at g7)
 all_goals
  first
  | (rw [P3_wb (by assumption)] at g7)
  | (rw [P3_wp (by assumption)] at g7)
  | (rw [P3_unk (by assumption)] at g7)
  | (rw [P3_done (by first | assumption | rfl) (by assumption) (by assumption) (by assumption)] at g7;unfold pdqU;exact rows6 g7 _ (by assumption))
  | (rw [P3_go (by first | assumption | rfl) (by assumption) (by assumption) (by assumption)] at g7)
 all_goals
  first
  | (rw [P4_eq (by omega) (by omega) (by omega) (by omega) (by omega) (by omega) (by omega) (by assumption) (by omega) (by omega)] at g7)
  | (rw [P4_no (by omega) (by omega) (by omega) (by omega) (by omega) (by omega) (by first | (left;omega) | (right;assumption)) (by omega) (by omega) rfl,if_pos (by omega)] at g7)
  | (rw [P4_no (by omega) (by omega) (by omega) (by omega) (by omega) (by omega) (by first | (left;omega) | (right;assumption)) (by omega) (by omega) rfl,if_neg (by omega)] at g7)
 all_goals
  (repeat' (with_reducible apply And.intro))<;>first
  | omega
  | assumption
  | (unfold inM;omega)
  | (refine Eq.trans ?_ g7;congr 1<;>exact dec_eq _ _)
theorem uPdq_c:LsCM 1 ((tmM uPdq Try.f148 (Try.f148.body.getD .skip))::[uPdq_T1]) uPdq.os [uPdq_L0,uPdq_L1]:=by
 unfold uPdq_L0 uPdq_L1
 exact ⟨List.forall_mem_cons.2 ⟨⟨⟨⟨_,rfl,rfl⟩,by kernel_rfl⟩,by kernel_rfl⟩,List.forall_mem_nil _⟩,List.forall_mem_cons.2 ⟨⟨⟨⟨_,rfl,rfl⟩,by kernel_rfl⟩,by kernel_rfl⟩,List.forall_mem_cons.2 ⟨⟨⟨⟨_,rfl,rfl⟩,by kernel_rfl⟩,by kernel_rfl⟩,List.forall_mem_cons.2 ⟨⟨⟨⟨_,rfl,rfl⟩,by kernel_rfl⟩,by kernel_rfl⟩,List.forall_mem_cons.2 ⟨⟨⟨⟨_,rfl,rfl⟩,by kernel_rfl⟩,by kernel_rfl⟩,List.forall_mem_cons.2 ⟨⟨⟨⟨_,rfl,rfl⟩,by kernel_rfl⟩,by kernel_rfl⟩,List.forall_mem_cons.2 ⟨⟨⟨⟨_,rfl,rfl⟩,by kernel_rfl⟩,by kernel_rfl⟩,List.forall_mem_cons.2 ⟨⟨⟨⟨_,rfl,rfl⟩,by kernel_rfl⟩,by kernel_rfl⟩,List.forall_mem_cons.2 ⟨⟨⟨⟨_,rfl,rfl⟩,by kernel_rfl⟩,by kernel_rfl⟩,List.forall_mem_cons.2 ⟨⟨⟨⟨_,rfl,rfl⟩,by kernel_rfl⟩,by kernel_rfl⟩,List.forall_mem_cons.2 ⟨⟨⟨⟨_,rfl,rfl⟩,by kernel_rfl⟩,by kernel_rfl⟩,List.forall_mem_cons.2 ⟨⟨⟨⟨_,rfl,rfl⟩,by kernel_rfl⟩,by kernel_rfl⟩,List.forall_mem_cons.2 ⟨⟨⟨⟨_,rfl,rfl⟩,by kernel_rfl⟩,by kernel_rfl⟩,List.forall_mem_cons.2 ⟨⟨⟨⟨_,rfl,rfl⟩,by kernel_rfl⟩,by kernel_rfl⟩,List.forall_mem_cons.2 ⟨⟨⟨⟨_,rfl,rfl⟩,by kernel_rfl⟩,by kernel_rfl⟩,List.forall_mem_cons.2 ⟨⟨⟨⟨_,rfl,rfl⟩,by kernel_rfl⟩,by kernel_rfl⟩,List.forall_mem_cons.2 ⟨⟨⟨⟨_,rfl,rfl⟩,by kernel_rfl⟩,by kernel_rfl⟩,List.forall_mem_cons.2 ⟨⟨⟨⟨_,rfl,rfl⟩,by kernel_rfl⟩,by kernel_rfl⟩,List.forall_mem_cons.2 ⟨⟨⟨⟨_,rfl,rfl⟩,by kernel_rfl⟩,by kernel_rfl⟩,List.forall_mem_cons.2 ⟨⟨⟨⟨_,rfl,rfl⟩,by kernel_rfl⟩,by kernel_rfl⟩,List.forall_mem_cons.2 ⟨⟨⟨⟨_,rfl,rfl⟩,by kernel_rfl⟩,by kernel_rfl⟩,List.forall_mem_cons.2 ⟨⟨⟨⟨_,rfl,rfl⟩,by kernel_rfl⟩,by kernel_rfl⟩,List.forall_mem_cons.2 ⟨⟨⟨⟨_,rfl,rfl⟩,by kernel_rfl⟩,by kernel_rfl⟩,List.forall_mem_cons.2 ⟨⟨⟨⟨_,rfl,rfl⟩,by kernel_rfl⟩,by kernel_rfl⟩,List.forall_mem_cons.2 ⟨⟨⟨⟨_,rfl,rfl⟩,by kernel_rfl⟩,by kernel_rfl⟩,List.forall_mem_cons.2 ⟨⟨⟨⟨_,rfl,rfl⟩,by kernel_rfl⟩,by kernel_rfl⟩,List.forall_mem_cons.2 ⟨⟨⟨⟨_,rfl,rfl⟩,by kernel_rfl⟩,by kernel_rfl⟩,List.forall_mem_cons.2 ⟨⟨⟨⟨_,rfl,rfl⟩,by kernel_rfl⟩,by kernel_rfl⟩,List.forall_mem_cons.2 ⟨⟨⟨⟨_,rfl,rfl⟩,by kernel_rfl⟩,by kernel_rfl⟩,List.forall_mem_cons.2 ⟨⟨⟨⟨_,rfl,rfl⟩,by kernel_rfl⟩,by kernel_rfl⟩,List.forall_mem_cons.2 ⟨⟨⟨⟨_,rfl,rfl⟩,by kernel_rfl⟩,by kernel_rfl⟩,List.forall_mem_cons.2 ⟨⟨⟨⟨_,rfl,rfl⟩,by kernel_rfl⟩,by kernel_rfl⟩,List.forall_mem_cons.2 ⟨⟨⟨⟨_,rfl,rfl⟩,by kernel_rfl⟩,by kernel_rfl⟩,List.forall_mem_cons.2 ⟨⟨⟨⟨_,rfl,rfl⟩,by kernel_rfl⟩,by kernel_rfl⟩,List.forall_mem_cons.2 ⟨⟨⟨⟨_,rfl,rfl⟩,by kernel_rfl⟩,by kernel_rfl⟩,List.forall_mem_cons.2 ⟨⟨⟨⟨_,rfl,rfl⟩,by kernel_rfl⟩,by kernel_rfl⟩,List.forall_mem_cons.2 ⟨⟨⟨⟨_,rfl,rfl⟩,by kernel_rfl⟩,by kernel_rfl⟩,List.forall_mem_cons.2 ⟨⟨⟨⟨_,rfl,rfl⟩,by kernel_rfl⟩,by kernel_rfl⟩,List.forall_mem_cons.2 ⟨⟨⟨⟨_,rfl,rfl⟩,by kernel_rfl⟩,by kernel_rfl⟩,List.forall_mem_cons.2 ⟨⟨⟨⟨_,rfl,rfl⟩,by kernel_rfl⟩,by kernel_rfl⟩,List.forall_mem_nil _⟩⟩⟩⟩⟩⟩⟩⟩⟩⟩⟩⟩⟩⟩⟩⟩⟩⟩⟩⟩⟩⟩⟩⟩⟩⟩⟩⟩⟩⟩⟩⟩⟩⟩⟩⟩⟩⟩⟩,trivial⟩
theorem uPdq_ok:uPdq.Ok Try.prog FI FB:=
 Com.of_rec (body:=Try.f148.body.getD .skip) pok fiok (EntsFor.cons uCmp_ok (EntsFor.consM uIns_ok (EntsFor.consM uHea_ok (EntsFor.consM uBrk_ok (EntsFor.consM uChs_ok (EntsFor.consM uRev_ok (EntsFor.consM uPin_ok (EntsFor.consM uPeq_ok (EntsFor.consM uPar_ok EntsFor.nil))))))))) uPdq Try.func148 (by kernel_rfl) 8 [uPdq_T1] (by kernel_rfl) [uPdq_L0,uPdq_L1] ⟨uPdq_h0,uPdq_h1,trivial⟩ uPdq_c
  uPdq_inv uPdq_mu (fun _ _ _=>trivial) fun kv iv0 bv0 hin hF k l iv bv hk ha hi=>match k,hk,hi with
  | 0,hk,hi=>by
    cases hk
    exact uPdq_o0 kv iv0 bv0 hin hF iv bv ha hi
  | 1,hk,hi=>by
    cases hk
    exact uPdq_o1 kv iv0 bv0 hin hF iv bv ha hi
  | k+2,hk,_=>by simp at hk
end Go.Sx.Mhw
