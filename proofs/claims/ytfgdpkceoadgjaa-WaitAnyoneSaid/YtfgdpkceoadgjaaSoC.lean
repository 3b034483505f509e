/- Sorting: the pivot. -/
import Derived.Test.YtfgdpkceoadgjaaSoB
import Derived.Shelf.SlSortCmp.Xorshift
namespace Go.Sx.Mhw
set_option linter.unusedVariables false
set_option linter.unusedSimpArgs false
set_option linter.unusedSectionVars false
set_option maxRecDepth 100000
set_option maxHeartbeats 0
noncomputable section
open Go Go.Sx Go.Proofs
def nxU (x:SI):SI:=x
def uBrk:Com:=⟨159,[0,1,2,3,4,5,6],[dU,.it .i64 (.v 5),.it .i64 (.v 6),cmpV],mU (.v 0),1,bU,(.le (.c 0) (.v 5),true)::(.le (.v 5) (.c 1000),true)::(.le (.c 0) (.v 6),true)::(.le (.v 6) (.c 1000),true)::leF 5 6::leF 6 1::fU,[⟨[],.tp [],mU (tU 49 (.v 5) (.v 6) (.c 0) (.c 0)),1,0,[]⟩],.c 0⟩
def x58:SI:=.ap 58 (.v 0) (.c 0) (.c 0) (.c 0) (.c 0) (.c 0)
def x56:SI:=.ap 56 (.v 0) (.c 0) (.c 0) (.c 0) (.c 0) (.c 0)
def x57:SI:=.ap 57 (.v 0) (.c 0) (.c 0) (.c 0) (.c 0) (.c 0)
def uXor:Com:=⟨170,[0],[.pt (.n 0) (.c 0)],[(0,.cells [.it .u64 (.v 0)] 200)],1,[(0,0,18446744073709551615)],[],[⟨[],.it .u64 x58,[(0,.cells [.it .u64 x58] 200)],1,0,[]⟩],.c 0⟩
def uNxt:Con:=⟨169,[0],[.it .i64 (.v 0)],[],[i64b 0],(.le (.c 0) (.v 0),true)::(.le (.v 0) (.c 1000),true)::[],[⟨[],.it .u64 x56,[],0,0,[(.le (.c 1) x56,true),(.le x56 (.c 1024),true)]⟩]⟩
def uLen:Con:=⟨149,[0],[.it .u64 (.v 0)],[],[(0,0,1000)],[],[⟨[],.it .i64 x57,[],0,0,[(.le (.c 0) x57,true),(.le x57 (.c 10),true)]⟩]⟩
def ren47:Go.Shelf.Ren:=⟨fun n=>match n with | 15=>149 | 28=>165 | 29=>166 | 47=>169 | n=>n,fun n=>match n with | 39=>118 | 53=>196 | 55=>198 | n=>n,fun n=>n⟩
theorem lays47:SlLaysF0.n47 Try.prog ren47 where
 mixed:=by kernel_rfl
 f15:=by kernel_rfl
 f28:=by kernel_rfl
 f29:=by kernel_rfl
 f47:=by kernel_rfl
 t3:=by kernel_rfl
 a3:=fun w=>by kernel_rfl
 z3:=fun w=>by kernel_rfl
 v3:=fun w=>by kernel_rfl
 t4:=by kernel_rfl
 a4:=fun w=>by kernel_rfl
 z4:=fun w=>by kernel_rfl
 v4:=fun w=>by kernel_rfl
 t5:=by kernel_rfl
 a5:=fun w=>by kernel_rfl
 z5:=fun w=>by kernel_rfl
 v5:=fun w=>by kernel_rfl
 t9:=by kernel_rfl
 a9:=fun w=>by kernel_rfl
 z9:=fun w=>by kernel_rfl
 v9:=fun w=>by kernel_rfl
 t39:=by kernel_rfl
 a39:=fun w=>by kernel_rfl
 z39:=fun w=>by kernel_rfl
 v39:=fun w=>by kernel_rfl
 t53:=by kernel_rfl
 a53:=fun w=>by kernel_rfl
 z53:=fun w=>by kernel_rfl
 v53:=fun w=>by kernel_rfl
 t55:=by kernel_rfl
 a55:=fun w=>by kernel_rfl
 z55:=fun w=>by kernel_rfl
 v55:=fun w=>by kernel_rfl
theorem bx_xor (a b:Nat) (ha:a < 18446744073709551616) (hb:b < 18446744073709551616):IntKind.u64.wrap (BitVec.ofInt IntKind.u64.bits (a:Int) ^^^ BitVec.ofInt IntKind.u64.bits (b:Int)).toNat=((a ^^^ b:Nat):Int):=bits_xor_u64_nat a b ha hb
theorem bx_and (a b:Nat) (ha:a < 18446744073709551616) (hb:b < 18446744073709551616):IntKind.u64.wrap (BitVec.ofInt IntKind.u64.bits (a:Int) &&& BitVec.ofInt IntKind.u64.bits (b:Int)).toNat=((a &&& b:Nat):Int):=bits_and_u64_nat a b ha hb
theorem xorN_eq (x:Int) (h0:0≤x) (h1:x≤18446744073709551615) (f:Int→Int→Int) (hf:∀ a b,f a b=IntKind.u64.wrap (BitVec.ofInt IntKind.u64.bits a ^^^ BitVec.ofInt IntKind.u64.bits b).toNat) :
  (((Sort.xorNext (UInt64.ofNat x.toNat)).toNat:Nat):Int)=f (f (f x (IntKind.u64.wrap (x * 2 ^ min 13 IntKind.u64.bits))) ((f x (IntKind.u64.wrap (x * 2 ^ min 13 IntKind.u64.bits))).fdiv (2 ^ min 7 IntKind.u64.bits))) (IntKind.u64.wrap (f (f x (IntKind.u64.wrap (x * 2 ^ min 13 IntKind.u64.bits))) ((f x (IntKind.u64.wrap (x * 2 ^ min 13 IntKind.u64.bits))).fdiv (2 ^ min 7 IntKind.u64.bits)) * 2 ^ min 17 IntKind.u64.bits)):=by
 obtain ⟨X,rfl⟩:∃ X:Nat,x=X:=⟨x.toNat,by omega⟩
 have hn:∀ a b:Nat,a < 18446744073709551616→b < 18446744073709551616→f a b=((a ^^^ b:Nat):Int):=fun a b ha hb=>by rw [hf];exact bx_xor a b ha hb
 obtain ⟨A,hA⟩:∃ A:Nat,A=X ^^^ (X * 8192 % 18446744073709551616):=⟨_,rfl⟩
 obtain ⟨B,hB⟩:∃ B:Nat,B=A ^^^ (A / 128):=⟨_,rfl⟩
 obtain ⟨C,hC⟩:∃ C:Nat,C=B ^^^ (B * 131072 % 18446744073709551616):=⟨_,rfl⟩
 have lA:A < 18446744073709551616:=by rw [hA];exact Nat.xor_lt_two_pow (n:=64) (by omega) (by omega)
 have lB:B < 18446744073709551616:=by rw [hB];exact Nat.xor_lt_two_pow (n:=64) (by omega) (by omega)
 have k13:(2:Int) ^ min 13 IntKind.u64.bits=8192:=by decide
 have k7:(2:Int) ^ min 7 IntKind.u64.bits=128:=by decide
 have k17:(2:Int) ^ min 17 IntKind.u64.bits=131072:=by decide
 rw [k13,k7,k17]
 have e1:f (X:Int) (IntKind.u64.wrap ((X:Int) * 8192))=(A:Int):=by
  rw [IntKind.wrap_u64,show ((X:Int) * 8192 % 18446744073709551616)=((X * 8192 % 18446744073709551616:Nat):Int) by omega,hn _ _ (by omega) (by omega),hA]
 have e2:f (A:Int) ((A:Int).fdiv 128)=(B:Int):=by
  rw [show ((A:Int).fdiv 128)=((A / 128:Nat):Int) by rw [Int.fdiv_eq_ediv_of_nonneg _ (by omega)];omega,hn _ _ lA (by omega),hB]
 have e3:f (B:Int) (IntKind.u64.wrap ((B:Int) * 131072))=(C:Int):=by
  rw [IntKind.wrap_u64,show ((B:Int) * 131072 % 18446744073709551616)=((B * 131072 % 18446744073709551616:Nat):Int) by omega,hn _ _ lB (by omega),hC]
 rw [e1,e2,e3,Sort.xorNext_toNat,show (UInt64.ofNat ((X:Int)).toNat).toNat=X by simp;omega]
 unfold Sort.xorNextN
 simp only []
 rw [← hA,← hB,← hC]
theorem bitsLen_in {n:Int} (h:0≤n) (h2:n≤1000):(0≤((Sort.bitsLen n.toNat:Nat):Int)∧((Sort.bitsLen n.toNat:Nat):Int)≤10)∧1≤((1 <<< Sort.bitsLen n.toNat:Nat):Int)∧((1 <<< Sort.bitsLen n.toNat:Nat):Int)≤1024:=by
 have h3:=(Sort.bitsLen_le_iff n.toNat 10).2 (by omega)
 have h4:2 ^ Sort.bitsLen n.toNat≤2 ^ 10:=Nat.pow_le_pow_right (by omega) h3
 have h5:0 < 2 ^ Sort.bitsLen n.toNat:=Nat.two_pow_pos _
 rw [Nat.shiftLeft_eq]
 omega
theorem uNxt_ok:uNxt.Ok Try.prog FI FB:=by
 intro kv iv bv hin hF w hG us hus
 have b0:0≤iv 0∧iv 0≤1000:=by simpa [uNxt,SB.den,SI.den,sta] using hF
 simp only [uNxt,SV.isL_cons,SV.isL_nil] at hus
 obtain ⟨u,r,rfl,hu,rfl⟩:=hus
 have e:u=.int .i64 (iv 0):=by simpa [SV.Is,SI.den,sta,eq_comm] using hu
 subst e
 have hc:=AnyF.nextPowerOfTwo lays47 (iv 0).toNat (by omega) w
 rw [show (((iv 0).toNat:Nat):Int)=iv 0 by omega] at hc
 have b5:=(bitsLen_in b0.1 b0.2).2
 refine Calls.mono hc ?_
 rintro e w' ⟨rfl,rfl⟩
 refine ⟨_,rfl,RowKit.Below.refl _ _,?_⟩
 intro o ho hcs
 simp only [uNxt,List.mem_singleton] at ho
 subst ho
 refine ⟨dyn0,?_,?_,?_,?_,?_,?_,fun _=>rfl,?_⟩
 ·have b6:1≤1 <<< Sort.bitsLen (iv 0).toNat∧1 <<< Sort.bitsLen (iv 0).toNat≤1024:=by omega
  simp only [List.mem_cons,List.not_mem_nil,or_false,forall_eq_or_imp,forall_eq,SB.den,SI.den,sta,x56,FI_56,Option.bind_some,Option.some.injEq,decide_eq_true_eq]
  exact b5
 ·simp
 ·simp
 ·intro i b h;cases h
 ·intro i b h;cases h
 ·intro i h;exact absurd h (Nat.not_lt_zero _)
 ·simp [SV.Is,SI.den,sta,x56,FI_56]
theorem uLen_ok:uLen.Ok Try.prog FI FB:=by
 intro kv iv bv hin hF w hG us hus
 have b0:=hin 0 0 1000 (by simp [uLen])
 simp only [Int.reduceLE,reduceIte] at b0
 simp only [uLen,SV.isL_cons,SV.isL_nil] at hus
 obtain ⟨u,r,rfl,hu,rfl⟩:=hus
 have e:u=.int .u64 (iv 0):=by simpa [SV.Is,SI.den,sta,eq_comm] using hu
 subst e
 have hc:=Any.bits_Len (SlLaysF0.n15.bits (P:=Try.prog) (ρ:=ren47) { lays47 with }) (iv 0) w (by omega) (by omega)
 rw [bitLen_eq _ (by omega)] at hc
 have b5:=(bitsLen_in b0.1 b0.2).1
 refine Calls.mono hc ?_
 rintro e w' ⟨rfl,rfl⟩
 refine ⟨_,rfl,RowKit.Below.refl _ _,?_⟩
 intro o ho hcs
 simp only [uLen,List.mem_singleton] at ho
 subst ho
 refine ⟨dyn0,?_,?_,?_,?_,?_,?_,fun _=>rfl,?_⟩
 ·simp only [List.mem_cons,List.not_mem_nil,or_false,forall_eq_or_imp,forall_eq,SB.den,SI.den,sta,x57,FI_57,Option.bind_some,Option.some.injEq,decide_eq_true_eq]
  exact b5
 ·simp
 ·simp
 ·intro i b h;cases h
 ·intro i b h;cases h
 ·intro i h;exact absurd h (Nat.not_lt_zero _)
 ·simp [SV.Is,SI.den,sta,x57,FI_57]
def bpR (a L M:Nat):Nat→Nat→UInt64×Array Rw→Array Rw
 | 0,_,st=>st.2
 | k+1,idx,st=>bpR a L M k (idx+1) (Sort.breakStep a L M st idx)
theorem pow_bitsLen {n:Nat} (h:0 < n):1 <<< Sort.bitsLen n≤2 * n:=by
 rw [Nat.shiftLeft_eq,Sort.bitsLen,if_neg (by omega),Nat.pow_succ]
 have:=Nat.log2_self_le (n:=n) (by omega)
 omega
theorem u64_in (x:Int) (h:0≤x∧x≤18446744073709551615):IntKind.u64.wrap x=x:=wrap_in .u64 x h.1 h.2
theorem bp_go {a L M k idx:Nat} {r R:UInt64} {d:Array Rw} {o i2:Nat} (hR:R=Sort.xorNext r) (ho:o=R.toNat &&& (M - 1)) (h2:i2=a+(if o ≥ L then o - L else o)):bpR a L M (k+1) idx (r,d)=bpR a L M k (idx+1) (R,Sort.swp d idx i2):=by
 subst hR;subst ho;subst h2;rfl
theorem bp_0 {a b:Int} {d:Array Rw} (h0:0≤a) (h:8≤b - a):bpR a.toNat (b - a).toNat (1 <<< Sort.bitsLen (b - a).toNat) 3 (a+(b - a) / 4 * 2 - 1).toNat (UInt64.ofNat (b - a).toNat,d)=Sort.breakPatterns d a.toNat b.toNat:=by
 have e:b.toNat - a.toNat=(b - a).toNat:=by omega
 unfold Sort.breakPatterns
 simp only [e]
 rw [if_pos (by omega),show (a+(b - a) / 4 * 2 - 1).toNat=a.toNat+(b - a).toNat / 4 * 2 - 1 by omega]
 rfl
theorem bp_no {a b:Int} {d:Array Rw} (h0:0≤a) (h:¬ 8≤b - a):d=Sort.breakPatterns d a.toNat b.toNat:=by
 unfold Sort.breakPatterns
 simp only
 rw [if_neg (by omega)]
theorem median_s (lt:Rw→Rw→Bool) (d:Array Rw) (a b c s:Nat):Sort.median lt d a b c s=((Sort.median lt d a b c 0).1,(Sort.median lt d a b c 0).2+s):=by
 simp only [Sort.median,Sort.order2]
 repeat' split
 all_goals simp_all
 all_goals omega
def hintS (s:Nat):Sort.Hint:=if s=0 then .increasing else if s=12 then .decreasing else .unknown
theorem hintS_0 {s:Nat} (h:(s:Int)=0):hintN (hintS s)=1:=by
 have:s=0:=by omega
 subst this;rfl
theorem hintS_12 {s:Nat} (h:(s:Int)=12):hintN (hintS s)=2:=by
 have:s=12:=by omega
 subst this;rfl
theorem hintS_no {s:Nat} (h:¬ (s:Int)=0) (k:¬ (s:Int)=12):hintN (hintS s)=0:=by
 unfold hintS;rw [if_neg (by omega),if_neg (by omega)];rfl
section
variable {c n a b lim q:Int} (h0:0≤a) (h1:a < b) (hq:q=(b - a) / 4)
include h0 h1 hq
theorem chsU_50 (h:50≤b - a):chsU c n a b lim=((medU c n ((medU c n (a+q+-1) (a+q) (a+q+1) lim).1:Int) ((medU c n (a+q * 2+-1) (a+q * 2) (a+q * 2+1) lim).1:Int) ((medU c n (a+q * 3+-1) (a+q * 3) (a+q * 3+1) lim).1:Int) lim).1,
  hintS ((medU c n (a+q+-1) (a+q) (a+q+1) lim).2+(medU c n (a+q * 2+-1) (a+q * 2) (a+q * 2+1) lim).2+(medU c n (a+q * 3+-1) (a+q * 3) (a+q * 3+1) lim).2+(medU c n ((medU c n (a+q+-1) (a+q) (a+q+1) lim).1:Int) ((medU c n (a+q * 2+-1) (a+q * 2) (a+q * 2+1) lim).1:Int) ((medU c n (a+q * 3+-1) (a+q * 3) (a+q * 3+1) lim).1:Int) lim).2)):=by
 have e0:b.toNat - a.toNat=(b - a).toNat:=by omega
 have e1:(b.toNat - a.toNat) / 4=q.toNat:=by omega
 have i1:(a+q+-1).toNat=a.toNat+q.toNat * 1 - 1:=by omega
 have i2:(a+q).toNat=a.toNat+q.toNat * 1:=by omega
 have i3:(a+q+1).toNat=a.toNat+q.toNat * 1+1:=by omega
 have j1:(a+q * 2+-1).toNat=a.toNat+q.toNat * 2 - 1:=by omega
 have j2:(a+q * 2).toNat=a.toNat+q.toNat * 2:=by omega
 have j3:(a+q * 2+1).toNat=a.toNat+q.toNat * 2+1:=by omega
 have k1:(a+q * 3+-1).toNat=a.toNat+q.toNat * 3 - 1:=by omega
 have k2:(a+q * 3).toNat=a.toNat+q.toNat * 3:=by omega
 have k3:(a+q * 3+1).toNat=a.toNat+q.toNat * 3+1:=by omega
 have g1:8≤b.toNat - a.toNat:=by omega
 have g2:50≤b.toNat - a.toNat:=by omega
 unfold chsU medU Sort.choosePivot Sort.medianAdjacent
 simp only [i1,i2,i3,j1,j2,j3,k1,k2,k3,e1,ge_iff_le,g1,g2,if_true,Int.toNat_natCast]
 generalize Sort.median (ltU lim) (arrOf c n) (a.toNat+q.toNat * 1 - 1) (a.toNat+q.toNat * 1) (a.toNat+q.toNat * 1+1) 0=m1
 rw [median_s _ _ (a.toNat+q.toNat * 2 - 1)]
 generalize Sort.median (ltU lim) (arrOf c n) (a.toNat+q.toNat * 2 - 1) (a.toNat+q.toNat * 2) (a.toNat+q.toNat * 2+1) 0=m2
 simp only
 rw [median_s _ _ (a.toNat+q.toNat * 3 - 1)]
 generalize Sort.median (ltU lim) (arrOf c n) (a.toNat+q.toNat * 3 - 1) (a.toNat+q.toNat * 3) (a.toNat+q.toNat * 3+1) 0=m3
 simp only
 rw [median_s _ _ m1.1]
 generalize Sort.median (ltU lim) (arrOf c n) m1.1 m2.1 m3.1 0=m4
 have es:m4.2+(m3.2+(m2.2+m1.2))=m1.2+m2.2+m3.2+m4.2:=by omega
 simp only [es,hintS]
theorem chsU_8 (h:8≤b - a) (h':¬ 50≤b - a):chsU c n a b lim=((medU c n (a+q) (a+q * 2) (a+q * 3) lim).1,hintS (medU c n (a+q) (a+q * 2) (a+q * 3) lim).2):=by
 have e1:(b.toNat - a.toNat) / 4=q.toNat:=by omega
 have i2:(a+q).toNat=a.toNat+q.toNat * 1:=by omega
 have j2:(a+q * 2).toNat=a.toNat+q.toNat * 2:=by omega
 have k2:(a+q * 3).toNat=a.toNat+q.toNat * 3:=by omega
 have g1:8≤b.toNat - a.toNat:=by omega
 have g2:¬ 50≤b.toNat - a.toNat:=by omega
 unfold chsU medU Sort.choosePivot
 simp only [i2,j2,k2,e1,ge_iff_le,g1,g2,if_true,if_false,hintS]
theorem chsU_0 (h:¬ 8≤b - a):chsU c n a b lim=((a+q * 2).toNat,.increasing):=by
 have e1:(b.toNat - a.toNat) / 4=q.toNat:=by omega
 have j2:(a+q * 2).toNat=a.toNat+q.toNat * 2:=by omega
 have g1:¬ 8≤b.toNat - a.toNat:=by omega
 unfold chsU Sort.choosePivot
 simp only [j2,e1,ge_iff_le,g1,if_false,if_true]
end
theorem chsU_in {c n a b lim:Int} (h0:0≤a) (h:a < b):a≤((chsU c n a b lim).1:Int)∧((chsU c n a b lim).1:Int) < b:=by
 have:=Sort.choosePivot_holds (ltU lim) (arrOf c n) a.toNat b.toNat (by omega)
 unfold chsU;omega
def uChs_L0:List Lf:=
 let x0_:SI:=(.op .sub (.v 6) (.v 5))
 let x1_:SI:=(.ap 50 (.v 0) (.v 1) (.v 5) (.v 6) (.v 4) (.c 0))
 let x2_:SI:=(.wk .i64 (.op .tdiv x0_ (.c 4)))
 let x3_:SI:=(.wk .i64 (.op .add (.v 5) x2_))
 let x4_:SI:=(.op .add (.v 5) (.wk .i64 (.op .mul x2_ (.c 2))))
 let x5_:SI:=(.wk .i64 x4_)
 let x6_:SI:=(.wk .i64 (.op .add x3_ (.c 1)))
 let x7_:SI:=(.wk .i64 (.op .add (.v 5) (.wk .i64 (.op .mul x2_ (.c 3)))))
 let x8_:SI:=(.wk .i64 (.op .add x3_ (.c (-1))))
 let x9_:SI:=(.wk .i64 (.op .add x5_ (.c 1)))
 let x10_:SI:=(.wk .i64 (.op .add x7_ (.c 1)))
 let x11_:SI:=(.wk .i64 (.op .add x5_ (.c (-1))))
 let x12_:SI:=(.wk .i64 (.op .add x7_ (.c (-1))))
 let x13_:SI:=(.ap 54 (.v 0) (.v 1) x3_ x5_ x7_ (.v 4))
 let x14_:SI:=(.ap 55 (.v 0) (.v 1) x3_ x5_ x7_ (.v 4))
 let x15_:SI:=(.ap 54 (.v 0) (.v 1) x8_ x3_ x6_ (.v 4))
 let x16_:SI:=(.ap 54 (.v 0) (.v 1) x11_ x5_ x9_ (.v 4))
 let x17_:SI:=(.ap 54 (.v 0) (.v 1) x12_ x7_ x10_ (.v 4))
 let x18_:SI:=(.ap 54 (.v 0) (.v 1) x15_ x16_ x17_ (.v 4))
 let x19_:SI:=(.op .add (.op .add (.op .add (.ap 55 (.v 0) (.v 1) x8_ x3_ x6_ (.v 4)) (.ap 55 (.v 0) (.v 1) x11_ x5_ x9_ (.v 4))) (.ap 55 (.v 0) (.v 1) x12_ x7_ x10_ (.v 4))) (.ap 55 (.v 0) (.v 1) x15_ x16_ x17_ (.v 4)))
 let f0_:List (SB×Bool):=[((.le (.c 0) (.v 5)),.true),((.le (.v 5) (.c 1000)),.true),((.le (.c 0) (.v 6)),.true),((.le (.v 6) (.c 1000)),.true),((.lt (.v 5) (.v 6)),.true),((.le (.v 6) (.v 1)),.true),((.le (.v 1) (.v 2)),.true),((.le (.v 1) (.v 3)),.true)]
 let f1_:List (SB×Bool):=((.le (.c 8) x0_),.true)::f0_
 let f2_:List (SB×Bool):=((.le (.c 50) x0_),.true)::f1_
 let f3_:List (SB×Bool):=((.le (.c 50) x0_),.false)::f1_
 let f4_:List (SB×Bool):=((.le (.c 0) x8_),.true)::f2_
 let f5_:List (SB×Bool):=((.le (.c 0) x3_),.true)::f3_
 let f6_:List (SB×Bool):=((.le x8_ (.c 1000)),.true)::f4_
 let f7_:List (SB×Bool):=((.le x3_ (.c 1000)),.true)::f5_
 let f8_:List (SB×Bool):=((.le (.c 0) x3_),.true)::f6_
 let f9_:List (SB×Bool):=((.le (.c 0) x5_),.true)::f7_
 let f10_:List (SB×Bool):=((.le x3_ (.c 1000)),.true)::f8_
 let f11_:List (SB×Bool):=((.le x5_ (.c 1000)),.true)::f9_
 let f12_:List (SB×Bool):=((.le (.c 0) x6_),.true)::f10_
 let f13_:List (SB×Bool):=((.le (.c 0) x7_),.true)::f11_
 let f14_:List (SB×Bool):=((.le x6_ (.c 1000)),.true)::f12_
 let f15_:List (SB×Bool):=((.le x7_ (.c 1000)),.true)::f13_
 let f16_:List (SB×Bool):=((.lt x8_ (.v 1)),.true)::f14_
 let f17_:List (SB×Bool):=((.lt x3_ (.v 1)),.true)::f15_
 let f18_:List (SB×Bool):=((.lt x3_ (.v 1)),.true)::f16_
 let f19_:List (SB×Bool):=((.lt x5_ (.v 1)),.true)::f17_
 let f20_:List (SB×Bool):=((.le (.c 0) x15_),.true)::((.lt x15_ (.v 1)),.true)::((.le x15_ (.c 1000)),.true)::((.lt x6_ (.v 1)),.true)::f18_
 let f21_:List (SB×Bool):=((.le (.c 0) x13_),.true)::((.lt x13_ (.v 1)),.true)::((.le x13_ (.c 1000)),.true)::((.lt x7_ (.v 1)),.true)::f19_
 let f22_:List (SB×Bool):=((.le (.c 0) x11_),.true)::f20_
 let f23_:List (SB×Bool):=((.le x11_ (.c 1000)),.true)::f22_
 let f24_:List (SB×Bool):=((.le (.c 0) x5_),.true)::f23_
 let f25_:List (SB×Bool):=((.le x5_ (.c 1000)),.true)::f24_
 let f26_:List (SB×Bool):=((.le (.c 0) x9_),.true)::f25_
 let f27_:List (SB×Bool):=((.le x9_ (.c 1000)),.true)::f26_
 let f28_:List (SB×Bool):=((.lt x11_ (.v 1)),.true)::f27_
 let f29_:List (SB×Bool):=((.lt x5_ (.v 1)),.true)::f28_
 let f30_:List (SB×Bool):=((.le (.c 0) x16_),.true)::((.lt x16_ (.v 1)),.true)::((.le x16_ (.c 1000)),.true)::((.lt x9_ (.v 1)),.true)::f29_
 let f31_:List (SB×Bool):=((.le (.c 0) x12_),.true)::f30_
 let f32_:List (SB×Bool):=((.le x12_ (.c 1000)),.true)::f31_
 let f33_:List (SB×Bool):=((.le (.c 0) x7_),.true)::f32_
 let f34_:List (SB×Bool):=((.le x7_ (.c 1000)),.true)::f33_
 let f35_:List (SB×Bool):=((.le (.c 0) x10_),.true)::f34_
 let f36_:List (SB×Bool):=((.le x10_ (.c 1000)),.true)::f35_
 let f37_:List (SB×Bool):=((.lt x12_ (.v 1)),.true)::f36_
 let f38_:List (SB×Bool):=((.lt x7_ (.v 1)),.true)::f37_
 let f39_:List (SB×Bool):=((.le (.c 0) x18_),.true)::((.lt x18_ (.v 1)),.true)::((.le x18_ (.c 1000)),.true)::((.le (.c 0) x17_),.true)::((.lt x17_ (.v 1)),.true)::((.le x17_ (.c 1000)),.true)::((.lt x10_ (.v 1)),.true)::f38_
 let f40_:List (SB×Bool):=((.eq x19_ (.c 0)),.false)::f39_
 [(.fin (((.eq x19_ (.c 0)),.true)::f39_) 0 ⟨⟨[],[]⟩,[(0,0)],[],[]⟩ [(.ei (.ap 50 (.v 0) (.v 1) (.v 5) (.v 6) (.v 4) (.c 0)) (.ap 54 (.v 0) (.v 1) x15_ x16_ x17_ (.v 4))),(.ei (.ap 51 (.v 0) (.v 1) (.v 5) (.v 6) (.v 4) (.c 0)) (.c 1)),(.fa (.le (.v 5) x1_) .true),(.fa (.lt x1_ (.v 6)) .true)] [.none]),
  (.fin (((.eq x19_ (.c 12)),.true)::f40_) 0 ⟨⟨[],[]⟩,[(0,0)],[],[]⟩ [(.ei (.ap 50 (.v 0) (.v 1) (.v 5) (.v 6) (.v 4) (.c 0)) (.ap 54 (.v 0) (.v 1) x15_ x16_ x17_ (.v 4))),(.ei (.ap 51 (.v 0) (.v 1) (.v 5) (.v 6) (.v 4) (.c 0)) (.c 2)),(.fa (.le (.v 5) x1_) .true),(.fa (.lt x1_ (.v 6)) .true)] [.none]),
  (.fin (((.eq x19_ (.c 12)),.false)::f40_) 0 ⟨⟨[],[]⟩,[(0,0)],[],[]⟩ [(.ei (.ap 50 (.v 0) (.v 1) (.v 5) (.v 6) (.v 4) (.c 0)) (.ap 54 (.v 0) (.v 1) x15_ x16_ x17_ (.v 4))),(.ei (.ap 51 (.v 0) (.v 1) (.v 5) (.v 6) (.v 4) (.c 0)) (.c 0)),(.fa (.le (.v 5) x1_) .true),(.fa (.lt x1_ (.v 6)) .true)] [.none]),
  (.bad (((.lt x10_ (.v 1)),.false)::f38_)),
  (.bad (((.lt x7_ (.v 1)),.false)::f37_)),
  (.bad (((.lt x12_ (.v 1)),.false)::f36_)),
  (.bad (((.le x10_ (.c 1000)),.false)::f35_)),
  (.bad (((.le (.c 0) x10_),.false)::f34_)),
  (.bad (((.le x7_ (.c 1000)),.false)::f33_)),
  (.bad (((.le (.c 0) x7_),.false)::f32_)),
  (.bad (((.le x12_ (.c 1000)),.false)::f31_)),
  (.bad (((.le (.c 0) x12_),.false)::f30_)),
  (.bad (((.lt x9_ (.v 1)),.false)::f29_)),
  (.bad (((.lt x5_ (.v 1)),.false)::f28_)),
  (.bad (((.lt x11_ (.v 1)),.false)::f27_)),
  (.bad (((.le x9_ (.c 1000)),.false)::f26_)),
  (.bad (((.le (.c 0) x9_),.false)::f25_)),
  (.bad (((.le x5_ (.c 1000)),.false)::f24_)),
  (.bad (((.le (.c 0) x5_),.false)::f23_)),
  (.bad (((.le x11_ (.c 1000)),.false)::f22_)),
  (.bad (((.le (.c 0) x11_),.false)::f20_)),
  (.bad (((.lt x6_ (.v 1)),.false)::f18_)),
  (.bad (((.lt x3_ (.v 1)),.false)::f16_)),
  (.bad (((.lt x8_ (.v 1)),.false)::f14_)),
  (.bad (((.le x6_ (.c 1000)),.false)::f12_)),
  (.bad (((.le (.c 0) x6_),.false)::f10_)),
  (.bad (((.le x3_ (.c 1000)),.false)::f8_)),
  (.bad (((.le (.c 0) x3_),.false)::f6_)),
  (.bad (((.le x8_ (.c 1000)),.false)::f4_)),
  (.bad (((.le (.c 0) x8_),.false)::f2_)),
  (.fin (((.eq x14_ (.c 0)),.true)::f21_) 0 ⟨⟨[],[]⟩,[(0,0)],[],[]⟩ [(.ei (.ap 50 (.v 0) (.v 1) (.v 5) (.v 6) (.v 4) (.c 0)) (.ap 54 (.v 0) (.v 1) x3_ x5_ x7_ (.v 4))),(.ei (.ap 51 (.v 0) (.v 1) (.v 5) (.v 6) (.v 4) (.c 0)) (.c 1)),(.fa (.le (.v 5) x1_) .true),(.fa (.lt x1_ (.v 6)) .true)] [.none]),
  (.fin (((.eq x14_ (.c 0)),.false)::f21_) 0 ⟨⟨[],[]⟩,[(0,0)],[],[]⟩ [(.ei (.ap 50 (.v 0) (.v 1) (.v 5) (.v 6) (.v 4) (.c 0)) (.ap 54 (.v 0) (.v 1) x3_ x5_ x7_ (.v 4))),(.ei (.ap 51 (.v 0) (.v 1) (.v 5) (.v 6) (.v 4) (.c 0)) (.c 0)),(.fa (.le (.v 5) x1_) .true),(.fa (.lt x1_ (.v 6)) .true)] [.none]),
  (.bad (((.lt x7_ (.v 1)),.false)::f19_)),
  (.bad (((.lt x5_ (.v 1)),.false)::f17_)),
  (.bad (((.lt x3_ (.v 1)),.false)::f15_)),
  (.bad (((.le x7_ (.c 1000)),.false)::f13_)),
  (.bad (((.le (.c 0) x7_),.false)::f11_)),
  (.bad (((.le x5_ (.c 1000)),.false)::f9_)),
  (.bad (((.le (.c 0) x5_),.false)::f7_)),
  (.bad (((.le x3_ (.c 1000)),.false)::f5_)),
  (.bad (((.le (.c 0) x3_),.false)::f3_)),
  (.fin (((.le (.c 8) x0_),.false)::f0_) 0 ⟨⟨[],[]⟩,[(0,0)],[],[]⟩ [(.ei (.ap 50 (.v 0) (.v 1) (.v 5) (.v 6) (.v 4) (.c 0)) (.wk .i64 x4_)),(.ei (.ap 51 (.v 0) (.v 1) (.v 5) (.v 6) (.v 4) (.c 0)) (.c 1)),(.fa (.le (.v 5) x1_) .true),(.fa (.lt x1_ (.v 6)) .true)] [.none])]
def uChs_run (T:Tm):=(ex (ccM Try.prog BF [58,84]) ((fun cc=>[uCmp.ent cc,uMed.ent cc]) (ccM Try.prog BF [58,84])) (dw (ccM Try.prog BF [58,84]) ((fun cc=>[uCmp.ent cc,uMed.ent cc]) (ccM Try.prog BF [58,84])) 1000 4) (stopX []) 4000 T.f T.fs T.H).lfsM 1 (ccM Try.prog BF [58,84]) ((tmM uChs Try.f160 (Try.f160.body.getD .skip))::[]) uChs.os
theorem uChs_h0:uChs_run (tmM uChs Try.f160 (Try.f160.body.getD .skip))=some uChs_L0:=by kernel_rfl
def uChs_inv:(Nat→Int)→(Nat→Bool)→Nat→(Nat→Int)→(Nat→Bool)→Prop:=fun _ _ _ _ _=>True
def uChs_mu:(Nat→Int)→(Nat→Bool)→Nat→(Nat→Int)→(Nat→Bool)→Nat:=fun _ _ _ _ _=>0
theorem uChs_b {iv0:Nat→Int} (hin:InB uChs.B iv0):(0≤iv0 1∧iv0 1≤1000)∧((-9223372036854775808)≤iv0 4∧iv0 4≤9223372036854775807):=by
 have b1:=hin 1 0 1000 (by simp [uChs,kU,ints,i64s,lmap,i64b,dU,cmpV,mU,bU,fU,leF,ltF,tU,nu,mS,ltAt,mS',tM,tC,nxU,x58,x56,x57])
 simp only [Int.reduceLE,reduceIte,Int.reduceNeg] at b1
 have b4:=hin 4 (-9223372036854775808) 9223372036854775807 (by simp [uChs,kU,ints,i64s,lmap,i64b,dU,cmpV,mU,bU,fU,leF,ltF,tU,nu,mS,ltAt,mS',tM,tC,nxU,x58,x56,x57])
 simp only [Int.reduceLE,reduceIte,Int.reduceNeg] at b4
 exact ⟨b1,b4⟩
def uChs_ob (k:Nat) (l:List Lf):Prop:=∀ (kv:Kv) (iv0:Nat→Int) (bv0:Nat→Bool),InB uChs.B iv0→FT (sta FI FB kv iv0 bv0) (dlt dyn0) uChs.F→∀ (iv:Nat→Int) (bv:Nat→Bool),Agr 7 iv0 bv0 iv bv→uChs_inv iv0 bv0 k iv bv→∀ lf∈l,LfT (sta FI FB kv) uChs.os (uChs_inv iv0 bv0) (uChs_mu iv0 bv0) k iv bv lf
theorem uChs_o0:uChs_ob 0 uChs_L0:=by
 intro kv iv0 bv0 hin hF iv bv ha hi
 unfold uChs_L0
 refine List.forall_mem_cons.2 ⟨?_,List.forall_mem_cons.2 ⟨?_,List.forall_mem_cons.2 ⟨?_,List.forall_mem_cons.2 ⟨?_,List.forall_mem_cons.2 ⟨?_,List.forall_mem_cons.2 ⟨?_,List.forall_mem_cons.2 ⟨?_,List.forall_mem_cons.2 ⟨?_,List.forall_mem_cons.2 ⟨?_,List.forall_mem_cons.2 ⟨?_,List.forall_mem_cons.2 ⟨?_,List.forall_mem_cons.2 ⟨?_,List.forall_mem_cons.2 ⟨?_,List.forall_mem_cons.2 ⟨?_,List.forall_mem_cons.2 ⟨?_,List.forall_mem_cons.2 ⟨?_,List.forall_mem_cons.2 ⟨?_,List.forall_mem_cons.2 ⟨?_,List.forall_mem_cons.2 ⟨?_,List.forall_mem_cons.2 ⟨?_,List.forall_mem_cons.2 ⟨?_,List.forall_mem_cons.2 ⟨?_,List.forall_mem_cons.2 ⟨?_,List.forall_mem_cons.2 ⟨?_,List.forall_mem_cons.2 ⟨?_,List.forall_mem_cons.2 ⟨?_,List.forall_mem_cons.2 ⟨?_,List.forall_mem_cons.2 ⟨?_,List.forall_mem_cons.2 ⟨?_,List.forall_mem_cons.2 ⟨?_,List.forall_mem_cons.2 ⟨?_,List.forall_mem_cons.2 ⟨?_,List.forall_mem_cons.2 ⟨?_,List.forall_mem_cons.2 ⟨?_,List.forall_mem_cons.2 ⟨?_,List.forall_mem_cons.2 ⟨?_,List.forall_mem_cons.2 ⟨?_,List.forall_mem_cons.2 ⟨?_,List.forall_mem_cons.2 ⟨?_,List.forall_mem_cons.2 ⟨?_,List.forall_mem_cons.2 ⟨?_,List.forall_mem_cons.2 ⟨?_,List.forall_mem_nil _⟩⟩⟩⟩⟩⟩⟩⟩⟩⟩⟩⟩⟩⟩⟩⟩⟩⟩⟩⟩⟩⟩⟩⟩⟩⟩⟩⟩⟩⟩⟩⟩⟩⟩⟩⟩⟩⟩⟩⟩⟩⟩
 all_goals
  intro δ hf
 all_goals
  obtain ⟨b1,b4⟩:=uChs_b hin
 all_goals
  have a0:=ha.1 0 (by omega)
  have a1:=ha.1 1 (by omega)
  have a2:=ha.1 2 (by omega)
  have a3:=ha.1 3 (by omega)
  have a4:=ha.1 4 (by omega)
  have a5:=ha.1 5 (by omega)
  have a6:=ha.1 6 (by omega)
 all_goals
  simp only [FT,TP,SB.tp,SI.tv,sta,IB.eval,and_true,true_and,ObsT,Ob.Tv,rowT,kix,In.tiv,↓tbvT,In.tbv,get_cons,get_nil,reduceIte,Nat.reduceEqDiff,Int.reduceToNat,Int.reduceAdd,Int.reduceSub,Int.reduceLE,Int.reduceLT,Int.reduceEq,ne_eq,Bool.false_eq_true,not_true_eq_false,not_false_eq_true,true_iff,false_iff,iff_true,iff_false,false_implies,implies_true,decT,decide_true,decide_false,Bool.decide_eq_true,ap2,pb2,FI_3,FI_8,FI_9,FI_3g,FI_8m,Int.toNat_natCast,Int.toNat_zero,FI_50,FI_51,FI_54,FI_55,uChs_inv,uChs_mu,uChs,o1,othT,kU,ints,i64s,lmap,i64b,dU,cmpV,mU,bU,fU,leF,ltF,tU,nu,mS,ltAt,mS',tM,tC,nxU,x58,x56,x57,a0,a1,a2,a3,a4,a5,a6] at hf hi ⊢
 all_goals
  have hq:(iv0 6 - iv0 5).tdiv 4=(iv0 6 - iv0 5) / 4:=Int.tdiv_eq_ediv_of_nonneg (by omega)
  simp only [hq] at hf ⊢
  obtain ⟨q,hqe⟩:∃ q,q=(iv0 6 - iv0 5) / 4:=⟨_,rfl⟩
  simp only [← hqe] at hf ⊢
  have hq0:0≤q∧4 * q≤iv0 6 - iv0 5∧iv0 6 - iv0 5 < 4 * q+4:=by omega
 all_goals
  try (simp (disch:=omega) only [i64_in] at hf ⊢)
 all_goals
  have hr:=@chsU_in (iv0 0) (iv0 1) (iv0 5) (iv0 6) (iv0 4) (by omega) (by omega)
 all_goals
  have hm:min (chsU (iv0 0) (iv0 1) (iv0 5) (iv0 6) (iv0 4)).1 1000=(chsU (iv0 0) (iv0 1) (iv0 5) (iv0 6) (iv0 4)).1:=by omega
 all_goals
  try simp only [hm]
 all_goals
  (repeat' (with_reducible apply And.intro))<;>first
  | omega
  | assumption
  | (unfold inM;omega)
  | (rw [chsU_50 (by omega) (by omega) hqe (by omega)];done)
  | (rw [chsU_50 (by omega) (by omega) hqe (by omega)];rfl)
  | (rw [chsU_50 (by omega) (by omega) hqe (by omega)];exact hintS_0 (by have:=hf.1;omega))
  | (rw [chsU_50 (by omega) (by omega) hqe (by omega)];exact hintS_12 (by have:=hf.1;omega))
  | (rw [chsU_50 (by omega) (by omega) hqe (by omega)];exact hintS_no (by have:=hf.1;have:=hf.2.1;omega) (by have:=hf.1;have:=hf.2.1;omega))
  | (rw [chsU_50 (by omega) (by omega) hqe (by omega)];exact hintS_no (by have:=hf.1;omega) (by have:=medU_in (iv0 0) (iv0 1) (iv0 5+q) (iv0 5+q * 2) (iv0 5+q * 3) (iv0 4);omega))
  | (rw [chsU_50 (by omega) (by omega) hqe (by omega)];show (((iv0 5+q * 2).toNat:Nat):Int)=_;omega)
  | (rw [chsU_8 (by omega) (by omega) hqe (by omega) (by omega)];done)
  | (rw [chsU_8 (by omega) (by omega) hqe (by omega) (by omega)];rfl)
  | (rw [chsU_8 (by omega) (by omega) hqe (by omega) (by omega)];exact hintS_0 (by have:=hf.1;omega))
  | (rw [chsU_8 (by omega) (by omega) hqe (by omega) (by omega)];exact hintS_12 (by have:=hf.1;omega))
  | (rw [chsU_8 (by omega) (by omega) hqe (by omega) (by omega)];exact hintS_no (by have:=hf.1;have:=hf.2.1;omega) (by have:=hf.1;have:=hf.2.1;omega))
  | (rw [chsU_8 (by omega) (by omega) hqe (by omega) (by omega)];exact hintS_no (by have:=hf.1;omega) (by have:=medU_in (iv0 0) (iv0 1) (iv0 5+q) (iv0 5+q * 2) (iv0 5+q * 3) (iv0 4);omega))
  | (rw [chsU_8 (by omega) (by omega) hqe (by omega) (by omega)];show (((iv0 5+q * 2).toNat:Nat):Int)=_;omega)
  | (rw [chsU_0 (by omega) (by omega) hqe (by omega)];done)
  | (rw [chsU_0 (by omega) (by omega) hqe (by omega)];rfl)
  | (rw [chsU_0 (by omega) (by omega) hqe (by omega)];exact hintS_0 (by have:=hf.1;omega))
  | (rw [chsU_0 (by omega) (by omega) hqe (by omega)];exact hintS_12 (by have:=hf.1;omega))
  | (rw [chsU_0 (by omega) (by omega) hqe (by omega)];exact hintS_no (by have:=hf.1;have:=hf.2.1;omega) (by have:=hf.1;have:=hf.2.1;omega))
  | (rw [chsU_0 (by omega) (by omega) hqe (by omega)];exact hintS_no (by have:=hf.1;omega) (by have:=medU_in (iv0 0) (iv0 1) (iv0 5+q) (iv0 5+q * 2) (iv0 5+q * 3) (iv0 4);omega))
  | (rw [chsU_0 (by omega) (by omega) hqe (by omega)];show (((iv0 5+q * 2).toNat:Nat):Int)=_;omega)
theorem uChs_c:LsCM 1 ((tmM uChs Try.f160 (Try.f160.body.getD .skip))::[]) uChs.os [uChs_L0]:=by
 unfold uChs_L0
 exact ⟨List.forall_mem_cons.2 ⟨⟨⟨⟨_,rfl,rfl⟩,by kernel_rfl⟩,by kernel_rfl⟩,List.forall_mem_cons.2 ⟨⟨⟨⟨_,rfl,rfl⟩,by kernel_rfl⟩,by kernel_rfl⟩,List.forall_mem_cons.2 ⟨⟨⟨⟨_,rfl,rfl⟩,by kernel_rfl⟩,by kernel_rfl⟩,List.forall_mem_cons.2 ⟨⟨trivial,rfl⟩,List.forall_mem_cons.2 ⟨⟨trivial,rfl⟩,List.forall_mem_cons.2 ⟨⟨trivial,rfl⟩,List.forall_mem_cons.2 ⟨⟨trivial,rfl⟩,List.forall_mem_cons.2 ⟨⟨trivial,rfl⟩,List.forall_mem_cons.2 ⟨⟨trivial,rfl⟩,List.forall_mem_cons.2 ⟨⟨trivial,rfl⟩,List.forall_mem_cons.2 ⟨⟨trivial,rfl⟩,List.forall_mem_cons.2 ⟨⟨trivial,rfl⟩,List.forall_mem_cons.2 ⟨⟨trivial,rfl⟩,List.forall_mem_cons.2 ⟨⟨trivial,rfl⟩,List.forall_mem_cons.2 ⟨⟨trivial,rfl⟩,List.forall_mem_cons.2 ⟨⟨trivial,rfl⟩,List.forall_mem_cons.2 ⟨⟨trivial,rfl⟩,List.forall_mem_cons.2 ⟨⟨trivial,rfl⟩,List.forall_mem_cons.2 ⟨⟨trivial,rfl⟩,List.forall_mem_cons.2 ⟨⟨trivial,rfl⟩,List.forall_mem_cons.2 ⟨⟨trivial,rfl⟩,List.forall_mem_cons.2 ⟨⟨trivial,rfl⟩,List.forall_mem_cons.2 ⟨⟨trivial,rfl⟩,List.forall_mem_cons.2 ⟨⟨trivial,rfl⟩,List.forall_mem_cons.2 ⟨⟨trivial,rfl⟩,List.forall_mem_cons.2 ⟨⟨trivial,rfl⟩,List.forall_mem_cons.2 ⟨⟨trivial,rfl⟩,List.forall_mem_cons.2 ⟨⟨trivial,rfl⟩,List.forall_mem_cons.2 ⟨⟨trivial,rfl⟩,List.forall_mem_cons.2 ⟨⟨trivial,rfl⟩,List.forall_mem_cons.2 ⟨⟨⟨⟨_,rfl,rfl⟩,by kernel_rfl⟩,by kernel_rfl⟩,List.forall_mem_cons.2 ⟨⟨⟨⟨_,rfl,rfl⟩,by kernel_rfl⟩,by kernel_rfl⟩,List.forall_mem_cons.2 ⟨⟨trivial,rfl⟩,List.forall_mem_cons.2 ⟨⟨trivial,rfl⟩,List.forall_mem_cons.2 ⟨⟨trivial,rfl⟩,List.forall_mem_cons.2 ⟨⟨trivial,rfl⟩,List.forall_mem_cons.2 ⟨⟨trivial,rfl⟩,List.forall_mem_cons.2 ⟨⟨trivial,rfl⟩,List.forall_mem_cons.2 ⟨⟨trivial,rfl⟩,List.forall_mem_cons.2 ⟨⟨trivial,rfl⟩,List.forall_mem_cons.2 ⟨⟨trivial,rfl⟩,List.forall_mem_cons.2 ⟨⟨⟨⟨_,rfl,rfl⟩,by kernel_rfl⟩,by kernel_rfl⟩,List.forall_mem_nil _⟩⟩⟩⟩⟩⟩⟩⟩⟩⟩⟩⟩⟩⟩⟩⟩⟩⟩⟩⟩⟩⟩⟩⟩⟩⟩⟩⟩⟩⟩⟩⟩⟩⟩⟩⟩⟩⟩⟩⟩⟩⟩,trivial⟩
theorem uChs_ok:uChs.Ok Try.prog FI FB:=
 Com.of_plain (body:=Try.f160.body.getD .skip) pok fiok (EntsFor.cons uCmp_ok (EntsFor.consM uMed_ok EntsFor.nil)) uChs Try.func160 (by kernel_rfl) 7 [] (by kernel_rfl) [uChs_L0] ⟨uChs_h0,trivial⟩ uChs_c
  uChs_inv uChs_mu (fun _ _ _=>trivial) fun kv iv0 bv0 hin hF k l iv bv hk ha hi=>match k,hk,hi with
  | 0,hk,hi=>by
    cases hk
    exact uChs_o0 kv iv0 bv0 hin hF iv bv ha hi
  | k+1,hk,_=>by simp at hk
def uXor_L0:List Lf:=
 let x0_:SI:=(.op (.bxor .u64) (.v 0) (.op (.shl .u64) (.v 0) (.c 13)))
 let x1_:SI:=(.op (.bxor .u64) x0_ (.op (.shr .u64) x0_ (.c 7)))
 [(.fin ([]) 0 ⟨⟨[],[]⟩,[(0,0)],[],[]⟩ [(.ei (.ap 58 (.v 0) (.c 0) (.c 0) (.c 0) (.c 0) (.c 0)) (.op (.bxor .u64) x1_ (.op (.shl .u64) x1_ (.c 17)))),(.ei (.ap 58 (.v 0) (.c 0) (.c 0) (.c 0) (.c 0) (.c 0)) (.op (.bxor .u64) x1_ (.op (.shl .u64) x1_ (.c 17))))] [.none])]
def uXor_run (T:Tm):=(ex (ccM Try.prog BF [58,84]) ((fun _=>[]) (ccM Try.prog BF [58,84])) (dw (ccM Try.prog BF [58,84]) ((fun _=>[]) (ccM Try.prog BF [58,84])) 1000 4) (stopX []) 4000 T.f T.fs T.H).lfsM 1 (ccM Try.prog BF [58,84]) ((tmM uXor Try.f170 (Try.f170.body.getD .skip))::[]) uXor.os
theorem uXor_h0:uXor_run (tmM uXor Try.f170 (Try.f170.body.getD .skip))=some uXor_L0:=by kernel_rfl
def uXor_inv:(Nat→Int)→(Nat→Bool)→Nat→(Nat→Int)→(Nat→Bool)→Prop:=fun _ _ _ _ _=>True
def uXor_mu:(Nat→Int)→(Nat→Bool)→Nat→(Nat→Int)→(Nat→Bool)→Nat:=fun _ _ _ _ _=>0
theorem uXor_b {iv0:Nat→Int} (hin:InB uXor.B iv0):(0≤iv0 0∧iv0 0≤18446744073709551615):=by
 have b0:=hin 0 0 18446744073709551615 (by simp [uXor,kU,ints,i64s,lmap,i64b,dU,cmpV,mU,bU,fU,leF,ltF,tU,nu,mS,ltAt,mS',tM,tC,nxU,x58,x56,x57])
 simp only [Int.reduceLE,reduceIte,Int.reduceNeg] at b0
 exact b0
def uXor_ob (k:Nat) (l:List Lf):Prop:=∀ (kv:Kv) (iv0:Nat→Int) (bv0:Nat→Bool),InB uXor.B iv0→FT (sta FI FB kv iv0 bv0) (dlt dyn0) uXor.F→∀ (iv:Nat→Int) (bv:Nat→Bool),Agr 1 iv0 bv0 iv bv→uXor_inv iv0 bv0 k iv bv→∀ lf∈l,LfT (sta FI FB kv) uXor.os (uXor_inv iv0 bv0) (uXor_mu iv0 bv0) k iv bv lf
theorem uXor_o0:uXor_ob 0 uXor_L0:=by
 intro kv iv0 bv0 hin hF iv bv ha hi
 unfold uXor_L0
 refine List.forall_mem_cons.2 ⟨?_,List.forall_mem_nil _⟩
 all_goals
  intro δ hf
 all_goals
  have b0:=uXor_b hin
 all_goals
  have a0:=ha.1 0 (by omega)
 all_goals
  simp only [FT,TP,SB.tp,SI.tv,sta,IB.eval,and_true,true_and,ObsT,Ob.Tv,rowT,kix,In.tiv,↓tbvT,In.tbv,get_cons,get_nil,reduceIte,Nat.reduceEqDiff,Int.reduceToNat,Int.reduceAdd,Int.reduceSub,Int.reduceLE,Int.reduceLT,Int.reduceEq,ne_eq,Bool.false_eq_true,not_true_eq_false,not_false_eq_true,true_iff,false_iff,iff_true,iff_false,false_implies,implies_true,decT,decide_true,decide_false,Bool.decide_eq_true,ap2,pb2,FI_3,FI_8,FI_9,FI_3g,FI_8m,Int.toNat_natCast,Int.toNat_zero,FI_58,uXor_inv,uXor_mu,uXor,o1,othT,kU,ints,i64s,lmap,i64b,dU,cmpV,mU,bU,fU,leF,ltF,tU,nu,mS,ltAt,mS',tM,tC,nxU,x58,x56,x57,a0] at hf hi ⊢
 all_goals
  (repeat' (with_reducible apply And.intro))<;>first
  | omega
  | assumption
  | (unfold inM;omega)
  | (exact xorN_eq (iv0 0) (by omega) (by omega) (fun a b=>IntKind.u64.wrap (BitVec.ofInt IntKind.u64.bits a ^^^ BitVec.ofInt IntKind.u64.bits b).toNat) (fun _ _=>rfl))
theorem uXor_c:LsCM 1 ((tmM uXor Try.f170 (Try.f170.body.getD .skip))::[]) uXor.os [uXor_L0]:=by
 unfold uXor_L0
 exact ⟨List.forall_mem_cons.2 ⟨⟨⟨⟨_,rfl,rfl⟩,by kernel_rfl⟩,by kernel_rfl⟩,List.forall_mem_nil _⟩,trivial⟩
theorem uXor_ok:uXor.Ok Try.prog FI FB:=
 Com.of_plain (body:=Try.f170.body.getD .skip) pok fiok EntsFor.nil uXor Try.func170 (by kernel_rfl) 1 [] (by kernel_rfl) [uXor_L0] ⟨uXor_h0,trivial⟩ uXor_c
  uXor_inv uXor_mu (fun _ _ _=>trivial) fun kv iv0 bv0 hin hF k l iv bv hk ha hi=>match k,hk,hi with
  | 0,hk,hi=>by
    cases hk
    exact uXor_o0 kv iv0 bv0 hin hF iv bv ha hi
  | k+1,hk,_=>by simp at hk
def uBrk_T1:Tm:=⟨⟨159,67,[(11,(.it .i64 (.v 27))),(10,(.it .u64 (.ap 56 (.op .sub (.v 6) (.v 5)) (.c 0) (.c 0) (.c 0) (.c 0) (.c 0)))),(9,(.pt (.n 1) (.c 0))),(8,(.it .i64 (.op .sub (.v 6) (.v 5)))),(0,(.sl (.n 0) (.c 0) (.v 1) (.v 2))),(1,(.it .i64 (.v 5)))],[(.code (atC Try.f159 [1,1,0,1,1,1,0,0])),(.inLoop (atC Try.f159 [1,1,0,1,1,1,0,0])),(.inBlock 0)],[],.none⟩,[],
    ⟨[(0,(.arr [(.nt .i64),(.nt .i64),(.nt .i64),(.nt .i64),(.nt .i64),(.nt .i64)] (.v 28) (.v 1) 158 (.v 3))),(1,(.cells [(.it .u64 (.v 29))] 200))],2,0,0,[((.le (.c 1) (.ap 56 (.op .sub (.v 6) (.v 5)) (.c 0) (.c 0) (.c 0) (.c 0) (.c 0))),.true),((.le (.ap 56 (.op .sub (.v 6) (.v 5)) (.c 0) (.c 0) (.c 0) (.c 0) (.c 0)) (.c 1024)),.true),((.le (.c 8) (.op .sub (.v 6) (.v 5))),.true),((.le (.c 0) (.v 5)),.true),((.le (.v 5) (.c 1000)),.true),((.le (.c 0) (.v 6)),.true),((.le (.v 6) (.c 1000)),.true),((.le (.v 5) (.v 6)),.true),((.le (.v 6) (.v 1)),.true),((.le (.v 1) (.v 2)),.true),((.le (.v 1) (.v 3)),.true)],[0],[(29,(0,18446744073709551615)),(5,(0,1000)),(6,(0,1000)),(1,(0,1000)),(3,(0,(-1))),(4,((-9223372036854775808),9223372036854775807)),(27,(0,1000))]⟩,[27,28,29]⟩
def uBrk_L0:List Lf:=
 let x0_:SI:=(.op .sub (.v 6) (.v 5))
 let x1_:SI:=(.ap 56 x0_ (.c 0) (.c 0) (.c 0) (.c 0) (.c 0))
 let x2_:SI:=(.op .add (.wk .i64 (.op .add (.v 5) (.wk .i64 (.op .mul (.wk .i64 (.op .tdiv x0_ (.c 4))) (.c 2))))) (.c (-1)))
 let f0_:List (SB×Bool):=[((.le (.c 0) (.v 5)),.true),((.le (.v 5) (.c 1000)),.true),((.le (.c 0) (.v 6)),.true),((.le (.v 6) (.c 1000)),.true),((.le (.v 5) (.v 6)),.true),((.le (.v 6) (.v 1)),.true),((.le (.v 1) (.v 2)),.true),((.le (.v 1) (.v 3)),.true)]
 [(let i_:In:=⟨⟨[(29,(.wk .u64 x0_)),(28,(.v 0)),(27,(.wk .i64 x2_))],[]⟩,[(0,0),(1,1)],[],[]⟩;.cut (((.le (.c 1) x1_),.true)::((.le x1_ (.c 1024)),.true)::((.le (.c 8) x0_),.true)::f0_) 1 i_ [(.rn (.wk .i64 x2_) 0 1000)] (shT uBrk_T1 i_)),
  (.fin (((.le (.c 8) x0_),.false)::f0_) 0 ⟨⟨[],[]⟩,[(0,0)],[],[]⟩ [(.ar [(.nt .i64),(.nt .i64),(.nt .i64),(.nt .i64),(.nt .i64),(.nt .i64)] (.ap 49 (.v 0) (.v 1) (.v 5) (.v 6) (.c 0) (.c 0)) (.v 0) (.v 1))] [.none])]
def uBrk_L1:List Lf:=
 let x0_:SI:=(.op .sub (.v 6) (.v 5))
 let x1_:SI:=(.ap 3 (.v 28) (.v 27) (.c 0) (.c 0) (.c 0) (.c 0))
 let x2_:SI:=(.ap 3 (.v 28) (.v 27) (.c 1) (.c 0) (.c 0) (.c 0))
 let x3_:SI:=(.ap 3 (.v 28) (.v 27) (.c 2) (.c 0) (.c 0) (.c 0))
 let x4_:SI:=(.ap 3 (.v 28) (.v 27) (.c 3) (.c 0) (.c 0) (.c 0))
 let x5_:SI:=(.ap 3 (.v 28) (.v 27) (.c 4) (.c 0) (.c 0) (.c 0))
 let x6_:SI:=(.ap 3 (.v 28) (.v 27) (.c 5) (.c 0) (.c 0) (.c 0))
 let x7_:SI:=(.ap 56 x0_ (.c 0) (.c 0) (.c 0) (.c 0) (.c 0))
 let x8_:SI:=(.wk .i64 (.op .add (.wk .i64 (.op .add (.v 5) (.wk .i64 (.op .mul (.wk .i64 (.op .tdiv x0_ (.c 4))) (.c 2))))) (.c 1)))
 let x9_:SI:=(.wk .i64 (.op (.band .u64) (.ap 58 (.v 29) (.c 0) (.c 0) (.c 0) (.c 0) (.c 0)) (.wk .u64 (.op .add x7_ (.c (-1))))))
 let x10_:SI:=(.wk .i64 (.op .add (.v 5) x9_))
 let x11_:SI:=(.wk .i64 (.op .add (.v 5) (.wk .i64 (.op .sub x9_ x0_))))
 let f0_:List (SB×Bool):=[((.le (.c 1) x7_),.true),((.le x7_ (.c 1024)),.true),((.le (.c 8) x0_),.true),((.le (.c 0) (.v 5)),.true),((.le (.v 5) (.c 1000)),.true),((.le (.c 0) (.v 6)),.true),((.le (.v 6) (.c 1000)),.true),((.le (.v 5) (.v 6)),.true),((.le (.v 6) (.v 1)),.true),((.le (.v 1) (.v 2)),.true),((.le (.v 1) (.v 3)),.true)]
 let f1_:List (SB×Bool):=((.le (.v 27) x8_),.true)::f0_
 let f2_:List (SB×Bool):=((.le x0_ x9_),.true)::f1_
 let f3_:List (SB×Bool):=((.le x0_ x9_),.false)::f1_
 let f4_:List (SB×Bool):=((.le (.c 0) x11_),.true)::f2_
 let f5_:List (SB×Bool):=((.le (.c 0) x10_),.true)::f3_
 let f6_:List (SB×Bool):=((.lt x11_ (.v 1)),.true)::f4_
 let f7_:List (SB×Bool):=((.lt x10_ (.v 1)),.true)::f5_
 [(let i_:In:=⟨⟨[(29,(.ap 58 (.v 29) (.c 0) (.c 0) (.c 0) (.c 0) (.c 0))),(28,(.ap 8 (.ap 8 (.ap 8 (.ap 8 (.ap 8 (.ap 8 (.ap 8 (.ap 8 (.ap 8 (.ap 8 (.ap 8 (.ap 8 (.v 28) (.v 27) (.c 0) (.ap 3 (.v 28) x11_ (.c 0) (.c 0) (.c 0) (.c 0)) (.c 0) (.c 0)) (.v 27) (.c 1) (.ap 3 (.v 28) x11_ (.c 1) (.c 0) (.c 0) (.c 0)) (.c 0) (.c 0)) (.v 27) (.c 2) (.ap 3 (.v 28) x11_ (.c 2) (.c 0) (.c 0) (.c 0)) (.c 0) (.c 0)) (.v 27) (.c 3) (.ap 3 (.v 28) x11_ (.c 3) (.c 0) (.c 0) (.c 0)) (.c 0) (.c 0)) (.v 27) (.c 4) (.ap 3 (.v 28) x11_ (.c 4) (.c 0) (.c 0) (.c 0)) (.c 0) (.c 0)) (.v 27) (.c 5) (.ap 3 (.v 28) x11_ (.c 5) (.c 0) (.c 0) (.c 0)) (.c 0) (.c 0)) x11_ (.c 0) x1_ (.c 0) (.c 0)) x11_ (.c 1) x2_ (.c 0) (.c 0)) x11_ (.c 2) x3_ (.c 0) (.c 0)) x11_ (.c 3) x4_ (.c 0) (.c 0)) x11_ (.c 4) x5_ (.c 0) (.c 0)) x11_ (.c 5) x6_ (.c 0) (.c 0))),(27,(.op .add (.v 27) (.c 1)))],[]⟩,[(0,0),(1,1)],[],[]⟩;.cut (((.lt (.v 27) (.v 1)),.true)::f6_) 1 i_ [] (shT uBrk_T1 i_)),
  (.bad (((.lt (.v 27) (.v 1)),.false)::f6_)),
  (.bad (((.lt x11_ (.v 1)),.false)::f4_)),
  (.bad (((.le (.c 0) x11_),.false)::f2_)),
  (let i_:In:=⟨⟨[(29,(.ap 58 (.v 29) (.c 0) (.c 0) (.c 0) (.c 0) (.c 0))),(28,(.ap 8 (.ap 8 (.ap 8 (.ap 8 (.ap 8 (.ap 8 (.ap 8 (.ap 8 (.ap 8 (.ap 8 (.ap 8 (.ap 8 (.v 28) (.v 27) (.c 0) (.ap 3 (.v 28) x10_ (.c 0) (.c 0) (.c 0) (.c 0)) (.c 0) (.c 0)) (.v 27) (.c 1) (.ap 3 (.v 28) x10_ (.c 1) (.c 0) (.c 0) (.c 0)) (.c 0) (.c 0)) (.v 27) (.c 2) (.ap 3 (.v 28) x10_ (.c 2) (.c 0) (.c 0) (.c 0)) (.c 0) (.c 0)) (.v 27) (.c 3) (.ap 3 (.v 28) x10_ (.c 3) (.c 0) (.c 0) (.c 0)) (.c 0) (.c 0)) (.v 27) (.c 4) (.ap 3 (.v 28) x10_ (.c 4) (.c 0) (.c 0) (.c 0)) (.c 0) (.c 0)) (.v 27) (.c 5) (.ap 3 (.v 28) x10_ (.c 5) (.c 0) (.c 0) (.c 0)) (.c 0) (.c 0)) x10_ (.c 0) x1_ (.c 0) (.c 0)) x10_ (.c 1) x2_ (.c 0) (.c 0)) x10_ (.c 2) x3_ (.c 0) (.c 0)) x10_ (.c 3) x4_ (.c 0) (.c 0)) x10_ (.c 4) x5_ (.c 0) (.c 0)) x10_ (.c 5) x6_ (.c 0) (.c 0))),(27,(.op .add (.v 27) (.c 1)))],[]⟩,[(0,0),(1,1)],[],[]⟩;.cut (((.lt (.v 27) (.v 1)),.true)::f7_) 1 i_ [] (shT uBrk_T1 i_)),
  (.bad (((.lt (.v 27) (.v 1)),.false)::f7_)),
  (.bad (((.lt x10_ (.v 1)),.false)::f5_)),
  (.bad (((.le (.c 0) x10_),.false)::f3_)),
  (.fin (((.le (.v 27) x8_),.false)::f0_) 0 ⟨⟨[],[]⟩,[(0,0)],[],[]⟩ [(.ar [(.nt .i64),(.nt .i64),(.nt .i64),(.nt .i64),(.nt .i64),(.nt .i64)] (.ap 49 (.v 0) (.v 1) (.v 5) (.v 6) (.c 0) (.c 0)) (.v 28) (.v 1))] [.none])]
def uBrk_run (T:Tm):=(ex (ccM Try.prog BF [58,84]) ((fun cc=>[uNxt.ent cc,uXor.ent cc]) (ccM Try.prog BF [58,84])) (dw (ccM Try.prog BF [58,84]) ((fun cc=>[uNxt.ent cc,uXor.ent cc]) (ccM Try.prog BF [58,84])) 1000 4) (stopX []) 4000 T.f T.fs T.H).lfsM 1 (ccM Try.prog BF [58,84]) ((tmM uBrk Try.f159 (Try.f159.body.getD .skip))::[uBrk_T1]) uBrk.os
theorem uBrk_h0:uBrk_run (tmM uBrk Try.f159 (Try.f159.body.getD .skip))=some uBrk_L0:=by kernel_rfl
theorem uBrk_h1:uBrk_run uBrk_T1=some uBrk_L1:=by kernel_rfl
def uBrk_inv:(Nat→Int)→(Nat→Bool)→Nat→(Nat→Int)→(Nat→Bool)→Prop:=fun iv0 _ k iv _=>match k with
 | 0=>True
 | _=>0≤iv0 5∧8≤iv0 6 - iv0 5∧(iv0 5+(iv0 6 - iv0 5) / 4 * 2 - 1)≤iv 27∧iv 27≤(iv0 5+(iv0 6 - iv0 5) / 4 * 2 - 1)+3∧0≤iv 29∧iv 29≤18446744073709551615∧bpR (iv0 5).toNat (iv0 6 - iv0 5).toNat (1 <<< Sort.bitsLen (iv0 6 - iv0 5).toNat) ((iv0 5+(iv0 6 - iv0 5) / 4 * 2 - 1)+3 - iv 27).toNat (iv 27).toNat (UInt64.ofNat (iv 29).toNat,arrOf (iv 28) (iv0 1))=Sort.breakPatterns (arrOf (iv0 0) (iv0 1)) (iv0 5).toNat (iv0 6).toNat
def uBrk_mu:(Nat→Int)→(Nat→Bool)→Nat→(Nat→Int)→(Nat→Bool)→Nat:=fun iv0 _ k iv _=>match k with | 0=>2 ^ 80 | _=>((iv0 5+(iv0 6 - iv0 5) / 4 * 2 - 1)+3 - iv 27).toNat
theorem uBrk_b {iv0:Nat→Int} (hin:InB uBrk.B iv0):(0≤iv0 1∧iv0 1≤1000)∧((-9223372036854775808)≤iv0 4∧iv0 4≤9223372036854775807):=by
 have b1:=hin 1 0 1000 (by simp [uBrk,kU,ints,i64s,lmap,i64b,dU,cmpV,mU,bU,fU,leF,ltF,tU,nu,mS,ltAt,mS',tM,tC,nxU,x58,x56,x57])
 simp only [Int.reduceLE,reduceIte,Int.reduceNeg] at b1
 have b4:=hin 4 (-9223372036854775808) 9223372036854775807 (by simp [uBrk,kU,ints,i64s,lmap,i64b,dU,cmpV,mU,bU,fU,leF,ltF,tU,nu,mS,ltAt,mS',tM,tC,nxU,x58,x56,x57])
 simp only [Int.reduceLE,reduceIte,Int.reduceNeg] at b4
 exact ⟨b1,b4⟩
def uBrk_ob (k:Nat) (l:List Lf):Prop:=∀ (kv:Kv) (iv0:Nat→Int) (bv0:Nat→Bool),InB uBrk.B iv0→FT (sta FI FB kv iv0 bv0) (dlt dyn0) uBrk.F→∀ (iv:Nat→Int) (bv:Nat→Bool),Agr 7 iv0 bv0 iv bv→uBrk_inv iv0 bv0 k iv bv→∀ lf∈l,LfT (sta FI FB kv) uBrk.os (uBrk_inv iv0 bv0) (uBrk_mu iv0 bv0) k iv bv lf
theorem uBrk_o0:uBrk_ob 0 uBrk_L0:=by
 intro kv iv0 bv0 hin hF iv bv ha hi
 unfold uBrk_L0
 refine List.forall_mem_cons.2 ⟨?_,List.forall_mem_cons.2 ⟨?_,List.forall_mem_nil _⟩⟩
 all_goals
  intro δ hf
 all_goals
  obtain ⟨b1,b4⟩:=uBrk_b hin
 all_goals
  have a0:=ha.1 0 (by omega)
  have a1:=ha.1 1 (by omega)
  have a2:=ha.1 2 (by omega)
  have a3:=ha.1 3 (by omega)
  have a4:=ha.1 4 (by omega)
  have a5:=ha.1 5 (by omega)
  have a6:=ha.1 6 (by omega)
 all_goals
  simp only [FT,TP,SB.tp,SI.tv,sta,IB.eval,and_true,true_and,ObsT,Ob.Tv,rowT,kix,In.tiv,↓tbvT,In.tbv,get_cons,get_nil,reduceIte,Nat.reduceEqDiff,Int.reduceToNat,Int.reduceAdd,Int.reduceSub,Int.reduceLE,Int.reduceLT,Int.reduceEq,ne_eq,Bool.false_eq_true,not_true_eq_false,not_false_eq_true,true_iff,false_iff,iff_true,iff_false,false_implies,implies_true,decT,decide_true,decide_false,Bool.decide_eq_true,ap2,pb2,FI_3,FI_8,FI_9,FI_3g,FI_8m,Int.toNat_natCast,Int.toNat_zero,FI_49,FI_56,FI_58,uBrk_inv,uBrk_mu,uBrk,o1,othT,kU,ints,i64s,lmap,i64b,dU,cmpV,mU,bU,fU,leF,ltF,tU,nu,mS,ltAt,mS',tM,tC,nxU,x58,x56,x57,a0,a1,a2,a3,a4,a5,a6] at hf hi ⊢
 all_goals
  have hq:(iv0 6 - iv0 5).tdiv 4=(iv0 6 - iv0 5) / 4:=Int.tdiv_eq_ediv_of_nonneg (by omega)
  try simp only [hq] at hf ⊢
  try (simp (disch:=omega) only [i64_in] at hf ⊢)
 all_goals
  try rw [u64_in _ (by omega)]
 all_goals
  (repeat' (with_reducible apply And.intro))<;>first
  | omega
  | assumption
  | (unfold inM;omega)
  | (rw [show ((iv0 5+(iv0 6 - iv0 5) / 4 * 2 - 1)+3 - (iv0 5+(iv0 6 - iv0 5) / 4 * 2+-1)).toNat=3 by omega,show (iv0 5+(iv0 6 - iv0 5) / 4 * 2+-1)=(iv0 5+(iv0 6 - iv0 5) / 4 * 2 - 1) by omega];exact bp_0 (by omega) (by omega))
  | (exact rows6 (bp_no (by omega) (by omega)))
theorem uBrk_o1:uBrk_ob 1 uBrk_L1:=by
 intro kv iv0 bv0 hin hF iv bv ha hi
 unfold uBrk_L1
 refine List.forall_mem_cons.2 ⟨?_,List.forall_mem_cons.2 ⟨?_,List.forall_mem_cons.2 ⟨?_,List.forall_mem_cons.2 ⟨?_,List.forall_mem_cons.2 ⟨?_,List.forall_mem_cons.2 ⟨?_,List.forall_mem_cons.2 ⟨?_,List.forall_mem_cons.2 ⟨?_,List.forall_mem_cons.2 ⟨?_,List.forall_mem_nil _⟩⟩⟩⟩⟩⟩⟩⟩⟩
 all_goals
  intro δ hf
 all_goals
  obtain ⟨b1,b4⟩:=uBrk_b hin
 all_goals
  have a0:=ha.1 0 (by omega)
  have a1:=ha.1 1 (by omega)
  have a2:=ha.1 2 (by omega)
  have a3:=ha.1 3 (by omega)
  have a4:=ha.1 4 (by omega)
  have a5:=ha.1 5 (by omega)
  have a6:=ha.1 6 (by omega)
 all_goals
  simp only [FT,TP,SB.tp,SI.tv,sta,IB.eval,and_true,true_and,ObsT,Ob.Tv,rowT,kix,In.tiv,↓tbvT,In.tbv,get_cons,get_nil,reduceIte,Nat.reduceEqDiff,Int.reduceToNat,Int.reduceAdd,Int.reduceSub,Int.reduceLE,Int.reduceLT,Int.reduceEq,ne_eq,Bool.false_eq_true,not_true_eq_false,not_false_eq_true,true_iff,false_iff,iff_true,iff_false,false_implies,implies_true,decT,decide_true,decide_false,Bool.decide_eq_true,ap2,pb2,FI_3,FI_8,FI_9,FI_3g,FI_8m,Int.toNat_natCast,Int.toNat_zero,FI_49,FI_56,FI_58,uBrk_inv,uBrk_mu,uBrk,o1,othT,kU,ints,i64s,lmap,i64b,dU,cmpV,mU,bU,fU,leF,ltF,tU,nu,mS,ltAt,mS',tM,tC,nxU,x58,x56,x57,a0,a1,a2,a3,a4,a5,a6] at hf hi ⊢
 all_goals
  obtain ⟨g0,g1,g2,g3,g4,g5,g6⟩:=hi
  obtain ⟨R,hR⟩:∃ R:UInt64,R=Sort.xorNext (UInt64.ofNat (iv 29).toNat):=⟨_,rfl⟩
  obtain ⟨M,hM⟩:∃ M:Nat,M=1 <<< Sort.bitsLen (iv0 6 - iv0 5).toNat:=⟨_,rfl⟩
  have hMb:M≤2 * (iv0 6 - iv0 5).toNat:=by rw [hM];exact pow_bitsLen (by omega)
  have hM1:1≤M:=by rw [hM,Nat.shiftLeft_eq];have:=Nat.two_pow_pos (Sort.bitsLen (iv0 6 - iv0 5).toNat);omega
  have hRl:=R.toNat_lt
  have w1:IntKind.u64.wrap ((M:Int)+-1)=((M - 1:Nat):Int):=by rw [IntKind.wrap_u64];omega
  obtain ⟨o,ho⟩:∃ o:Nat,o=R.toNat &&& (M - 1):=⟨_,rfl⟩
  have ho2:o≤M - 1:=by rw [ho];exact Nat.and_le_right
  try simp only [← hR,← hM,w1,bx_and R.toNat (M - 1) (by omega) (by omega),← ho] at hf ⊢
  try simp only [← hM] at g6
  have v1:IntKind.i64.wrap (o:Int)=o:=i64_in _ (by omega)
  have v2:IntKind.i64.wrap ((o:Int) - (iv0 6 - iv0 5))=o - (iv0 6 - iv0 5):=i64_in _ (by omega)
  have v3:IntKind.i64.wrap (iv0 5+((o:Int) - (iv0 6 - iv0 5)))=iv0 5+(o - (iv0 6 - iv0 5)):=i64_in _ (by omega)
  have v4:IntKind.i64.wrap (iv0 5+(o:Int))=iv0 5+o:=i64_in _ (by omega)
  try simp only [v1,v2,v3,v4] at hf ⊢
 all_goals
  have hq:(iv0 6 - iv0 5).tdiv 4=(iv0 6 - iv0 5) / 4:=Int.tdiv_eq_ediv_of_nonneg (by omega)
  try simp only [hq] at hf ⊢
  try (simp (disch:=omega) only [i64_in] at hf ⊢)
 all_goals
  (repeat' (with_reducible apply And.intro))<;>first
  | omega
  | assumption
  | (unfold inM;omega)
  | (rw [show ((iv0 5+(iv0 6 - iv0 5) / 4 * 2 - 1)+3 - iv 27).toNat=((iv0 5+(iv0 6 - iv0 5) / 4 * 2 - 1)+3 - (iv 27+1)).toNat+1 by omega,bp_go (i2:=(iv0 5+((o:Int) - (iv0 6 - iv0 5))).toNat) hR ho (by rw [if_pos (by omega)];omega)] at g6;rw [swp12 (by omega) (by omega) (by omega) (by omega),show UInt64.ofNat R.toNat=R by simp,show (iv 27+1).toNat=(iv 27).toNat+1 by omega];exact g6)
  | (rw [show ((iv0 5+(iv0 6 - iv0 5) / 4 * 2 - 1)+3 - iv 27).toNat=((iv0 5+(iv0 6 - iv0 5) / 4 * 2 - 1)+3 - (iv 27+1)).toNat+1 by omega,bp_go (i2:=(iv0 5+(o:Int)).toNat) hR ho (by rw [if_neg (by omega)];omega)] at g6;rw [swp12 (by omega) (by omega) (by omega) (by omega),show UInt64.ofNat R.toNat=R by simp,show (iv 27+1).toNat=(iv 27).toNat+1 by omega];exact g6)
  | (rw [show ((iv0 5+(iv0 6 - iv0 5) / 4 * 2 - 1)+3 - iv 27).toNat=0 by omega] at g6;exact rows6 g6)
theorem uBrk_c:LsCM 1 ((tmM uBrk Try.f159 (Try.f159.body.getD .skip))::[uBrk_T1]) uBrk.os [uBrk_L0,uBrk_L1]:=by
 unfold uBrk_L0 uBrk_L1
 exact ⟨List.forall_mem_cons.2 ⟨⟨⟨⟨_,rfl,rfl⟩,by kernel_rfl⟩,by kernel_rfl⟩,List.forall_mem_cons.2 ⟨⟨⟨⟨_,rfl,rfl⟩,by kernel_rfl⟩,by kernel_rfl⟩,List.forall_mem_nil _⟩⟩,List.forall_mem_cons.2 ⟨⟨⟨⟨_,rfl,rfl⟩,by kernel_rfl⟩,by kernel_rfl⟩,List.forall_mem_cons.2 ⟨⟨trivial,rfl⟩,List.forall_mem_cons.2 ⟨⟨trivial,rfl⟩,List.forall_mem_cons.2 ⟨⟨trivial,rfl⟩,List.forall_mem_cons.2 ⟨⟨⟨⟨_,rfl,rfl⟩,by kernel_rfl⟩,by kernel_rfl⟩,List.forall_mem_cons.2 ⟨⟨trivial,rfl⟩,List.forall_mem_cons.2 ⟨⟨trivial,rfl⟩,List.forall_mem_cons.2 ⟨⟨trivial,rfl⟩,List.forall_mem_cons.2 ⟨⟨⟨⟨_,rfl,rfl⟩,by kernel_rfl⟩,by kernel_rfl⟩,List.forall_mem_nil _⟩⟩⟩⟩⟩⟩⟩⟩⟩,trivial⟩
theorem uBrk_ok:uBrk.Ok Try.prog FI FB:=
 Com.of_plain (body:=Try.f159.body.getD .skip) pok fiok (EntsFor.cons uNxt_ok (EntsFor.consM uXor_ok EntsFor.nil)) uBrk Try.func159 (by kernel_rfl) 7 [uBrk_T1] (by kernel_rfl) [uBrk_L0,uBrk_L1] ⟨uBrk_h0,uBrk_h1,trivial⟩ uBrk_c
  uBrk_inv uBrk_mu (fun _ _ _=>trivial) fun kv iv0 bv0 hin hF k l iv bv hk ha hi=>match k,hk,hi with
  | 0,hk,hi=>by
    cases hk
    exact uBrk_o0 kv iv0 bv0 hin hF iv bv ha hi
  | 1,hk,hi=>by
    cases hk
    exact uBrk_o1 kv iv0 bv0 hin hF iv bv ha hi
  | k+2,hk,_=>by simp at hk
end
end Go.Sx.Mhw
