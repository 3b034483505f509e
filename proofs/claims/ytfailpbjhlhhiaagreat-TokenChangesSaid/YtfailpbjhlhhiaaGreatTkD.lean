/- Tokens: what is computed, as symbols. -/
import Derived.Test.YtfailpbjhlhhiaaGreatTkS
import Derived.Test.YtfailpbjhlhhiaaGreatSxHd
import Derived.Test.YtfailpbjhlhhiaaGreatProg
namespace Go.Sx.Tk
noncomputable section
set_option linter.unusedSimpArgs false
set_option linter.unusedVariables false
open Go Go.Sx Go.Proofs
def U:FIx:=fun i a b d e f g=>match i with
 | 10=>if inM a∧inM b then 0 else 130
 | 12=>if allM a b then 0 else 130
 | 20=>modesC a b
 | 21=>fndC a b d
 | 22=>delC a b d
 | 31=>delW a b d
 | 60=>and2 a b d e f
 | 61=>andL a b d e
 | 62=>andR a b d
 | 63=>andS a b d e f g
 | 64=>andT a b d e
 | 65=>andC a b d e
 | 66=>newN a b d e f g
 | 67=>zerC a
 | 70=>IntKind.i64.wrap (onOk (cE a b d e) (a+e))
 | 71=>IntKind.i64.wrap (onOk (cE a b d e) b)
 | 72=>IntKind.u64.wrap (onOk (cE a b d e) (d+1))
 | 73=>cE a b d e
 | 74=>IntKind.i64.wrap (onOk (xE a b d e) (a+e))
 | 75=>IntKind.i64.wrap (onOk (xE a b d e) b)
 | 76=>IntKind.u64.wrap (onOk (xE a b d e) (d+1))
 | 77=>xE a b d e
 | 78=>chgE a b d e f
 | 79=>valE a b d e
 | _=>0
def V:FBx:=fun i a b d e f g=>match i with
 | 10=>decide (inM a∧inM b∧fitP a b)
 | 12=>decide (fitP a b)
 | 14=>decide (allM a b∧togA a b)
 | 16=>decide (togA a b)
 | 20=>decide (rgtP a b)
 | 22=>decide (fitsP a b d)
 | 23=>decide (mayP a b d)
 | 24=>decide (endP a b d e)
 | 25=>decide (hasP a b d)
 | 30=>decide (rgtW a b)
 | 32=>decide (mayW a b d e f)
 | 33=>decide (hasW a b d)
 | 40=>decide (shpR a b d)
 | 42=>decide (sitR a b d e f)
 | 43=>decide (lisR a b d)
 | 60=>decide (eqL a b d)
 | 61=>decide (eqR a b)
 | _=>false
def FI:FIx:=mkFI U
def FB:FBx:=mkFB V
def BFu:List (Nat×Int×Int):=[(10,0,130),(12,0,130),(21,-1,4095),(70,-9223372036854775808,9223372036854775807),(71,-9223372036854775808,9223372036854775807),(72,0,18446744073709551615),(73,0,200),(74,-9223372036854775808,9223372036854775807),(75,-9223372036854775808,9223372036854775807),(76,0,18446744073709551615),(77,0,200),(78,0,300),(79,0,300)]
def BF:List (Nat×Int×Int):=lapp BF0 BFu
theorem fiok:FiOk FI FB BF:=by
 refine fiOkR fun i a b hm=>?_
 simp only [BFu,List.mem_cons,List.not_mem_nil,or_false,Prod.mk.injEq] at hm
 rcases hm with ⟨rfl,rfl,rfl⟩ | ⟨rfl,rfl,rfl⟩ | ⟨rfl,rfl,rfl⟩ | ⟨rfl,rfl,rfl⟩ | ⟨rfl,rfl,rfl⟩ | ⟨rfl,rfl,rfl⟩ | ⟨rfl,rfl,rfl⟩ | ⟨rfl,rfl,rfl⟩ | ⟨rfl,rfl,rfl⟩ | ⟨rfl,rfl,rfl⟩ | ⟨rfl,rfl,rfl⟩ | ⟨rfl,rfl,rfl⟩ | ⟨rfl,rfl,rfl⟩
 all_goals
  refine ⟨by omega,fun x0 x1 x2 x3 x4 x5=>?_⟩
 ·exact inR_of (by simp only [U];split<;>omega)
 ·exact inR_of (by simp only [U];split<;>omega)
 ·exact inR_of (fstI_lt _ _ 4095 (by omega) (by omega))
 ·exact inR_of (i64_has _)
 ·exact inR_of (i64_has _)
 ·exact inR_of (u64_has _)
 ·exact inR_of (cE_in ..)
 ·exact inR_of (i64_has _)
 ·exact inR_of (i64_has _)
 ·exact inR_of (u64_has _)
 ·exact inR_of (xE_in ..)
 ·exact inR_of (chgE_in ..)
 ·exact inR_of (valE_in ..)
set_option maxRecDepth 100000 in
theorem pok:POk Tryz.prog [29,73,75,100]:=POk.of (by kernel_rfl) (by kernel_rfl) (by kernel_rfl)
def o1 (z:SV):List Out:=[⟨[],z,[],0,0,[]⟩]
def i64b (i:Nat):Nat×Int×Int:=(i,-9223372036854775808,9223372036854775807)
def u64b (i:Nat):Nat×Int×Int:=(i,0,18446744073709551615)
def ints (l:List Nat):List SV:=lmap (fun i=>SV.it .i64 (.v i)) l
def i64s (l:List Nat):List (Nat×Int×Int):=lmap i64b l
def ap2 (f:Nat):SI:=.ap f (.v 0) (.v 1) (.c 0) (.c 0) (.c 0) (.c 0)
def pb2 (f:Nat):SB:=.ap f (.v 0) (.v 1) (.c 0) (.c 0) (.c 0) (.c 0)
def flF (i:Nat) (k:Int):SB×Bool:=(.le (SI.fl (.v i)) (.c k),true)
theorem decT {p:Prop} {i:Decidable p}:(@decide p i=true)=p:=propext ⟨of_decide_eq_true,decide_eq_true⟩
theorem tbvT {I:In} {S:Sta} {δ:Nat→Int} {j:Nat}:(In.tbv I S δ j=true)=(match get I.s.b j with | some e=>e.tp S δ | none=>S.bv j=true):=by
 unfold In.tbv
 cases get I.s.b j with
 | none=>rfl
 | some e=>exact decT
theorem FI_3 (c j f b d:Int):FI 3 c j f 0 b d=fl c j.toNat f.toNat:=by simp [FI,mkFI,fl,kindI]
theorem FI_3g (c x b d:Int):FI 3 c x 0 1 b d=mg c x:=by simp [FI,mkFI,kindI,mg]
theorem FI_4 (c j f b d:Int):FI 4 c j f 0 b d=by8 c j.toNat f.toNat:=by simp [FI,mkFI,by8,kindI]
theorem FI_8 (c j f x b:Int):FI 8 c j f x 0 b=setC c j f x:=by simp [FI,mkFI,mapF]
theorem FI_8m (c x y b:Int):FI 8 c x 0 y 1 b=setM c x y:=by simp [FI,mkFI,mapF]
theorem FI_9 (c i c' i' n a:Int):FI 9 c i c' i' n a=blitC c i c' i' n:=rfl
theorem FI_8c (c j f x b:Int):FI 8 c j f x 10 b=gt c j.toNat f.toNat:=by simp [FI,mkFI,mapF]
theorem FI_8z (c n f x b:Int):FI 8 c n f x 11 b=frzC n c:=by simp [FI,mkFI,mapF]
theorem FI_200 (c j f x b d:Int):FI 200 c j f x b d=flenC c:=by simp [FI,mkFI]
theorem FB_0 (c j f b d e:Int):(FB 0 c j f b d e=true)=(bt c j.toNat f.toNat):=by simp [FB,mkFB,bt]
theorem FB_2 (a b c d e f:Int):(FB 2 a b c d e f=true)=(bytesC a=bytesC b):=by simp [FB,mkFB]
theorem FIu (i:Nat) (a b c d e f:Int) (h:10≤i∧i < 200):FI i a b c d e f=U i a b c d e f:=by
 unfold FI mkFI;rw [if_neg (by omega),if_neg (by omega),if_neg (by omega),if_neg (by omega)]
theorem FBu (i:Nat) (a b c d e f:Int) (h:10≤i):FB i a b c d e f=V i a b c d e f:=by
 unfold FB mkFB;rw [if_neg (by omega),if_neg (by omega),if_neg (by omega)]
theorem FI_10 (a b c d e f:Int):FI 10 a b c d e f=if inM a∧inM b then 0 else 130:=FIu 10 _ _ _ _ _ _ (by omega)
theorem FI_12 (a b c d e f:Int):FI 12 a b c d e f=if allM a b then 0 else 130:=FIu 12 _ _ _ _ _ _ (by omega)
theorem FI_20 (a b c d e f:Int):FI 20 a b c d e f=modesC a b:=FIu 20 _ _ _ _ _ _ (by omega)
theorem FI_21 (a b c d e f:Int):FI 21 a b c d e f=fndC a b c:=FIu 21 _ _ _ _ _ _ (by omega)
theorem FI_22 (a b c d e f:Int):FI 22 a b c d e f=delC a b c:=FIu 22 _ _ _ _ _ _ (by omega)
theorem FI_60 (a b c d e f:Int):FI 60 a b c d e f=and2 a b c d e:=FIu 60 _ _ _ _ _ _ (by omega)
theorem FI_61 (a b c d e f:Int):FI 61 a b c d e f=andL a b c d:=FIu 61 _ _ _ _ _ _ (by omega)
theorem FI_63 (a b c d e f:Int):FI 63 a b c d e f=andS a b c d e f:=FIu 63 _ _ _ _ _ _ (by omega)
theorem FI_64 (a b c d e f:Int):FI 64 a b c d e f=andT a b c d:=FIu 64 _ _ _ _ _ _ (by omega)
theorem FI_65 (a b c d e f:Int):FI 65 a b c d e f=andC a b c d:=FIu 65 _ _ _ _ _ _ (by omega)
theorem FI_70 (a b c d e f:Int):FI 70 a b c d e f=IntKind.i64.wrap (onOk (cE a b c d) (a+d)):=FIu 70 _ _ _ _ _ _ (by omega)
theorem FI_71 (a b c d e f:Int):FI 71 a b c d e f=IntKind.i64.wrap (onOk (cE a b c d) b):=FIu 71 _ _ _ _ _ _ (by omega)
theorem FI_72 (a b c d e f:Int):FI 72 a b c d e f=IntKind.u64.wrap (onOk (cE a b c d) (c+1)):=FIu 72 _ _ _ _ _ _ (by omega)
theorem FI_73 (a b c d e f:Int):FI 73 a b c d e f=cE a b c d:=FIu 73 _ _ _ _ _ _ (by omega)
theorem FI_74 (a b c d e f:Int):FI 74 a b c d e f=IntKind.i64.wrap (onOk (xE a b c d) (a+d)):=FIu 74 _ _ _ _ _ _ (by omega)
theorem FI_75 (a b c d e f:Int):FI 75 a b c d e f=IntKind.i64.wrap (onOk (xE a b c d) b):=FIu 75 _ _ _ _ _ _ (by omega)
theorem FI_76 (a b c d e f:Int):FI 76 a b c d e f=IntKind.u64.wrap (onOk (xE a b c d) (c+1)):=FIu 76 _ _ _ _ _ _ (by omega)
theorem FI_77 (a b c d e f:Int):FI 77 a b c d e f=xE a b c d:=FIu 77 _ _ _ _ _ _ (by omega)
theorem FI_78 (a b c d e f:Int):FI 78 a b c d e f=chgE a b c d e:=FIu 78 _ _ _ _ _ _ (by omega)
theorem FI_79 (a b c d e f:Int):FI 79 a b c d e f=valE a b c d:=FIu 79 _ _ _ _ _ _ (by omega)
theorem FB_10 (a b c d e f:Int):(FB 10 a b c d e f=true)=(inM a∧inM b∧fitP a b):=by rw [FBu 10 _ _ _ _ _ _ (by omega)];simp [V]
theorem FB_12 (a b c d e f:Int):(FB 12 a b c d e f=true)=(fitP a b):=by rw [FBu 12 _ _ _ _ _ _ (by omega)];simp [V]
theorem FB_14 (a b c d e f:Int):(FB 14 a b c d e f=true)=(allM a b∧togA a b):=by rw [FBu 14 _ _ _ _ _ _ (by omega)];simp [V]
theorem FB_16 (a b c d e f:Int):(FB 16 a b c d e f=true)=(togA a b):=by rw [FBu 16 _ _ _ _ _ _ (by omega)];simp [V]
theorem FB_20 (a b c d e f:Int):(FB 20 a b c d e f=true)=(rgtP a b):=by rw [FBu 20 _ _ _ _ _ _ (by omega)];simp [V]
theorem FB_22 (a b c d e f:Int):(FB 22 a b c d e f=true)=(fitsP a b c):=by rw [FBu 22 _ _ _ _ _ _ (by omega)];simp [V]
theorem FB_23 (a b c d e f:Int):(FB 23 a b c d e f=true)=(mayP a b c):=by rw [FBu 23 _ _ _ _ _ _ (by omega)];simp [V]
theorem FB_25 (a b c d e f:Int):(FB 25 a b c d e f=true)=(hasP a b c):=by rw [FBu 25 _ _ _ _ _ _ (by omega)];simp [V]
theorem FB_30 (a b c d e f:Int):(FB 30 a b c d e f=true)=(rgtW a b):=by rw [FBu 30 _ _ _ _ _ _ (by omega)];simp [V]
theorem FB_32 (a b c d e f:Int):(FB 32 a b c d e f=true)=(mayW a b c d e):=by rw [FBu 32 _ _ _ _ _ _ (by omega)];simp [V]
theorem FB_40 (a b c d e f:Int):(FB 40 a b c d e f=true)=(shpR a b c):=by rw [FBu 40 _ _ _ _ _ _ (by omega)];simp [V]
theorem FB_42 (a b c d e f:Int):(FB 42 a b c d e f=true)=(sitR a b c d e):=by rw [FBu 42 _ _ _ _ _ _ (by omega)];simp [V]
theorem FB_43 (a b c d e f:Int):(FB 43 a b c d e f=true)=(lisR a b c):=by rw [FBu 43 _ _ _ _ _ _ (by omega)];simp [V]
theorem FB_60 (a b c d e f:Int):(FB 60 a b c d e f=true)=(eqL a b c):=by rw [FBu 60 _ _ _ _ _ _ (by omega)];simp [V]
theorem FB_61 (a b c d e f:Int):(FB 61 a b c d e f=true)=(eqR a b):=by rw [FBu 61 _ _ _ _ _ _ (by omega)];simp [V]
end
end Go.Sx.Tk
