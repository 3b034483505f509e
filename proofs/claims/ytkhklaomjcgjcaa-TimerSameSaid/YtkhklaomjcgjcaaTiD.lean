/- Timers: what is computed, as symbols. -/
import Derived.Test.YtkhklaomjcgjcaaTiS
import Derived.Test.YtkhklaomjcgjcaaProg
namespace Go.Sx.Ti
noncomputable section
set_option linter.unusedSimpArgs false
set_option linter.unusedVariables false
open Go Go.Sx Go.Proofs
def U:FIx:=fun i a b d e f g=>match i with
 | 20=>KS a
 | 21=>RS a b d
 | 22=>dueC a b
 | 23=>rmC a b
 | 24=>posT a b d e
 | 25=>insT a b d e f
 | 26=>fndT a b d
 | 27=>delT a b d
 | 28=>dueT a b d
 | 29=>TS a
 | 30=>colT a b
 | _=>0
def V:FBx:=fun i a b d e f g=>match i with
 | 20=>decide (kinC a)
 | 21=>decide (relO a b d e)
 | 22=>decide (eqMC a b)
 | 23=>decide (sameI a b d e)
 | _=>false
def FI:FIx:=mkFI U
def FB:FBx:=mkFB V
def BFu:List (Nat×Int×Int):=[(22,0,4096),(24,0,4096),(26,-1,4095),(28,0,4096)]
def BF:List (Nat×Int×Int):=lapp BF0 BFu
theorem fiok:FiOk FI FB BF:=by
 refine fiOk fun i a b hm=>?_
 simp only [BFu,List.mem_cons,List.not_mem_nil,or_false,Prod.mk.injEq] at hm
 rcases hm with ⟨rfl,rfl,rfl⟩ | ⟨rfl,rfl,rfl⟩ | ⟨rfl,rfl,rfl⟩ | ⟨rfl,rfl,rfl⟩
 all_goals
  refine ⟨by omega,fun x0 x1 x2 x3 x4 x5=>?_⟩
 ·exact dueC_in x0 x1
 ·exact posT_in x0 x1 x2 x3
 ·exact fndT_in x0 x1 x2
 ·exact dueT_in x0 x1 x2
set_option maxRecDepth 100000 in
theorem pok:POk Try.prog [62,32]:=POk.of (by kernel_rfl) (by kernel_rfl) (by kernel_rfl)
def o1 (z:SV):List Out:=[⟨[],z,[],0,0,[]⟩]
def i64b (i:Nat):Nat×Int×Int:=(i,-9223372036854775808,9223372036854775807)
def ints (l:List Nat):List SV:=lmap (fun i=>SV.it .i64 (.v i)) l
def i64s (l:List Nat):List (Nat×Int×Int):=lmap i64b l
theorem decT {p:Prop} {i:Decidable p}:(@decide p i=true)=p:=propext ⟨of_decide_eq_true,decide_eq_true⟩
theorem tbvT {I:In} {S:Sta} {δ:Nat→Int} {j:Nat}:(In.tbv I S δ j=true)=(match get I.s.b j with | some e=>e.tp S δ | none=>S.bv j=true):=by
 unfold In.tbv
 cases get I.s.b j with
 | none=>rfl
 | some e=>exact decT
def ap2 (f:Nat):SI:=.ap f (.v 0) (.v 1) (.c 0) (.c 0) (.c 0) (.c 0)
def pb2 (f:Nat):SB:=.ap f (.v 0) (.v 1) (.c 0) (.c 0) (.c 0) (.c 0)
theorem FI_3 (c j f b d:Int):FI 3 c j f 0 b d=fl c j.toNat f.toNat:=by simp [FI,mkFI,fl,kindI]
theorem FI_8 (c j f x b:Int):FI 8 c j f x 0 b=setC c j f x:=by simp [FI,mkFI,mapF]
theorem FI_9 (c i c' i' n a:Int):FI 9 c i c' i' n a=blitC c i c' i' n:=rfl
theorem FI_3g (c x b d:Int):FI 3 c x 0 1 b d=mg c x:=by simp [FI,mkFI,kindI,mg]
theorem FI_3k (c x z b d:Int):FI 3 c x z 2 b d=IntKind.i64.wrap (keyC c x):=by simp [FI,mkFI,kindI]
theorem FI_8s (c x y z b:Int):FI 8 c x z y 1 b=setM c x y:=by simp [FI,mkFI,mapF]
theorem FI_8l (c x y z b:Int):FI 8 c x z y 2 b=lenC c:=by simp [FI,mkFI,mapF]
theorem FI_8d (c x y z b:Int):FI 8 c x z y 3 b=delM c x:=by simp [FI,mkFI,mapF]
theorem FB_1h (c x d e f:Int):(FB 1 c x 0 d e f=true)=(hasC c x=true):=by simp [FB,mkFB]
theorem FB_1a (c x d e f:Int):(FB 1 c x 1 d e f=true)=(∀ y,hasC c y=true→hasC x y=true):=by simp [FB,mkFB,allC]
theorem FIu (i:Nat) (a b c d e f:Int) (h:10≤i):FI i a b c d e f=U i a b c d e f:=by
 unfold FI mkFI;rw [if_neg (by omega),if_neg (by omega),if_neg (by omega)]
theorem FBu (i:Nat) (a b c d e f:Int) (h:10≤i):FB i a b c d e f=V i a b c d e f:=by
 unfold FB mkFB;rw [if_neg (by omega),if_neg (by omega)]
theorem FI_20 (a b c d e f:Int):FI 20 a b c d e f=KS a:=FIu 20 _ _ _ _ _ _ (by omega)
theorem FI_21 (a b c d e f:Int):FI 21 a b c d e f=RS a b c:=FIu 21 _ _ _ _ _ _ (by omega)
theorem FI_22 (a b c d e f:Int):FI 22 a b c d e f=dueC a b:=FIu 22 _ _ _ _ _ _ (by omega)
theorem FI_23 (a b c d e f:Int):FI 23 a b c d e f=rmC a b:=FIu 23 _ _ _ _ _ _ (by omega)
theorem FI_24 (a b c d e f:Int):FI 24 a b c d e f=posT a b c d:=FIu 24 _ _ _ _ _ _ (by omega)
theorem FI_25 (a b c d e f:Int):FI 25 a b c d e f=insT a b c d e:=FIu 25 _ _ _ _ _ _ (by omega)
theorem FI_26 (a b c d e f:Int):FI 26 a b c d e f=fndT a b c:=FIu 26 _ _ _ _ _ _ (by omega)
theorem FI_27 (a b c d e f:Int):FI 27 a b c d e f=delT a b c:=FIu 27 _ _ _ _ _ _ (by omega)
theorem FI_28 (a b c d e f:Int):FI 28 a b c d e f=dueT a b c:=FIu 28 _ _ _ _ _ _ (by omega)
theorem FI_30 (a b c d e f:Int):FI 30 a b c d e f=colT a b:=FIu 30 _ _ _ _ _ _ (by omega)
theorem FB_20 (a b c d e f:Int):(FB 20 a b c d e f=true)=(kinC a):=by rw [FBu 20 _ _ _ _ _ _ (by omega)];simp [V]
theorem FB_21 (a b c d e f:Int):(FB 21 a b c d e f=true)=(relO a b c d):=by rw [FBu 21 _ _ _ _ _ _ (by omega)];simp [V]
theorem FB_22 (a b c d e f:Int):(FB 22 a b c d e f=true)=(eqMC a b):=by rw [FBu 22 _ _ _ _ _ _ (by omega)];simp [V]
theorem FB_23 (a b c d e f:Int):(FB 23 a b c d e f=true)=(sameI a b c d):=by rw [FBu 23 _ _ _ _ _ _ (by omega)];simp [V]
end
end Go.Sx.Ti
