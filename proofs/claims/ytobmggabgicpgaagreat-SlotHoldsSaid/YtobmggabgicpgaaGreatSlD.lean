/- Slots: what is computed, as symbols. -/
import Derived.Test.YtobmggabgicpgaaGreatSlS
import Derived.Test.YtobmggabgicpgaaGreatProg
namespace Go.Sx.Sl
noncomputable section
set_option linter.unusedSimpArgs false
set_option linter.unusedVariables false
open Go Go.Sx Go.Sx.Ti Go.Proofs
def U:FIx:=fun i a b d e f g=>match i with
 | 20=>badI a b
 | 21=>freI a b
 | 22=>chkI a b d e f
 | 23=>latC a b d
 | 24=>latN a b d
 | 25=>latW a b d
 | 30=>KS a
 | 31=>RS a b d
 | _=>0
def V:FBx:=fun i a b d e f g=>match i with
 | 20=>decide (mayA a b d e f)
 | 21=>decide (mayB a b d e)
 | 22=>decide (rgtS a b)
 | 23=>decide (shpS a b d)
 | 24=>decide (sameS a b d e)
 | 30=>decide (kinC a)
 | _=>false
def FI:FIx:=mkFI U
def FB:FBx:=mkFB V
def BFu:List (Nat×Int×Int):=[(20,-1,63),(21,-1,63),(24,0,64)]
def BF:List (Nat×Int×Int):=lapp BF0 BFu
theorem fiok:FiOk FI FB BF:=by
 refine fiOk fun i a b hm=>?_
 simp only [BFu,List.mem_cons,List.not_mem_nil,or_false,Prod.mk.injEq] at hm
 rcases hm with ⟨rfl,rfl,rfl⟩ | ⟨rfl,rfl,rfl⟩ | ⟨rfl,rfl,rfl⟩
 all_goals
  refine ⟨by omega,fun x0 x1 x2 x3 x4 x5=>?_⟩
 ·exact badI_in x0 x1
 ·exact freI_in x0 x1
 ·exact latN_in x0 x1 x2
set_option maxRecDepth 100000 in
theorem pok:POk Tryz.prog [55,53,52,54]:=POk.of (by kernel_rfl) (by kernel_rfl) (by kernel_rfl)
def o1 (z:SV):List Out:=[⟨[],z,[],0,0,[]⟩]
def i64b (i:Nat):Nat×Int×Int:=(i,-9223372036854775808,9223372036854775807)
def ints (l:List Nat):List SV:=lmap (fun i=>SV.it .i64 (.v i)) l
def i64s (l:List Nat):List (Nat×Int×Int):=lmap i64b l
theorem decT {p:Prop} {i:Decidable p}:(@decide p i=true)=p:=propext ⟨of_decide_eq_true,decide_eq_true⟩
theorem tbvT {I:In} {S:Sta} {δ:Nat→Int} {j:Nat}:(In.tbv I S δ j=true)=(match get I.s.b j with | some e=>e.tp S δ | none=>S.bv j=true):=by
 unfold In.tbv
 cases get I.s.b j with
 | none=>rfl
 | some e=>exact decT
def ap2 (f:Nat):SI:=.ap f (.v 0) (.v 1) (.c 0) (.c 0) (.c 0) (.c 0)
def pb2 (f:Nat):SB:=.ap f (.v 0) (.v 1) (.c 0) (.c 0) (.c 0) (.c 0)
theorem FI_3 (c j f b d:Int):FI 3 c j f 0 b d=fl c j.toNat f.toNat:=by simp [FI,mkFI,fl,kindI]
theorem FI_3u (c j f b d:Int):FI 7 c j f 0 b d=flu c j.toNat f.toNat:=by simp [FI,mkFI,flu,kindI]
theorem FI_8 (c j f x b:Int):FI 8 c j f x 0 b=setC c j f x:=by simp [FI,mkFI,mapF]
theorem FI_9 (c i c' i' n a:Int):FI 9 c i c' i' n a=blitC c i c' i' n:=rfl
theorem FI_3g (c x b d:Int):FI 3 c x 0 1 b d=mg c x:=by simp [FI,mkFI,kindI,mg]
theorem FI_3k (c x z b d:Int):FI 3 c x z 2 b d=IntKind.i64.wrap (keyC c x):=by simp [FI,mkFI,kindI]
theorem FI_8s (c x y z b:Int):FI 8 c x z y 1 b=setM c x y:=by simp [FI,mkFI,mapF]
theorem FI_8l (c x y z b:Int):FI 8 c x z y 2 b=lenC c:=by simp [FI,mkFI,mapF]
theorem FI_8d (c x y z b:Int):FI 8 c x z y 3 b=delM c x:=by simp [FI,mkFI,mapF]
theorem FB_1h (c x d e f:Int):(FB 1 c x 0 d e f=true)=(hasC c x=true):=by simp [FB,mkFB]
theorem FB_1a (c x d e f:Int):(FB 1 c x 1 d e f=true)=(∀ y,hasC c y=true→hasC x y=true):=by simp [FB,mkFB,allC]
theorem FIu (i:Nat) (a b c d e f:Int) (h:10≤i):FI i a b c d e f=U i a b c d e f:=by
 unfold FI mkFI;rw [if_neg (by omega),if_neg (by omega),if_neg (by omega)]
theorem FBu (i:Nat) (a b c d e f:Int) (h:10≤i):FB i a b c d e f=V i a b c d e f:=by
 unfold FB mkFB;rw [if_neg (by omega),if_neg (by omega)]
theorem FI_20 (a b c d e f:Int):FI 20 a b c d e f=badI a b:=FIu 20 _ _ _ _ _ _ (by omega)
theorem FI_21 (a b c d e f:Int):FI 21 a b c d e f=freI a b:=FIu 21 _ _ _ _ _ _ (by omega)
theorem FI_22 (a b c d e f:Int):FI 22 a b c d e f=chkI a b c d e:=FIu 22 _ _ _ _ _ _ (by omega)
theorem FI_23 (a b c d e f:Int):FI 23 a b c d e f=latC a b c:=FIu 23 _ _ _ _ _ _ (by omega)
theorem FI_24 (a b c d e f:Int):FI 24 a b c d e f=latN a b c:=FIu 24 _ _ _ _ _ _ (by omega)
theorem FI_25 (a b c d e f:Int):FI 25 a b c d e f=latW a b c:=FIu 25 _ _ _ _ _ _ (by omega)
theorem FI_30 (a b c d e f:Int):FI 30 a b c d e f=KS a:=FIu 30 _ _ _ _ _ _ (by omega)
theorem FI_31 (a b c d e f:Int):FI 31 a b c d e f=RS a b c:=FIu 31 _ _ _ _ _ _ (by omega)
theorem FB_20 (a b c d e f:Int):(FB 20 a b c d e f=true)=(mayA a b c d e):=by rw [FBu 20 _ _ _ _ _ _ (by omega)];simp [V]
theorem FB_21 (a b c d e f:Int):(FB 21 a b c d e f=true)=(mayB a b c d):=by rw [FBu 21 _ _ _ _ _ _ (by omega)];simp [V]
theorem FB_22 (a b c d e f:Int):(FB 22 a b c d e f=true)=(rgtS a b):=by rw [FBu 22 _ _ _ _ _ _ (by omega)];simp [V]
theorem FB_23 (a b c d e f:Int):(FB 23 a b c d e f=true)=(shpS a b c):=by rw [FBu 23 _ _ _ _ _ _ (by omega)];simp [V]
theorem FB_24 (a b c d e f:Int):(FB 24 a b c d e f=true)=(sameS a b c d):=by rw [FBu 24 _ _ _ _ _ _ (by omega)];simp [V]
theorem FB_30 (a b c d e f:Int):(FB 30 a b c d e f=true)=(kinC a):=by rw [FBu 30 _ _ _ _ _ _ (by omega)];simp [V]
end
end Go.Sx.Sl
