/- The pool: what is computed, as symbols. -/
import Derived.Test.YtbcbpicfnfkdeaaPkS
import Derived.Test.YtbcbpicfnfkdeaaSxHd
import Derived.Test.YtbcbpicfnfkdeaaProg
namespace Go.Sx.Pk
noncomputable section
set_option linter.unusedSimpArgs false
set_option linter.unusedVariables false
open Go Go.Sx Go.Proofs
def U:FIx:=fun i a b d e f g=>match i with
 | 20=>mayN a b d e f
 | 21=>putE a b d
 | 22=>putK a b d
 | 23=>cpR a b
 | 24=>cntT a b d
 | 25=>putW a b d
 | 26=>rmP a b
 | 27=>dblP a b
 | _=>0
def V:FBx:=fun i a b d e f g=>match i with
 | 24=>decide (isB a b d e)
 | 25=>decide (toR a b d e)
 | 26=>decide (lenOk a b)
 | 27=>decide (relB a b d)
 | 28=>decide (rowsOk a b d)
 | 29=>decide (sameN a b d e)
 | 30=>decide (fewB a b d)
 | _=>false
def FI:FIx:=mkFI U
def FB:FBx:=mkFB V
def BFu:List (Nat×Int×Int):=[(20,0,200),(21,0,200),(22,0,-1),(24,0,-1),(25,0,-1),(26,0,-1),(27,0,-1)]
def BF:List (Nat×Int×Int):=lapp BF0 BFu
theorem fiok:FiOk FI FB BF:=by
 refine fiOkR fun i a b hm=>?_
 simp only [BFu,List.mem_cons,List.not_mem_nil,or_false,Prod.mk.injEq] at hm
 rcases hm with ⟨rfl,rfl,rfl⟩ | ⟨rfl,rfl,rfl⟩ | ⟨rfl,rfl,rfl⟩ | ⟨rfl,rfl,rfl⟩ | ⟨rfl,rfl,rfl⟩ | ⟨rfl,rfl,rfl⟩ | ⟨rfl,rfl,rfl⟩
 all_goals
  refine ⟨by omega,fun x0 x1 x2 x3 x4 x5=>?_⟩
 ·exact inR_of (mayN_in x0 x1 x2 x3 x4)
 ·exact inR_of (putE_in x0 x1 x2)
 ·exact inR_lo (putK_in x0 x1 x2)
 ·exact inR_lo (cntT_in x0 x1 x2)
 ·exact inR_lo (frzC_nn _ _)
 ·exact inR_lo (frzC_nn _ _)
 ·exact inR_lo (frzC_nn _ _)
set_option maxRecDepth 100000 in
theorem pok:POk Try.prog []:=POk.of (by kernel_rfl) (by kernel_rfl) (by kernel_rfl)
def o1 (z:SV):List Out:=[⟨[],z,[],0,0,[]⟩]
def i64b (i:Nat):Nat×Int×Int:=(i,-9223372036854775808,9223372036854775807)
def ints (l:List Nat):List SV:=lmap (fun i=>SV.it .i64 (.v i)) l
def i64s (l:List Nat):List (Nat×Int×Int):=lmap i64b l
def ap2 (f:Nat):SI:=.ap f (.v 0) (.v 1) (.c 0) (.c 0) (.c 0) (.c 0)
def pb2 (f:Nat):SB:=.ap f (.v 0) (.v 1) (.c 0) (.c 0) (.c 0) (.c 0)
theorem decT {p:Prop} {i:Decidable p}:(@decide p i=true)=p:=propext ⟨of_decide_eq_true,decide_eq_true⟩
theorem tbvT {I:In} {S:Sta} {δ:Nat→Int} {j:Nat}:(In.tbv I S δ j=true)=(match get I.s.b j with | some e=>e.tp S δ | none=>S.bv j=true):=by
 unfold In.tbv
 cases get I.s.b j with
 | none=>rfl
 | some e=>exact decT
theorem FI_3 (c j f b d:Int):FI 3 c j f 0 b d=fl c j.toNat f.toNat:=by simp [FI,mkFI,fl,kindI]
theorem FI_4 (c j f b d:Int):FI 4 c j f 0 b d=by8 c j.toNat f.toNat:=by simp [FI,mkFI,by8,kindI]
theorem FI_8 (c j f x b:Int):FI 8 c j f x 0 b=setC c j f x:=by simp [FI,mkFI,mapF]
theorem FI_9 (c i c' i' n a:Int):FI 9 c i c' i' n a=blitC c i c' i' n:=rfl
theorem FI_8c (c j f x b:Int):FI 8 c j f x 10 b=gt c j.toNat f.toNat:=by simp [FI,mkFI,mapF]
theorem FI_8z (c n f x b:Int):FI 8 c n f x 11 b=frzC n c:=by simp [FI,mkFI,mapF]
theorem FI_200 (c j f x b d:Int):FI 200 c j f x b d=flenC c:=by simp [FI,mkFI]
theorem FB_2 (a b c d e f:Int):(FB 2 a b c d e f=true)=(bytesC a=bytesC b):=by simp [FB,mkFB]
theorem FIu (i:Nat) (a b c d e f:Int) (h:10≤i∧i < 200):FI i a b c d e f=U i a b c d e f:=by
 unfold FI mkFI;rw [if_neg (by omega),if_neg (by omega),if_neg (by omega),if_neg (by omega)]
theorem FBu (i:Nat) (a b c d e f:Int) (h:10≤i):FB i a b c d e f=V i a b c d e f:=by
 unfold FB mkFB;rw [if_neg (by omega),if_neg (by omega),if_neg (by omega)]
theorem FI_20 (a b c d e f:Int):FI 20 a b c d e f=mayN a b c d e:=FIu 20 _ _ _ _ _ _ (by omega)
theorem FI_21 (a b c d e f:Int):FI 21 a b c d e f=putE a b c:=FIu 21 _ _ _ _ _ _ (by omega)
theorem FI_22 (a b c d e f:Int):FI 22 a b c d e f=putK a b c:=FIu 22 _ _ _ _ _ _ (by omega)
theorem FI_23 (a b c d e f:Int):FI 23 a b c d e f=cpR a b:=FIu 23 _ _ _ _ _ _ (by omega)
theorem FI_24 (a b c d e f:Int):FI 24 a b c d e f=cntT a b c:=FIu 24 _ _ _ _ _ _ (by omega)
theorem FI_25 (a b c d e f:Int):FI 25 a b c d e f=putW a b c:=FIu 25 _ _ _ _ _ _ (by omega)
theorem FI_26 (a b c d e f:Int):FI 26 a b c d e f=rmP a b:=FIu 26 _ _ _ _ _ _ (by omega)
theorem FI_27 (a b c d e f:Int):FI 27 a b c d e f=dblP a b:=FIu 27 _ _ _ _ _ _ (by omega)
theorem FB_24 (a b c d e f:Int):(FB 24 a b c d e f=true)=(isB a b c d):=by rw [FBu 24 _ _ _ _ _ _ (by omega)];simp [V]
theorem FB_25 (a b c d e f:Int):(FB 25 a b c d e f=true)=(toR a b c d):=by rw [FBu 25 _ _ _ _ _ _ (by omega)];simp [V]
theorem FB_26 (a b c d e f:Int):(FB 26 a b c d e f=true)=(lenOk a b):=by rw [FBu 26 _ _ _ _ _ _ (by omega)];simp [V]
theorem FB_27 (a b c d e f:Int):(FB 27 a b c d e f=true)=(relB a b c):=by rw [FBu 27 _ _ _ _ _ _ (by omega)];simp [V]
theorem FB_28 (a b c d e f:Int):(FB 28 a b c d e f=true)=(rowsOk a b c):=by rw [FBu 28 _ _ _ _ _ _ (by omega)];simp [V]
theorem FB_29 (a b c d e f:Int):(FB 29 a b c d e f=true)=(sameN a b c d):=by rw [FBu 29 _ _ _ _ _ _ (by omega)];simp [V]
theorem FB_30 (a b c d e f:Int):(FB 30 a b c d e f=true)=(fewB a b c):=by rw [FBu 30 _ _ _ _ _ _ (by omega)];simp [V]
end
end Go.Sx.Pk
