/- Messages: what is computed, as symbols. -/
import Derived.Test.YtljfkplkdeinmaaGreatMgS
import Derived.Test.YtljfkplkdeinmaaGreatSxHd
import Derived.Test.YtljfkplkdeinmaaGreatProg
namespace Go.Sx.Mg
noncomputable section
set_option linter.unusedSimpArgs false
set_option linter.unusedVariables false
open Go Go.Sx Go.Proofs
def U:FIx:=fun i a b d e f g=>match i with
 | 20=>tabC
 | 21=>and2 a b d e f
 | 22=>andL a b d e
 | 23=>andR a b d
 | _=>0
def V:FBx:=fun i a b d e f g=>match i with
 | 30=>decide (eqL a b d)
 | 31=>decide (eqR a b)
 | _=>false
def FI:FIx:=mkFI U
def FB:FBx:=mkFB V
def BFu:List (Nat×Int×Int):=[]
def BF:List (Nat×Int×Int):=lapp BF0 BFu
theorem fiok:FiOk FI FB BF:=by
 refine fiOkR fun i a b hm=>?_
 cases hm
set_option maxRecDepth 100000 in
theorem pok:POk Tryz.prog [24,26,29,32,53,56,76,79]:=POk.of (by kernel_rfl) (by kernel_rfl) (by kernel_rfl)
def o1 (z:SV):List Out:=[⟨[],z,[],0,0,[]⟩]
def i64b (i:Nat):Nat×Int×Int:=(i,-9223372036854775808,9223372036854775807)
def ints (l:List Nat):List SV:=lmap (fun i=>SV.it .i64 (.v i)) l
def i64s (l:List Nat):List (Nat×Int×Int):=lmap i64b l
def ap2 (f:Nat):SI:=.ap f (.v 0) (.v 1) (.c 0) (.c 0) (.c 0) (.c 0)
def pb2 (f:Nat):SB:=.ap f (.v 0) (.v 1) (.c 0) (.c 0) (.c 0) (.c 0)
theorem decT {p:Prop} {i:Decidable p}:(@decide p i=true)=p:=propext ⟨of_decide_eq_true,decide_eq_true⟩
theorem tbvT {I:In} {S:Sta} {δ:Nat→Int} {j:Nat}:(In.tbv I S δ j=true)=(match get I.s.b j with | some e=>e.tp S δ | none=>S.bv j=true):=by
 unfold In.tbv
 cases get I.s.b j with
 | none=>rfl
 | some e=>exact decT
theorem FI_3 (c j f b d:Int):FI 3 c j f 0 b d=fl c j.toNat f.toNat:=by simp [FI,mkFI,fl,kindI]
theorem FI_4 (c j f b d:Int):FI 4 c j f 0 b d=by8 c j.toNat f.toNat:=by simp [FI,mkFI,by8,kindI]
theorem FI_6 (c j f b d:Int):FI 6 c j f 0 b d=u32 c j.toNat f.toNat:=by simp [FI,mkFI,u32,kindI]
theorem FI_8 (c j f x b:Int):FI 8 c j f x 0 b=setC c j f x:=by simp [FI,mkFI,mapF]
theorem FI_9 (c i c' i' n a:Int):FI 9 c i c' i' n a=blitC c i c' i' n:=rfl
theorem FI_8c (c j f x b:Int):FI 8 c j f x 10 b=gt c j.toNat f.toNat:=by simp [FI,mkFI,mapF]
theorem FI_8z (c n f x b:Int):FI 8 c n f x 11 b=frzC n c:=by simp [FI,mkFI,mapF]
theorem FB_0 (c j f b d e:Int):(FB 0 c j f b d e=true)=(bt c j.toNat f.toNat):=by simp [FB,mkFB,bt]
theorem FB_2 (a b c d e f:Int):(FB 2 a b c d e f=true)=(bytesC a=bytesC b):=by simp [FB,mkFB]
theorem FIu (i:Nat) (a b c d e f:Int) (h:10≤i∧i < 200):FI i a b c d e f=U i a b c d e f:=by
 unfold FI mkFI;rw [if_neg (by omega),if_neg (by omega),if_neg (by omega),if_neg (by omega)]
theorem FI_20 (a b c d e f:Int):FI 20 a b c d e f=tabC:=FIu 20 _ _ _ _ _ _ (by omega)
end
end Go.Sx.Mg
