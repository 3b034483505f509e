/- Messages: what is computed (plain). -/
import Derived.Test.YtljfkplkdeinmaaGreatSxSt
namespace Go.Sx.Mg
set_option linter.unusedVariables false
set_option linter.unusedSimpArgs false
noncomputable section
open Go Go.Sx
def fl (c:Int) (j f:Nat):Int:=IntKind.i64.wrap (gt c j f)
def by8 (c:Int) (j f:Nat):Int:=IntKind.u8.wrap (gt c j f)
def u32 (c:Int) (j f:Nat):Int:=IntKind.u32.wrap (gt c j f)
def crcS (s:Int):Int:=if IB.eval (.band .u32) s 1=1 then IB.eval (.bxor .u32) (IB.eval (.shr .u32) s 1) 3988292384 else IB.eval (.shr .u32) s 1
def crcN:Nat→Int→Int
 | 0,s=>s
 | n+1,s=>crcN n (crcS s)
def tabC:Int:=arrC 256 1 (fun j _=>crcN 8 j)
theorem w32 (x:Int):0≤IntKind.u32.wrap x∧IntKind.u32.wrap x≤4294967295:=by
 have:=wrap_has .u32 x
 rw [kmin_eq,kmax_eq] at this
 exact this
theorem crcN_suc (k s:Int) (h0:0≤k) (h1:k < 8):crcN (8 - k).toNat s=crcN (8 - (k+1)).toNat (crcS s):=by
 rw [show (8 - k).toNat=(8 - (k+1)).toNat+1 by omega];rfl
theorem crcS_in {s:Int} (h0:0≤s) (h1:s≤4294967295):0≤crcS s∧crcS s≤4294967295:=by
 unfold crcS
 split
 ·exact w32 _
 ·have e:IB.eval (.shr .u32) s 1=s / 2:=by
   show s.fdiv (2 ^ (min (1:Int).toNat 32))=s / 2
   rw [Int.fdiv_eq_ediv_of_nonneg _ (by decide)];rfl
  rw [e];omega
theorem u32_set {c i x:Int} {j:Nat} (hx:0≤x∧x≤4294967295):u32 (setC c i 0 x) j 0=if j=i.toNat then x else u32 c j 0:=by
 unfold u32
 rw [gt_setI]
 by_cases h:j=i.toNat
 ·rw [if_pos ⟨h,rfl⟩,if_pos h]
  exact wrap_in .u32 x (by rw [kmin_eq];exact hx.1) (by rw [kmax_eq];exact hx.2)
 ·rw [if_neg (fun q=>h q.1),if_neg h]
theorem tab_suc {c i s:Int} (h:∀ j:Nat,(j:Int) < i→u32 c j 0=crcN 8 j) (h0:0≤i) (h1:0≤s) (h2:s≤4294967295) (e:crcN (8 - 8:Int).toNat s=crcN 8 i):∀ j:Nat,(j:Int) < i+1→u32 (setC c i 0 s) j 0=crcN 8 j:=fun j hj=>by
 rw [u32_set ⟨h1,h2⟩]
 by_cases q:j=i.toNat
 ·rw [if_pos q,q,show ((i.toNat:Nat):Int)=i by omega];exact e
 ·rw [if_neg q];exact h j (by omega)
theorem crcN_in:∀ (n:Nat) {s:Int},0≤s→s≤4294967295→0≤crcN n s∧crcN n s≤4294967295
 | 0,s,h0,h1=>⟨h0,h1⟩
 | n+1,s,h0,h1=>crcN_in n (crcS_in h0 h1).1 (crcS_in h0 h1).2
theorem tab_at {j:Nat} (h:j < 256):u32 tabC j 0=crcN 8 j:=by
 have hr:=crcN_in 8 (s:=(j:Int)) (by omega) (by omega)
 unfold u32 tabC
 rw [gt_arrC,if_pos ⟨h,by omega⟩]
 exact wrap_in .u32 _ (by rw [kmin_eq];exact hr.1) (by rw [kmax_eq];exact hr.2)
theorem u32_z (j f:Nat):u32 0 j f=0:=by unfold u32;rw [gt_zero];rfl
def eqT (k a b i:Int):Prop:=∀ j:Nat,(j:Int) < i→∀ f:Nat,(f:Int) < k→fl a j f=fl b j f
def eqL (a b k:Int):Prop:=flenC a=flenC b∧eqT k a b (flenC b)
def bt (c:Int) (j f:Nat):Prop:=gt c j f≠0
def eqU (a b i:Int):Prop:=∀ j:Nat,(j:Int) < i→(bt a j 0↔bt b j 0)∧fl a j 1=fl b j 1
def eqR (a b:Int):Prop:=flenC a=flenC b∧eqU a b (flenC b)
instance (a b k:Int):Decidable (eqL a b k):=Classical.propDecidable _
instance (a b:Int):Decidable (eqR a b):=Classical.propDecidable _
instance (c:Int) (j f:Nat):Decidable (bt c j f):=by unfold bt;infer_instance
def and2 (z a b c d:Int):Int:=if z=1∧a=b∧c=d then 1 else 0
def andL (z a b k:Int):Int:=if z=1∧eqL a b k then 1 else 0
def andR (z a b:Int):Int:=if z=1∧eqR a b then 1 else 0
theorem bytesC_eq {a b:Int} (hl:flenC a=flenC b) (h:∀ j:Nat,(j:Int) < flenC b→by8 a j 0=by8 b j 0):bytesC a=bytesC b:=by
 unfold bytesC
 rw [hl]
 congr 2
 refine List.map_congr_left fun j hj=>?_
 have:=h j (by have:=List.mem_range.1 hj;omega)
 unfold by8 at this
 rw [this]
theorem by6 {c d:Int} (h:∀ j:Nat,j < 6→gt c j 0=gt d j 0):bytesC (frzC 6 c)=bytesC (frzC 6 d):=by
 refine bytesC_eq (by rw [flenC_frz _ _ (by decide),flenC_frz _ _ (by decide)]) fun j hj=>?_
 rw [flenC_frz _ _ (by decide)] at hj
 unfold by8
 rw [gt_frz _ _ _ _ (by decide),gt_frz _ _ _ _ (by decide),h j (by omega)]
theorem st6 {c d:Int} {n:Int} {x:Int} (hn:6≤n) (h:∀ j:Nat,j < 6→gt c j 0=gt d j 0):∀ j:Nat,j < 6→gt (setC c n 0 x) j 0=gt d j 0:=fun j hj=>by
 rw [gt_setI,if_neg (by omega)];exact h j hj
end
end Go.Sx.Mg
