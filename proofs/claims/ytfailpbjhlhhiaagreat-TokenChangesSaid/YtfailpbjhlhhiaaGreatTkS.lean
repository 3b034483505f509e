/- Tokens: what is computed (plain). -/
import Derived.Test.YtfailpbjhlhhiaaGreatSxSt
namespace Go.Sx.Tk
noncomputable section
set_option linter.unusedSimpArgs false
set_option linter.unusedVariables false
open Go Go.Sx
def fl (c:Int) (j f:Nat):Int:=IntKind.i64.wrap (gt c j f)
def by8 (c:Int) (j f:Nat):Int:=IntKind.u8.wrap (gt c j f)
def inM (a:Int):Prop:=0≤a∧a≤5
instance (a:Int):Decidable (inM a):=by unfold inM;infer_instance
def fitP (a b:Int):Prop:=a=0∨b=0∨(a≠5∧b≠5∧(a=1∨b=1∨(a=b∧a≠4)))
instance (a b:Int):Decidable (fitP a b):=by unfold fitP;infer_instance
def covP (a b:Int):Prop:=a=b∨b=0∨a=5∨(a=4∧b < 4)∨(a≠4∧(a=2∨a=3)∧b=1)
instance (a b:Int):Decidable (covP a b):=by unfold covP;infer_instance
def allM (c n:Int):Prop:=∀ i:Nat,(i:Int) < n→inM (fl c i 0)
def covA (m c n:Int):Prop:=∀ i:Nat,(i:Int) < n→covP m (fl c i 0)
def fitA (m c k:Int):Prop:=∀ j:Nat,(j:Int) < k→fitP m (fl c j 0)
def togA (c n:Int):Prop:=∀ i:Nat,(i:Int) < n→fitA (fl c i 0) c i
instance (c n:Int):Decidable (allM c n):=Classical.propDecidable _
instance (m c n:Int):Decidable (covA m c n):=Classical.propDecidable _
instance (m c n:Int):Decidable (fitA m c n):=Classical.propDecidable _
instance (c n:Int):Decidable (togA c n):=Classical.propDecidable _
def fstR (P:Nat→Prop):Nat→Int
 | 0=>-1
 | n+1=>if 0≤fstR P n then fstR P n else @ite _ (P n) (Classical.propDecidable _) (n:Int) (-1)
theorem fstR_spec (P:Nat→Prop):∀ n:Nat,(fstR P n=-1∧∀ j,j < n→¬ P j)∨(∃ k:Nat,fstR P n=k∧k < n∧P k∧∀ j,j < k→¬ P j)
 | 0=>.inl ⟨rfl,fun j hj=>by omega⟩
 | n+1=>by
   rcases fstR_spec P n with ⟨h,hn⟩ | ⟨k,h,hk,hp,hn⟩
   ·unfold fstR
    rw [h,if_neg (by omega)]
    by_cases hp:P n
    ·rw [if_pos hp];exact .inr ⟨n,rfl,by omega,hp,hn⟩
    ·rw [if_neg hp]
     refine .inl ⟨rfl,fun j hj=>?_⟩
     by_cases e:j=n
     ·rw [e];exact hp
     ·exact hn j (by omega)
   ·unfold fstR
    rw [h,if_pos (by omega)]
    exact .inr ⟨k,rfl,by omega,hp,hn⟩
def fstI (P:Nat→Prop) (n:Int):Int:=fstR P n.toNat
theorem fstI_some {P:Nat→Prop} {n k:Int} (h0:0≤k) (hk:k < n) (hp:P k.toNat) (h:∀ j:Nat,(j:Int) < k→¬ P j):fstI P n=k:=by
 unfold fstI
 rcases fstR_spec P n.toNat with ⟨e,hn⟩ | ⟨i,e,hi,hpi,hn⟩
 ·exact absurd hp (hn k.toNat (by omega))
 ·rw [e]
  by_cases h1:(i:Int) < k
  ·exact absurd hpi (h i h1)
  ·by_cases h2:k < (i:Int)
   ·exact absurd hp (hn k.toNat (by omega))
   ·omega
theorem fstI_none {P:Nat→Prop} {n:Int} (h:∀ j:Nat,(j:Int) < n→¬ P j):fstI P n=-1:=by
 unfold fstI
 rcases fstR_spec P n.toNat with ⟨e,hn⟩ | ⟨i,e,hi,hpi,hn⟩
 ·exact e
 ·exact absurd hpi (h i (by omega))
theorem fstI_cases (P:Nat→Prop) (n:Int):(fstI P n=-1∧∀ j:Nat,(j:Int) < n→¬ P j)∨(0≤fstI P n∧fstI P n < n∧P (fstI P n).toNat∧∀ j:Nat,(j:Int) < fstI P n→¬ P j):=by
 unfold fstI
 rcases fstR_spec P n.toNat with ⟨e,hn⟩ | ⟨i,e,hi,hpi,hn⟩
 ·exact .inl ⟨e,fun j hj=>hn j (by omega)⟩
 ·rw [e];exact .inr ⟨by omega,by omega,by simpa using hpi,fun j hj=>hn j (by omega)⟩
def mayP (s u m:Int):Prop:=(0≤s∧s≤255)∧(1≤u∧u≤1099511627776)∧(1≤m∧m≤5)
instance (s u m:Int):Decidable (mayP s u m):=by unfold mayP;infer_instance
def mayA (c k:Int):Prop:=∀ i:Nat,(i:Int) < k→mayP (fl c i 0) (fl c i 1) (fl c i 2)∧(0 < i→fl c (i - 1) 0 < fl c i 0)
def modesC (c n:Int):Int:=arrC n.toNat 1 fun j _=>fl c j 2
def rgtP (c n:Int):Prop:=mayA c n∧allM (modesC c n) n∧togA (modesC c n) n
def delC (c n at_:Int):Int:=arrC (n - 1).toNat 3 fun j f=>fl c (if (j:Int) < at_ then j else j+1) f
theorem fstI_lt (P:Nat→Prop) (n m:Int) (h0:0≤m) (h:n≤m+1):-1≤fstI P n∧fstI P n≤m:=by
 rcases fstI_cases P n with ⟨e,_⟩ | ⟨e1,e2,_⟩<;>omega
def fndC (c n s:Int):Int:=fstI (fun j=>fl c j 0=s) (min n 4096)
def wrtC (c n:Int):Int:=fstI (fun j=>fl c j 2=5) (min n 4096)
theorem fndC_eq {c n s:Int} (h:n≤4096):fndC c n s=fstI (fun j=>fl c j 0=s) n:=by unfold fndC;rw [Int.min_eq_left h]
def sameP (c n d m:Int):Prop:=n=m∧∀ j:Nat,(j:Int) < n→fl c j 0=fl d j 0∧fl c j 1=fl d j 1∧fl c j 2=fl d j 2
def fitsP (c n m:Int):Prop:=∀ j:Nat,(j:Int) < n→fitP (fl c j 2) m
def endP (c n s u:Int):Prop:=0≤fndC c n s∧fl c (fndC c n s).toNat 1≤u
def hasP (c n s:Int):Prop:=rgtP c n∧0≤fndC c n s
def okP (c n m:Int):Prop:=rgtP c n∧inM m
def wrP (c n:Int):Prop:=rgtP c n∧0≤wrtC c n
instance (c n s:Int):Decidable (hasP c n s):=Classical.propDecidable _
instance (c n m:Int):Decidable (okP c n m):=Classical.propDecidable _
instance (c n:Int):Decidable (wrP c n):=Classical.propDecidable _
instance (c n s u:Int):Decidable (endP c n s u):=Classical.propDecidable _
instance (c n:Int):Decidable (rgtP c n):=Classical.propDecidable _
instance (c n d m:Int):Decidable (sameP c n d m):=Classical.propDecidable _
instance (c n m:Int):Decidable (fitsP c n m):=Classical.propDecidable _
def mayW (s u m p a:Int):Prop:=(0≤s∧s≤255)∧(1≤u∧u≤1099511627776)∧(1≤m∧m≤5)∧(0≤p∧p≤3)∧(0≤a∧a≤64)
instance (s u m p a:Int):Decidable (mayW s u m p a):=by unfold mayW;infer_instance
def mayX (c k:Int):Prop:=∀ i:Nat,(i:Int) < k→mayW (fl c i 0) (fl c i 1) (fl c i 2) (fl c i 3) (fl c i 4)∧∀ j:Nat,j < i→fl c j 0≠fl c i 0
def rgtW (c n:Int):Prop:=n≤256∧mayX c n
def delW (c n at_:Int):Int:=arrC (n - 1).toNat 5 fun j f=>fl c (if (j:Int) < at_ then j else j+1) f
def hasW (c n s:Int):Prop:=rgtW c n∧0≤fndC c n s
instance (c n s:Int):Decidable (hasW c n s):=Classical.propDecidable _
def sameW (c n d m:Int):Prop:=n=m∧∀ j:Nat,(j:Int) < n→fl c j 0=fl d j 0∧fl c j 1=fl d j 1∧fl c j 2=fl d j 2∧fl c j 3=fl d j 3∧fl c j 4=fl d j 4
instance (c n:Int):Decidable (rgtW c n):=Classical.propDecidable _
instance (c n d m:Int):Decidable (sameW c n d m):=Classical.propDecidable _
theorem six {b:Int} (h:inM b):b=0∨b=1∨b=2∨b=3∨b=4∨b=5:=by unfold inM at h;omega
theorem all_succ {P:Nat→Prop} {k:Int} (h0:0≤k) (h:∀ j:Nat,(j:Int) < k→P j) (hk:P k.toNat):∀ j:Nat,(j:Int) < k+1→P j:=by
 intro j hj
 by_cases e:(j:Int) < k
 ·exact h j e
 ·have:j=k.toNat:=by omega
  subst this;exact hk
theorem fl_in (c:Int) (j f:Nat):kmin .i64≤fl c j f∧fl c j f≤kmax .i64:=wrap_has .i64 _
theorem fl_arrC {n F:Nat} {g:Nat→Nat→Int} {j f:Nat} (hj:j < n) (hf:f < F) (h:kmin .i64≤g j f∧g j f≤kmax .i64):fl (arrC n F g) j f=g j f:=by
 unfold fl
 rw [gt_arrC,if_pos ⟨hj,hf⟩,wrap_in .i64 _ h.1 h.2]
theorem fl_modesC {c n:Int} {j:Nat} (hj:(j:Int) < n):fl (modesC c n) j 0=fl c j 2:=fl_arrC (by omega) (by omega) (fl_in ..)
theorem fl_set (c i f x:Int) (j g:Nat):fl (setC c i f x) j g=if j=i.toNat∧g=f.toNat then IntKind.i64.wrap x else fl c j g:=by
 unfold fl
 rw [gt_setI]
 split<;>rfl
def mg (c x:Int):Int:=IntKind.i64.wrap (gt c (zig x) 0)
def ms (c x y:Int):Int:=setC c (zig x:Int) 0 y
theorem mg_zero (x:Int):mg 0 x=0:=by unfold mg;rw [gt_zero];decide
theorem mg_ms (c x y x':Int):mg (ms c x y) x'=if x'=x then IntKind.i64.wrap y else mg c x':=by
 unfold mg ms
 rw [gt_setI]
 simp only [Int.toNat_natCast,Int.toNat_zero,and_true]
 by_cases h:x'=x
 ·subst h;simp
 ·rw [if_neg (fun hh=>h (zig_inj hh)),if_neg h]
theorem set_row {c d k x:Int} (h0:0≤k) (h:∀ j:Nat,(j:Int) < k→fl d j 0=fl c j 2) (hx:x=fl c k.toNat 2):∀ j:Nat,(j:Int) < k+1→fl (setC d k 0 x) j 0=fl c j 2:=by
 intro j hj
 rw [fl_set]
 by_cases e:j=k.toNat
 ·have:=fl_in c k.toNat 2
  rw [if_pos ⟨e,rfl⟩,hx,wrap_in .i64 _ this.1 this.2,e]
 ·rw [if_neg fun h=>e h.1];exact h j (by omega)
theorem allM_of {c n:Int} (h:mayA c n):allM (modesC c n) n:=fun i hi=>by
 have:=(h i hi).1.2.2
 rw [fl_modesC hi];unfold inM;omega
theorem rgt_tog {c n k:Int} (h:mayA c k) (e:¬ k < n) (hk:k≤n):rgtP c n↔allM (modesC c n) n∧togA (modesC c n) n:=by
 have:k=n:=by omega
 subst this
 exact ⟨fun hh=>hh.2,fun hh=>⟨h,hh⟩⟩
theorem rgt_nil {c n:Int} (h:¬ 0 < n):rgtP c n:=⟨fun i hi=>by omega,fun i hi=>by omega,fun i hi=>by omega⟩
theorem mayA_ext {c k:Int} (h:mayA c k) (h0:0≤k) (h1:mayP (fl c k.toNat 0) (fl c k.toNat 1) (fl c k.toNat 2)) (h2:0 < k→fl c (k+-1).toNat 0 < fl c k.toNat 0):mayA c (k+1):=by
 refine all_succ h0 h ⟨h1,fun hk=>?_⟩
 have:=h2 (by omega)
 rwa [show (k+-1).toNat=k.toNat - 1 by omega] at this
theorem mayA_not {c k n:Int} (h0:0≤k) (hk:k < n) (h:¬ (mayP (fl c k.toNat 0) (fl c k.toNat 1) (fl c k.toNat 2)∧(0 < k→fl c (k+-1).toNat 0 < fl c k.toNat 0))):¬ rgtP c n:=fun hh=>h ⟨(hh.1 k.toNat (by omega)).1,fun h1=>by
 have:=(hh.1 k.toNat (by omega)).2 (by omega)
 rwa [show (k+-1).toNat=k.toNat - 1 by omega]⟩
theorem rgt_tog2 {c n k:Int} (h:mayA c k) (e:¬ k < n) (hk:k≤n):rgtP c n↔togA (modesC c n) n:=by
 have:k=n:=by omega
 subst this
 exact ⟨fun hh=>hh.2.2,fun hh=>⟨h,allM_of h,hh⟩⟩
theorem fnd_at {c n s k:Int} (hn:n≤4096) (h0:0≤k) (hk:k < n) (hp:fl c k.toNat 0=s) (h:∀ j:Nat,(j:Int) < k→fl c j 0≠s):fndC c n s=k:=by rw [fndC_eq hn];exact fstI_some h0 hk hp h
theorem fnd_no {c n s k:Int} (hn:n≤4096) (hk:¬ k < n) (h:∀ j:Nat,(j:Int) < k→fl c j 0≠s):fndC c n s=-1:=by rw [fndC_eq hn];exact fstI_none fun j hj=>h j (by omega)
theorem fndW_at {c n s k:Int} (hn:n≤4096) (h0:0≤k) (hk:k < n) (hp:fl c k.toNat 0=s) (h:∀ j:Nat,(j:Int) < k→fl c j 0≠s):fndC c n s=k:=by rw [fndC_eq hn];exact fstI_some h0 hk hp h
theorem fndW_no {c n s k:Int} (hn:n≤4096) (hk:¬ k < n) (h:∀ j:Nat,(j:Int) < k→fl c j 0≠s):fndC c n s=-1:=by rw [fndC_eq hn];exact fstI_none fun j hj=>h j (by omega)
theorem fndW_is {c n k:Int} (hn:n≤4096) (h0:0≤k) (hk:k < n):fndC c n (fl c k.toNat 0)=k↔∀ j:Nat,j < k.toNat→fl c j 0≠fl c k.toNat 0:=by
 rw [fndC_eq hn]
 constructor
 ·intro h j hj he
  rcases fstI_cases (fun j=>fl c j 0=fl c k.toNat 0) n with ⟨e,hno⟩ | ⟨e1,e2,e3,e4⟩
  ·omega
  ·rw [h] at e4;exact e4 j (by omega) he
 ·exact fun h=>fstI_some h0 hk rfl fun j hj=>h j (by omega)
def seenW (m c k:Int):Prop:=∀ x:Int,(mg m x=1∧∃ j:Nat,(j:Int) < k∧fl c j 0=x)∨(mg m x=0∧∀ j:Nat,(j:Int) < k→fl c j 0≠x)
theorem mayX_ext {c k:Int} (h:mayX c k) (h0:0≤k) (h1:mayW (fl c k.toNat 0) (fl c k.toNat 1) (fl c k.toNat 2) (fl c k.toNat 3) (fl c k.toNat 4)) (h2:∀ j:Nat,j < k.toNat→fl c j 0≠fl c k.toNat 0):mayX c (k+1):=
 all_succ h0 h ⟨h1,h2⟩
theorem mayX_not {c n k:Int} (h0:0≤k) (hk:k < n) (h:¬ (mayW (fl c k.toNat 0) (fl c k.toNat 1) (fl c k.toNat 2) (fl c k.toNat 3) (fl c k.toNat 4)∧∀ j:Nat,j < k.toNat→fl c j 0≠fl c k.toNat 0)):¬ rgtW c n:=fun hh=>h (hh.2 k.toNat (by omega))
theorem seenW_zero (c:Int):seenW 0 c 0:=fun x=>.inr ⟨mg_zero x,fun j hj=>by omega⟩
theorem seenW_new {m c k x:Int} (h:seenW m c k) (e:IntKind.i64.wrap (mg m x+1)=1):∀ j:Nat,(j:Int) < k→fl c j 0≠x:=by
 rcases h x with ⟨h1,_⟩ | ⟨_,h1⟩
 ·rw [h1] at e;exact absurd e (by decide)
 ·exact h1
theorem seenW_old {m c k x:Int} (h:seenW m c k) (e:¬ IntKind.i64.wrap (mg m x+1)=1):∃ j:Nat,(j:Int) < k∧fl c j 0=x:=by
 rcases h x with ⟨_,h1⟩ | ⟨h1,_⟩
 ·exact h1
 ·rw [h1] at e;exact absurd (by decide) e
theorem seenW_ext {m c k:Int} (h:seenW m c k) (h0:0≤k) (e:IntKind.i64.wrap (mg m (fl c k.toNat 0)+1)=1):seenW (ms m (fl c k.toNat 0) (IntKind.i64.wrap (mg m (fl c k.toNat 0)+1))) c (k+1):=by
 intro x
 rw [mg_ms,e]
 by_cases hx:x=fl c k.toNat 0
 ·rw [if_pos hx];exact .inl ⟨by decide,k.toNat,by omega,hx.symm⟩
 ·rw [if_neg hx]
  rcases h x with ⟨h1,j,h2,h3⟩ | ⟨h1,h2⟩
  ·exact .inl ⟨h1,j,by omega,h3⟩
  ·refine .inr ⟨h1,fun j hj=>?_⟩
   by_cases e2:j=k.toNat
   ·rw [e2];exact fun hh=>hx hh.symm
   ·exact h2 j (by omega)
def eqT (k a b i:Int):Prop:=∀ j:Nat,(j:Int) < i→∀ f:Nat,(f:Int) < k→fl a j f=fl b j f
def eqL (a b k:Int):Prop:=flenC a=flenC b∧eqT k a b (flenC b)
def bt (c:Int) (j f:Nat):Prop:=gt c j f≠0
def eqU (a b i:Int):Prop:=∀ j:Nat,(j:Int) < i→(bt a j 0↔bt b j 0)∧fl a j 1=fl b j 1
def eqR (a b:Int):Prop:=flenC a=flenC b∧eqU a b (flenC b)
instance (a b k:Int):Decidable (eqL a b k):=Classical.propDecidable _
instance (a b:Int):Decidable (eqR a b):=Classical.propDecidable _
instance (c:Int) (j f:Nat):Decidable (bt c j f):=by unfold bt;infer_instance
theorem eqT_zero (k a b:Int):eqT k a b 0:=fun j hj=>by omega
theorem eqT_suc {k a b i:Int} (h:eqT k a b i) (h0:0≤i) (e:∀ f:Nat,(f:Int) < k→fl a i.toNat f=fl b i.toNat f):eqT k a b (i+1):=fun j hj=>by
 by_cases q:(j:Int) < i
 ·exact h j q
 ·have:j=i.toNat:=by omega
  subst this;exact e
theorem eqL_yes {k a b i:Int} (h:flenC a=flenC b) (ht:eqT k a b i) (hi:flenC a≤i):eqL a b k:=⟨h,fun j hj=>ht j (by omega)⟩
theorem eqL_len {k a b:Int} (h:flenC a≠flenC b):¬ eqL a b k:=fun g=>h g.1
theorem eqL_no {k a b i:Int} (f:Nat) (h0:0≤i) (h1:i < flenC b) (hf:(f:Int) < k) (e:fl a i.toNat f≠fl b i.toNat f):¬ eqL a b k:=fun g=>e (g.2 _ (by omega) f hf)
theorem eqL_refl (a k:Int):eqL a a k:=⟨rfl,fun _ _ _ _=>rfl⟩
theorem eq1 {a b:Int} {j:Nat} (h:fl a j 0=fl b j 0) (f:Nat) (hf:(f:Int) < 1):fl a j f=fl b j f:=by
 have:f=0:=by omega
 subst this;exact h
theorem eq3 {a b:Int} {j:Nat} (h:fl a j 0=fl b j 0) (h1:fl a j 1=fl b j 1) (h2:fl a j 2=fl b j 2) (f:Nat) (hf:(f:Int) < 3):fl a j f=fl b j f:=
 match f,hf with
 | 0,_=>h
 | 1,_=>h1
 | 2,_=>h2
 | n+3,hf=>by omega
theorem eq5 {a b:Int} {j:Nat} (h:fl a j 0=fl b j 0) (h1:fl a j 1=fl b j 1) (h2:fl a j 2=fl b j 2) (h3:fl a j 3=fl b j 3) (h4:fl a j 4=fl b j 4) (f:Nat) (hf:(f:Int) < 5):fl a j f=fl b j f:=
 match f,hf with
 | 0,_=>h
 | 1,_=>h1
 | 2,_=>h2
 | 3,_=>h3
 | 4,_=>h4
 | n+5,hf=>by omega
def and2 (z a b c d:Int):Int:=if z=1∧a=b∧c=d then 1 else 0
def andL (z a b k:Int):Int:=if z=1∧eqL a b k then 1 else 0
def andR (z a b:Int):Int:=if z=1∧eqR a b then 1 else 0
theorem one_if {p:Prop} [Decidable p]:((if p then (1:Int) else 0)=1)=p:=by
 by_cases h:p
 ·simp [h]
 ·simp [h]
theorem and2_one (z a b c d:Int):(and2 z a b c d=1)=(z=1∧a=b∧c=d):=one_if
theorem andL_one (z a b k:Int):(andL z a b k=1)=(z=1∧eqL a b k):=one_if
theorem andR_one (z a b:Int):(andR z a b=1)=(z=1∧eqR a b):=one_if
def shpR (n l s:Int):Prop:=(1≤n∧n≤64)∧(1≤l∧l≤8)∧(1≤s∧s≤4)
instance (n l s:Int):Decidable (shpR n l s):=by unfold shpR;infer_instance
def ovrA (y i:Int):Prop:=∀ j:Nat,(j:Int) < i→0≤fl y j 0∧fl y j 0≤1099511627776
def ovrR (y:Int):Prop:=ovrA y (flenC y)
instance (y:Int):Decidable (ovrR y):=Classical.propDecidable _
def wtP (a c s u:Int):Prop:=s < flenC a∧u - 1=fl a s.toNat 0∧fndC c (flenC c) s < 0
def hdP (a s u:Int):Prop:=s < flenC a∧u - 1=fl a s.toNat 0
def wtA (a b c i:Int):Prop:=∀ j:Nat,(j:Int) < i→wtP a c (fl b j 0) (fl b j 1)
def hdA (a c i:Int):Prop:=∀ j:Nat,(j:Int) < i→hdP a (fl c j 0) (fl c j 1)
def lstR (a b c:Int):Prop:=wtA a b c (flenC b)∧hdA a c (flenC c)
instance (a b c:Int):Decidable (lstR a b c):=Classical.propDecidable _
theorem mg_setM (c x y x':Int):mg (setM c x y) x'=if x'=x then IntKind.i64.wrap y else mg c x':=by
 unfold mg
 rw [gt_setM]
 by_cases h:x'=x
 ·subst h;simp
 ·have hz:¬ zig x'=zig x:=fun e=>h (zig_inj e)
  rw [if_neg h,if_neg (fun q=>hz q.1),if_neg (fun q=>hz q.2.1),if_neg (fun q=>by omega),if_neg (fun q=>by omega)]
def sitR (n l s y h:Int):Prop:=shpR n l s∧flenC y=n * s∧(0≤h∧h≤1099511627776)∧ovrR y
instance (n l s y h:Int):Decidable (sitR n l s y h):=Classical.propDecidable _
def lisR (a b c:Int):Prop:=rgtW b (flenC b)∧rgtP c (flenC c)∧lstR a b c
instance (a b c:Int):Decidable (lisR a b c):=Classical.propDecidable _
theorem ovrA_zero (y:Int):ovrA y 0:=fun j hj=>by omega
theorem ovrA_suc {y i:Int} (h:ovrA y i) (h0:0≤i) (e:0≤fl y i.toNat 0) (e1:fl y i.toNat 0≤1099511627776):ovrA y (i+1):=all_succ h0 h ⟨e,e1⟩
theorem ovrA_no {y i:Int} (h0:0≤i) (h1:i < flenC y) (e:¬ (0≤fl y i.toNat 0∧fl y i.toNat 0≤1099511627776)):¬ ovrR y:=fun g=>e (g _ (by omega))
theorem ovrA_end {y i:Int} (h:ovrA y i) (e:flenC y≤i):ovrR y:=fun j hj=>h j (by omega)
theorem wtA_zero (a b c:Int):wtA a b c 0:=fun j hj=>by omega
theorem wtA_suc {a b c i:Int} (h:wtA a b c i) (h0:0≤i) (e:wtP a c (fl b i.toNat 0) (fl b i.toNat 1)):wtA a b c (i+1):=all_succ h0 h e
theorem wtA_no {a b c i:Int} (h0:0≤i) (h1:i < flenC b) (e:¬ wtP a c (fl b i.toNat 0) (fl b i.toNat 1)):¬ lstR a b c:=fun g=>e (g.1 _ (by omega))
theorem wtA_end {a b c i:Int} (h:wtA a b c i) (e:flenC b≤i):wtA a b c (flenC b):=fun j hj=>h j (by omega)
theorem hdA_zero (a c:Int):hdA a c 0:=fun j hj=>by omega
theorem hdA_suc {a c i:Int} (h:hdA a c i) (h0:0≤i) (e:hdP a (fl c i.toNat 0) (fl c i.toNat 1)):hdA a c (i+1):=all_succ h0 h e
theorem hdA_no {a b c i:Int} (h0:0≤i) (h1:i < flenC c) (e:¬ hdP a (fl c i.toNat 0) (fl c i.toNat 1)):¬ lstR a b c:=fun g=>e (g.2 _ (by omega))
theorem hdA_end {a b c i:Int} (h:hdA a c i) (hw:wtA a b c (flenC b)) (e:flenC c≤i):lstR a b c:=⟨hw,fun j hj=>h j (by omega)⟩
theorem rgt_w {b n i:Int} (h:rgtW b n) (h0:0≤i) (h1:i < n):(0≤fl b i.toNat 0∧fl b i.toNat 0≤255)∧1≤fl b i.toNat 1∧fl b i.toNat 1≤1099511627776:=by
 have:=(h.2 i.toNat (by omega)).1
 unfold mayW at this;exact ⟨this.1,this.2.1⟩
theorem rgt_h {c n i:Int} (h:rgtP c n) (h0:0≤i) (h1:i < n):(0≤fl c i.toNat 0∧fl c i.toNat 0≤255)∧1≤fl c i.toNat 1∧fl c i.toNat 1≤1099511627776:=by
 have:=(h.1 i.toNat (by omega)).1
 unfold mayP at this;exact ⟨this.1,this.2.1⟩
theorem rgt_few {c n:Int} (h:rgtP c n):n≤256:=by
 have key:∀ k:Nat,(k:Int) < n→(k:Int)≤fl c k 0:=by
  intro k
  induction k with
  | zero=>intro hk;have:=(h.1 0 hk).1.1.1;simpa using this
  | succ k ih=>
    intro hk
    have h1:=ih (by omega)
    have h2:=(h.1 (k+1) hk).2 (by omega)
    simp only [Nat.add_sub_cancel] at h2
    omega
 by_cases q:n≤256
 ·exact q
 ·have h1:=key 256 (by omega)
  have h2:=(h.1 256 (by omega)).1.1.2
  simp only [Int.cast_ofNat_Int] at h1
  omega
theorem i64_sub {u:Int} (h:1≤u) (h1:u≤1099511627776):IntKind.i64.wrap (u - 1)=u - 1:=by rw [wrap_i64];omega
theorem seenW_extM {m c k:Int} (h:seenW m c k) (h0:0≤k) (e:IntKind.i64.wrap (mg m (fl c k.toNat 0)+1)=1):seenW (setM m (fl c k.toNat 0) (IntKind.i64.wrap (mg m (fl c k.toNat 0)+1))) c (k+1):=by
 have:=seenW_ext h h0 e
 intro x
 rw [mg_setM,← mg_ms]
 exact this x
theorem rgtW_end {c n k:Int} (h:mayX c k) (e:n≤k) (h1:n≤256):rgtW c n:=⟨h1,fun j hj=>h j (by omega)⟩
theorem mul_sp {n s:Int} (h1:1≤n) (h2:n≤64) (h3:1≤s) (h4:s≤4):0≤n * s∧n * s≤256:=by
 have:s=1∨s=2∨s=3∨s=4:=by omega
 rcases this with rfl | rfl | rfl | rfl<;>omega
def andS (z n l s y h:Int):Int:=if z=1∧sitR n l s y h then 1 else 0
def andT (z a b c:Int):Int:=if z=1∧lisR a b c then 1 else 0
def andC (z v f w:Int):Int:=if z=1∧f≤v∧w≤4611686018427387904 then 1 else 0
def newN (n l s v f w:Int):Int:=if shpR n l s∧f≤v∧w≤4611686018427387904 then 1 else 0
theorem andS_one (z n l s y h:Int):(andS z n l s y h=1)=(z=1∧sitR n l s y h):=one_if
theorem andT_one (z a b c:Int):(andT z a b c=1)=(z=1∧lisR a b c):=one_if
theorem andC_one (z v f w:Int):(andC z v f w=1)=(z=1∧f≤v∧w≤4611686018427387904):=one_if
theorem newN_one (n l s v f w:Int):(newN n l s v f w=1)=(shpR n l s∧f≤v∧w≤4611686018427387904):=one_if
def zerC (n:Int):Int:=frzC n 0
def dE (v f r n:Int):Int:=if f≤v∧r≤4611686018427387904∧0 < n then (if v - f < n then 140 else if 4611686018427387904≤r then 142 else 0) else 2
def cE (v f r n:Int):Int:=if f≤v∧r≤4611686018427387904∧0 < n then (if 9223372036854775807 - v < n then 141 else if 4611686018427387904≤r then 142 else 0) else 2
def xE (v f r n:Int):Int:=if 0 < n then cE v f r n else dE v f r (-n)
def onOk (e x:Int):Int:=if e=0 then x else 0
theorem cE_in (v f r n:Int):0≤cE v f r n∧cE v f r n≤200:=by unfold cE;repeat' split<;>omega
theorem dE_in (v f r n:Int):0≤dE v f r n∧dE v f r n≤200:=by unfold dE;repeat' split<;>omega
theorem xE_in (v f r n:Int):0≤xE v f r n∧xE v f r n≤200:=by unfold xE;split;exact cE_in ..;exact dE_in ..
theorem i64_has (x:Int):-9223372036854775808≤IntKind.i64.wrap x∧IntKind.i64.wrap x≤9223372036854775807:=by rw [wrap_i64];omega
theorem u64_has (x:Int):0≤IntKind.u64.wrap x∧IntKind.u64.wrap x≤18446744073709551615:=by rw [wrap_u64];omega
def modA (c s:Int):Int:=if 0≤fndC c (flenC c) s then fl c (fndC c (flenC c) s).toNat 2 else 0
def chgE (z a c s e:Int):Int:=if z≠1∨s < 0∨flenC a≤s then 2 else if modA c s≠5 then 240 else max 0 (min e 300)
def valE (z a c s:Int):Int:=if z≠1∨s < 0∨flenC a≤s then 2 else if modA c s < 3∨5 < modA c s then 240 else 0
theorem chgE_in (z a c s e:Int):0≤chgE z a c s e∧chgE z a c s e≤300:=by unfold chgE;repeat' split<;>omega
theorem valE_in (z a c s:Int):0≤valE z a c s∧valE z a c s≤300:=by unfold valE;repeat' split<;>omega
theorem chgE_ok {z a c s e:Int} (h:z=1) (h0:0≤s) (h1:s < flenC a) (hm:modA c s=5) (e0:0≤e) (e1:e≤300):chgE z a c s e=e:=by
 unfold chgE;rw [if_neg (by omega),if_neg (by omega)];omega
theorem chgE_2 {z a c s e:Int} (h:z≠1∨s < 0∨flenC a≤s):chgE z a c s e=2:=if_pos h
theorem chgE_w {z a c s e:Int} (h:z=1) (h0:0≤s) (h1:s < flenC a) (hm:modA c s≠5):chgE z a c s e=240:=by
 unfold chgE;rw [if_neg (by omega),if_pos hm]
theorem valE_ok {z a c s:Int} (h:z=1) (h0:0≤s) (h1:s < flenC a) (hm:3≤modA c s∧modA c s≤5):valE z a c s=0:=by
 unfold valE;rw [if_neg (by omega),if_neg (by omega)]
theorem valE_2 {z a c s:Int} (h:z≠1∨s < 0∨flenC a≤s):valE z a c s=2:=if_pos h
theorem valE_w {z a c s:Int} (h:z=1) (h0:0≤s) (h1:s < flenC a) (hm:modA c s < 3∨5 < modA c s):valE z a c s=240:=by
 unfold valE;rw [if_neg (by omega),if_pos hm]
theorem modA_is {c s:Int} (h:0≤fndC c (flenC c) s):modA c s=fl c (fndC c (flenC c) s).toNat 2:=if_pos h
theorem modA_no {c s:Int} (h:¬ 0≤fndC c (flenC c) s):modA c s=0:=if_neg h
end
end Go.Sx.Tk
