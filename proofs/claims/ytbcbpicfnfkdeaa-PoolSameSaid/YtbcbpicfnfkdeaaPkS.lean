/- The pool: what is computed (plain). -/
import Derived.Test.YtbcbpicfnfkdeaaSxSt
namespace Go.Sx.Pk
set_option linter.unusedVariables false
set_option linter.unusedSimpArgs false
noncomputable section
open Go Go.Sx
def fl (c:Int) (j f:Nat):Int:=IntKind.i64.wrap (gt c j f)
def by8 (c:Int) (j f:Nat):Int:=IntKind.u8.wrap (gt c j f)
def fstR (P:Nat→Prop):Nat→Int
 | 0=>-1
 | n+1=>if 0≤fstR P n then fstR P n else @ite _ (P n) (Classical.propDecidable _) (n:Int) (-1)
theorem fstR_spec (P:Nat→Prop):∀ n:Nat,(fstR P n=-1∧∀ j,j < n→¬ P j)∨(∃ k:Nat,fstR P n=k∧k < n∧P k∧∀ j,j < k→¬ P j)
 | 0=>.inl ⟨rfl,fun j hj=>by omega⟩
 | n+1=>by
   rcases fstR_spec P n with ⟨h,hn⟩ | ⟨k,h,hk,hp,hn⟩
   ·unfold fstR
    rw [h,if_neg (by omega)]
    by_cases hp:P n
    ·rw [if_pos hp];exact .inr ⟨n,rfl,by omega,hp,hn⟩
    ·rw [if_neg hp]
     refine .inl ⟨rfl,fun j hj=>?_⟩
     by_cases e:j=n
     ·rw [e];exact hp
     ·exact hn j (by omega)
   ·unfold fstR
    rw [h,if_pos (by omega)]
    exact .inr ⟨k,rfl,by omega,hp,hn⟩
def fstI (P:Nat→Prop) (n:Int):Int:=fstR P n.toNat
theorem fstI_cases (P:Nat→Prop) (n:Int):(fstI P n=-1∧∀ j:Nat,(j:Int) < n→¬ P j)∨(0≤fstI P n∧fstI P n < n∧P (fstI P n).toNat∧∀ j:Nat,(j:Int) < fstI P n→¬ P j):=by
 unfold fstI
 rcases fstR_spec P n.toNat with ⟨e,hn⟩ | ⟨i,e,hi,hpi,hn⟩
 ·exact .inl ⟨e,fun j hj=>hn j (by omega)⟩
 ·rw [e];exact .inr ⟨by omega,by omega,by simpa using hpi,fun j hj=>hn j (by omega)⟩
def frst (P:Nat→Prop) (n:Int):Int:=if 0≤fstI P n then fstI P n else max 0 n
theorem frst_spec (P:Nat→Prop) {n:Int} (h0:0≤n):0≤frst P n∧frst P n≤n∧(∀ j:Nat,(j:Int) < frst P n→¬ P j)∧(frst P n < n→P (frst P n).toNat):=by
 unfold frst
 rcases fstI_cases P n with ⟨e,hn⟩ | ⟨e1,e2,e3,e4⟩
 ·rw [if_neg (by omega)];exact ⟨by omega,by omega,fun j hj=>hn j (by omega),fun h=>by omega⟩
 ·rw [if_pos e1];exact ⟨e1,by omega,e4,fun _=>e3⟩
theorem frst_eq {P:Nat→Prop} {n k:Int} (h0:0≤k) (hk:k≤n) (h:∀ j:Nat,(j:Int) < k→¬ P j) (hp:k < n→P k.toNat):frst P n=k:=by
 obtain ⟨a1,a2,a3,a4⟩:=frst_spec P (show 0≤n by omega)
 by_cases e1:frst P n < k
 ·exact absurd (a4 (by omega)) (h _ (by omega))
 ·by_cases e2:k < frst P n
  ·exact absurd (hp (by omega)) (a3 k.toNat (by omega))
  ·omega
def mayN (nodes a b len n:Int):Int:=if a < 0∨nodes≤a∨b < 0∨nodes≤b∨a=b then 2 else if 65536 < len then 3 else if 4096≤n then 200 else 0
theorem mayN_in (nodes a b len n:Int):0≤mayN nodes a b len n∧mayN nodes a b len n≤200:=by
 unfold mayN;split;omega;split;omega;split<;>omega
def mayAt (nodes n d:Int) (j:Nat):Int:=mayN nodes (fl d j 0) (fl d j 1) (flenC (gt d j 2)) (n+j)
def putK (nodes n d:Int):Int:=frst (fun j=>mayAt nodes n d j≠0) (flenC d)
def putE (nodes n d:Int):Int:=if putK nodes n d < flenC d then mayAt nodes n d (putK nodes n d).toNat else 0
def Rw (a b:Int) (i j:Nat):Prop:=fl a i 0=fl b j 0∧fl a i 1=fl b j 1∧gt a i 2=gt b j 2
theorem Rw.refl (a:Int) (i:Nat):Rw a a i i:=⟨rfl,rfl,rfl⟩
theorem Rw.symm {a b:Int} {i j:Nat} (h:Rw a b i j):Rw b a j i:=⟨h.1.symm,h.2.1.symm,h.2.2.symm⟩
theorem Rw.trans {a b c:Int} {i j k:Nat} (h:Rw a b i j) (g:Rw b c j k):Rw a c i k:=⟨h.1.trans g.1,h.2.1.trans g.2.1,h.2.2.trans g.2.2⟩
def eqN (a b n:Int):Prop:=∀ j:Nat,(j:Int) < n→Rw a b j j
def relP (w' w d nodes:Int):Prop:=flenC w'=flenC w+putK nodes (flenC w) d∧eqN w' w (flenC w)∧∀ j:Nat,(j:Int) < putK nodes (flenC w) d→Rw w' d ((flenC w).toNat+j) j
def relT (w' w a:Int):Prop:=flenC w'=flenC w - 1∧∀ j:Nat,(j:Int) < flenC w - 1→Rw w' w j (if (j:Int) < a then j else j+1)
def relD (w' w a:Int):Prop:=flenC w'=flenC w+1∧eqN w' w (flenC w)∧Rw w' w (flenC w).toNat a.toNat
def putW (nodes w d:Int):Int:=frzC (flenC w+putK nodes (flenC w) d) (blitC w (flenC w) d 0 (putK nodes (flenC w) d))
def rmP (w a:Int):Int:=frzC (flenC w - 1) (blitC w a w (a+1) (flenC w - a - 1))
def dblP (w a:Int):Int:=frzC (flenC w+1) (blitC w (flenC w) w a 1)
theorem putE_in (nodes n d:Int):0≤putE nodes n d∧putE nodes n d≤200:=by
 unfold putE;split
 ·exact mayN_in ..
 ·omega
theorem w64 (x:Int):IntKind.i64.wrap (IntKind.i64.wrap x)=IntKind.i64.wrap x:=by rw [wrap_i64,wrap_i64];omega
theorem Rw_old {c n x y z:Int} {j:Nat} (h:j≠n.toNat):Rw (setC (setC (setC c n 0 x) n 1 y) n 2 z) c j j:=by
 unfold Rw fl;simp only [gt_setI];simp [h]
theorem Rw_new {c n x y z d:Int} {j i:Nat} (h:j=n.toNat) (hx:x=fl d i 0) (hy:y=fl d i 1) (hz:z=gt d i 2):Rw (setC (setC (setC c n 0 x) n 1 y) n 2 z) d j i:=by
 subst hx hy hz h
 unfold Rw fl;simp only [gt_setI];simp [w64]
theorem Rw_frzL {c d n:Int} {j i:Nat}:Rw (frzC n c) d j i↔Rw c d j i:=by
 unfold Rw fl;simp only [gt_frz _ _ _ _ (show 0 < 24 by omega),gt_frz _ _ _ _ (show 1 < 24 by omega),gt_frz _ _ _ _ (show 2 < 24 by omega)]
theorem Rw_blit {c c' d i i' n:Int} {j k:Nat}:Rw (blitC c i c' i' n) d j k↔(if i.toNat≤j∧j < i.toNat+n.toNat then Rw c' d (i'.toNat+(j - i.toNat)) k else Rw c d j k):=by
 unfold Rw fl;simp only [gt_blitI]
 split<;>rfl
theorem fl_frz {n c:Int} {j f:Nat} (h:f < 24):fl (frzC n c) j f=fl c j f:=by unfold fl;rw [gt_frz _ _ _ _ h]
theorem putK_spec (nodes n d:Int):0≤putK nodes n d∧putK nodes n d≤flenC d∧(∀ j:Nat,(j:Int) < putK nodes n d→mayAt nodes n d j=0)∧(putK nodes n d < flenC d→mayAt nodes n d (putK nodes n d).toNat≠0):=by
 obtain ⟨a1,a2,a3,a4⟩:=frst_spec (fun j=>mayAt nodes n d j≠0) (flenC_nn d)
 exact ⟨a1,a2,fun j hj=>Classical.not_not.1 (a3 j hj),a4⟩
theorem putK_eq {nodes n d k:Int} (h0:0≤k) (hk:k≤flenC d) (h:∀ j:Nat,(j:Int) < k→mayAt nodes n d j=0) (hp:k < flenC d→mayAt nodes n d k.toNat≠0):putK nodes n d=k:=
 frst_eq h0 hk (fun j hj=>Classical.not_not.2 (h j hj)) hp
def okN (nodes n d k:Int):Prop:=∀ j:Nat,(j:Int) < k→mayAt nodes n d j=0
theorem okN_suc {nodes n d k:Int} (h:okN nodes n d k) (h0:0≤k) (hm:mayAt nodes n d k.toNat=0):okN nodes n d (k+1):=fun j hj=>by
 by_cases e:(j:Int) < k
 ·exact h j e
 ·have:j=k.toNat:=by omega
  rw [this];exact hm
theorem mayAt_lt {nodes n d:Int} {j:Nat} (h:mayAt nodes n d j=0):n+j < 4096:=by
 unfold mayAt mayN at h
 split at h;omega
 split at h;omega
 split at h<;>omega
def putR (c w n d k:Int):Prop:=eqN c w n∧∀ j:Nat,(j:Int) < k→Rw c d (n.toNat+j) j
theorem putR_zero (w n d:Int):putR w w n d 0:=⟨fun j _=>Rw.refl w j,fun j hj=>by omega⟩
theorem putR_suc {c w n d k m x y z:Int} (h:putR c w n d k) (hm:m=n+k) (hn:0≤n) (hk:0≤k) (hx:x=fl d k.toNat 0) (hy:y=fl d k.toNat 1) (hz:z=gt d k.toNat 2):putR (setC (setC (setC c m 0 x) m 1 y) m 2 z) w n d (k+1):=by
 subst hm
 refine ⟨fun j hj=>(Rw_old (by omega)).trans (h.1 j hj),fun j hj=>?_⟩
 by_cases e:(j:Int) < k
 ·exact (Rw_old (by omega)).trans (h.2 j e)
 ·have:j=k.toNat:=by omega
  subst this
  exact Rw_new (by omega) hx hy hz
theorem relP_of {nodes w d c k w':Int} (hk:putK nodes (flenC w) d=k) (h:putR c w (flenC w) d k) (hl:flenC w'=flenC w+k) (hc:∀ j i:Nat,∀ e,Rw w' e j i↔Rw c e j i):relP w' w d nodes:=by
 subst hk
 exact ⟨hl,fun j hj=>(hc _ _ _).2 (h.1 j hj),fun j hj=>(hc _ _ _).2 (h.2 j hj)⟩
theorem put_all {nodes w d c n k m:Int} (hn:n=flenC w) (hm:m=n+k) (ho:okN nodes n d k) (h0:0≤k) (hk:k=flenC d) (h:putR c w n d k):putK nodes (flenC w) d=k∧putE nodes n d=0∧relP (frzC m c) w d nodes:=by
 subst hn hm
 have e:putK nodes (flenC w) d=k:=putK_eq h0 (by omega) ho (fun h=>by omega)
 have:=flenC_nn w
 exact ⟨e,by unfold putE;rw [e,if_neg (by omega)],relP_of e h (flenC_frz _ _ (by omega)) (fun _ _ _=>Rw_frzL)⟩
theorem put_some {nodes w d c n k m:Int} (hn:n=flenC w) (hl:m=n+k) (ho:okN nodes n d k) (h0:0≤k) (hk:k < flenC d) (h:putR c w n d k) (hm:mayAt nodes n d k.toNat≠0):putK nodes (flenC w) d=k∧putE nodes n d=mayAt nodes n d k.toNat∧relP (frzC m c) w d nodes:=by
 subst hn hl
 have e:putK nodes (flenC w) d=k:=putK_eq h0 (by omega) ho (fun _=>hm)
 have:=flenC_nn w
 exact ⟨e,by unfold putE;rw [e,if_pos hk],relP_of e h (flenC_frz _ _ (by omega)) (fun _ _ _=>Rw_frzL)⟩
theorem put_all0 {nodes w d n:Int} (hn:n=flenC w) (hk:flenC d=0):putK nodes (flenC w) d=0∧putE nodes n d=0∧relP w w d nodes:=by
 subst hn
 have e:putK nodes (flenC w) d=0:=putK_eq (by omega) (by omega) (fun j hj=>by omega) (fun h=>by omega)
 exact ⟨e,by unfold putE;rw [e,if_neg (by omega)],relP_of e (putR_zero w _ d) (by omega) (fun _ _ _=>Iff.rfl)⟩
theorem put_some0 {nodes w d n:Int} (hn:n=flenC w) (hk:0 < flenC d) (hm:mayAt nodes n d 0≠0):putK nodes (flenC w) d=0∧putE nodes n d=mayAt nodes n d 0∧relP w w d nodes:=by
 subst hn
 have e:putK nodes (flenC w) d=0:=putK_eq (by omega) (by omega) (fun j hj=>by omega) (fun _=>hm)
 exact ⟨e,by unfold putE;rw [e,if_pos hk];rfl,relP_of e (putR_zero w _ d) (by omega) (fun _ _ _=>Iff.rfl)⟩
theorem relT_of {w a:Int} (h0:0≤a) (h1:a < flenC w):∀ {c:Int},(∀ j:Nat,(j:Int) < flenC w - 1→Rw c w j (if (j:Int) < a then j else j+1))→relT (frzC (flenC w - 1) c) w a:=fun {c} h=>
 ⟨flenC_frz _ _ (by omega),fun j hj=>Rw_frzL.2 (h j hj)⟩
theorem relD_of {w a x y z:Int} (h0:0≤a) (hx:x=fl w a.toNat 0) (hy:y=fl w a.toNat 1) (hz:z=gt w a.toNat 2):relD (frzC (flenC w+1) (setC (setC (setC w (flenC w) 0 x) (flenC w) 1 y) (flenC w) 2 z)) w a:=by
 have:=flenC_nn w
 exact ⟨flenC_frz _ _ (by omega),fun j hj=>Rw_frzL.2 (Rw_old (by omega)),Rw_frzL.2 (Rw_new rfl hx hy hz)⟩
theorem mayAt_eq {nodes d n k m:Int} (hk:0≤k) (hm:m=n+k):mayAt nodes n d k.toNat=mayN nodes (fl d k.toNat 0) (fl d k.toNat 1) (flenC (gt d k.toNat 2)) m:=by
 subst hm;unfold mayAt;rw [show ((k.toNat:Nat):Int)=k by omega]
def lenOk (c n:Int):Prop:=∀ j:Nat,(j:Int) < n→flenC (gt c j 2)≤65536
def cpR (c n:Int):Int:=arrC n.toNat 3 (fun j f=>if f=2 then gt c j 2 else fl c j f)
theorem Rw_cpR {c n:Int} {j:Nat} (h:(j:Int) < n):Rw (cpR c n) c j j:=by
 have h1:j < n.toNat:=by omega
 unfold Rw fl cpR
 simp only [gt_arrC,h1,true_and]
 refine ⟨?_,?_,by simp⟩
 ·simp [fl,w64]
 ·simp [fl,w64]
def cntTn (c node:Int):Nat→Int
 | 0=>0
 | n+1=>cntTn c node n+@ite _ (fl c n 1=node) (Classical.propDecidable _) 1 0
def cntT (c n node:Int):Int:=cntTn c node n.toNat
theorem cntTn_in (c node:Int):∀ n:Nat,0≤cntTn c node n∧cntTn c node n≤n
 | 0=>by simp [cntTn]
 | n+1=>by
   have:=cntTn_in c node n
   unfold cntTn
   split<;>omega
theorem cntT_in (c n node:Int):0≤cntT c n node:=(cntTn_in c node n.toNat).1
theorem cntT_le (c n node:Int) (h:0≤n):cntT c n node≤n:=by
 have:=(cntTn_in c node n.toNat).2
 unfold cntT;omega
theorem cntT_zero (c node:Int):cntT c 0 node=0:=rfl
theorem cntT_yes {c n node:Int} (h:0≤n) (e:fl c n.toNat 1=node):cntT c (n+1) node=cntT c n node+1:=by
 unfold cntT
 rw [show (n+1).toNat=n.toNat+1 by omega]
 show cntTn c node n.toNat+_=_
 rw [if_pos e]
theorem cntT_no {c n node:Int} (h:0≤n) (e:fl c n.toNat 1≠node):cntT c (n+1) node=cntT c n node:=by
 unfold cntT
 rw [show (n+1).toNat=n.toNat+1 by omega]
 show cntTn c node n.toNat+_=_
 rw [if_neg e];omega
theorem cntTn_mono (c node:Int) {i:Nat}:∀ {n:Nat},i≤n→cntTn c node i≤cntTn c node n
 | 0,h=>by have:i=0:=by omega
           subst this;exact Int.le_refl _
 | n+1,h=>by
   by_cases e:i=n+1
   ·subst e;exact Int.le_refl _
   ·have:=cntTn_mono c node (n:=n) (i:=i) (by omega)
    have e2:cntTn c node (n+1)=cntTn c node n+@ite _ (fl c n 1=node) (Classical.propDecidable _) 1 0:=rfl
    rw [e2]
    split<;>omega
def toR (y c n node:Int):Prop:=flenC y=cntT c n node∧∀ j:Nat,(j:Int) < n→fl c j 1=node→fl y (cntT c j node).toNat 0=j
def sameP (a b:Int) (j:Nat):Prop:=fl a j 0=fl b j 0∧fl a j 1=fl b j 1∧bytesC (gt a j 2)=bytesC (gt b j 2)
theorem sameP_of {a b:Int} {j:Nat} (h:Rw a b j j):sameP a b j:=⟨h.1,h.2.1,by rw [h.2.2]⟩
def isB (c w n many:Int):Prop:=n=flenC w∧∀ j:Nat,(j:Int) < min n (max 1 many)→sameP c w j
theorem isB_of {c w n many:Int} (h:n=flenC w) (e:eqN c w n):isB c w n many:=⟨h,fun j hj=>sameP_of (e j (by omega))⟩
instance (a b c d:Int):Decidable (isB a b c d):=Classical.propDecidable _
instance (a b c d:Int):Decidable (toR a b c d):=Classical.propDecidable _
instance (a b:Int):Decidable (lenOk a b):=Classical.propDecidable _
theorem putK_in (nodes n d:Int):0≤putK nodes n d:=(putK_spec nodes n d).1
theorem putW_rel (nodes w d:Int):relP (putW nodes w d) w d nodes:=by
 have h0:=putK_in nodes (flenC w) d
 have h1:=flenC_nn w
 unfold putW
 refine ⟨flenC_frz _ _ (by omega),fun j hj=>?_,fun j hj=>?_⟩
 ·rw [Rw_frzL,Rw_blit,if_neg (by omega)];exact Rw.refl w j
 ·rw [Rw_frzL,Rw_blit,if_pos (by omega)]
  rw [show (0:Int).toNat+((flenC w).toNat+j - (flenC w).toNat)=j by omega];exact Rw.refl d j
theorem rmP_rel {w a:Int} (h0:0≤a) (h1:a < flenC w):relT (rmP w a) w a:=by
 refine relT_of h0 h1 fun j hj=>?_
 rw [Rw_blit]
 by_cases e:(j:Int) < a
 ·rw [if_neg (by omega),if_pos e];exact Rw.refl w j
 ·rw [if_pos (by omega),if_neg e,show (a+1).toNat+(j - a.toNat)=j+1 by omega];exact Rw.refl w _
theorem dblP_rel {w a:Int} (h0:0≤a):relD (dblP w a) w a:=by
 have h1:=flenC_nn w
 unfold dblP
 refine ⟨flenC_frz _ _ (by omega),fun j hj=>?_,?_⟩
 ·rw [Rw_frzL,Rw_blit,if_neg (by omega)];exact Rw.refl w j
 ·rw [Rw_frzL,Rw_blit,if_pos (by omega),show a.toNat+((flenC w).toNat - (flenC w).toNat)=a.toNat by omega];exact Rw.refl w _
def sameW (a b:Int):Prop:=flenC a=flenC b∧∀ j:Nat,(j:Int) < flenC b→fl a j 0=fl b j 0∧fl a j 1=fl b j 1∧gt a j 2=gt b j 2
theorem relP_eq {a b w d nodes:Int} (h:relP a w d nodes) (g:relP b w d nodes):sameW a b:=by
 obtain ⟨h1,h2,h3⟩:=h
 obtain ⟨g1,g2,g3⟩:=g
 have n1:=flenC_nn w
 refine ⟨by omega,fun j hj=>?_⟩
 by_cases e:(j:Int) < flenC w
 ·exact (h2 j e).trans (g2 j e).symm
 ·obtain ⟨k,rfl⟩:∃ k,j=(flenC w).toNat+k:=⟨j - (flenC w).toNat,by omega⟩
  exact (h3 k (by omega)).trans (g3 k (by omega)).symm
theorem relT_eq {a b w x:Int} (h:relT a w x) (g:relT b w x):sameW a b:=by
 obtain ⟨h1,h2⟩:=h
 obtain ⟨g1,g2⟩:=g
 exact ⟨by omega,fun j hj=>(h2 j (by omega)).trans (g2 j (by omega)).symm⟩
theorem relD_eq {a b w x:Int} (h:relD a w x) (g:relD b w x):sameW a b:=by
 obtain ⟨h1,h2,h3⟩:=h
 obtain ⟨g1,g2,g3⟩:=g
 have n1:=flenC_nn w
 refine ⟨by omega,fun j hj=>?_⟩
 by_cases e:(j:Int) < flenC w
 ·exact (h2 j e).trans (g2 j e).symm
 ·have:j=(flenC w).toNat:=by omega
  subst this
  exact h3.trans g3.symm
theorem put_all2 {nodes w d c n k m:Int} (hn:n=flenC w) (hm:m=n+k) (ho:okN nodes n d k) (h0:0≤k) (hk:k=flenC d) (h:putR c w n d k):putE nodes n d=0∧sameW (putW nodes w d) (frzC m c):=
 ⟨(put_all hn hm ho h0 hk h).2.1,relP_eq (putW_rel _ _ _) (put_all hn hm ho h0 hk h).2.2⟩
theorem put_some2 {nodes w d c n k m:Int} (hn:n=flenC w) (hl:m=n+k) (ho:okN nodes n d k) (h0:0≤k) (hk:k < flenC d) (h:putR c w n d k) (hm:mayAt nodes n d k.toNat≠0):putE nodes n d=mayAt nodes n d k.toNat∧sameW (putW nodes w d) (frzC m c):=
 ⟨(put_some hn hl ho h0 hk h hm).2.1,relP_eq (putW_rel _ _ _) (put_some hn hl ho h0 hk h hm).2.2⟩
theorem put_all02 {nodes w d n:Int} (hn:n=flenC w) (hk:flenC d=0):putE nodes n d=0∧sameW (putW nodes w d) w:=⟨(put_all0 hn hk).2.1,relP_eq (putW_rel _ _ _) (put_all0 hn hk).2.2⟩
theorem put_some02 {nodes w d n:Int} (hn:n=flenC w) (hk:0 < flenC d) (hm:mayAt nodes n d 0≠0):putE nodes n d=mayAt nodes n d 0∧sameW (putW nodes w d) w:=⟨(put_some0 hn hk hm).2.1,relP_eq (putW_rel _ _ _) (put_some0 hn hk hm).2.2⟩
theorem rm_run {w a k:Int} (h0:0≤a) (h1:a < flenC w) (hk:k=a+1):sameW (rmP w a) (frzC (a+(flenC w - k)) (blitC (frzC a w) a (frzC (flenC w - k) (blitC 0 0 w k (flenC w - k))) 0 (flenC w - k))):=by
 subst hk
 refine relT_eq (rmP_rel h0 h1) ⟨by rw [flenC_frz _ _ (by omega)];omega,fun j hj=>?_⟩
 rw [Rw_frzL,Rw_blit]
 by_cases e:(j:Int) < a
 ·rw [if_neg (by omega),if_pos e,Rw_frzL];exact Rw.refl w j
 ·rw [if_pos (by omega),if_neg e,Rw_frzL,Rw_blit,if_pos (by omega),show (a+1).toNat+((0:Int).toNat+(j - a.toNat) - (0:Int).toNat)=j+1 by omega];exact Rw.refl w _
theorem eqN_suc {c d n m x y z:Int} (h:eqN c d n) (hm:m=n) (h0:0≤n) (hx:x=fl d n.toNat 0) (hy:y=fl d n.toNat 1) (hz:z=gt d n.toNat 2):eqN (setC (setC (setC c m 0 x) m 1 y) m 2 z) d (n+1):=by
 subst hm
 intro j hj
 by_cases e:(j:Int) < m
 ·exact (Rw_old (by omega)).trans (h j e)
 ·have:j=m.toNat:=by omega
  subst this
  exact Rw_new rfl hx hy hz
theorem eqN_one {d x y z:Int} (hx:x=fl d 0 0) (hy:y=fl d 0 1) (hz:z=gt d 0 2):eqN (setC (setC (setC 0 0 0 x) 0 1 y) 0 2 z) d 1:=eqN_suc (n:=0) (fun j hj=>by omega) rfl (by omega) hx hy hz
theorem eqN_cpR {c d n:Int} (h:eqN c d n):∀ j:Nat,(j:Int) < n→fl (cpR d n) j 0=fl c j 0∧fl (cpR d n) j 1=fl c j 1∧gt (cpR d n) j 2=gt c j 2:=fun j hj=>(Rw_cpR hj).trans (h j hj).symm
theorem row_one {x y z d:Int} (hx:x=fl d 0 0) (hy:y=fl d 0 1):fl (setC (setC (setC 0 0 0 x) 0 1 y) 0 2 z) 0 0=fl d 0 0∧fl (setC (setC (setC 0 0 0 x) 0 1 y) 0 2 z) 0 1=fl d 0 1∧gt (setC (setC (setC 0 0 0 x) 0 1 y) 0 2 z) 0 2=z:=by
 subst hx hy
 unfold fl;simp only [gt_setI];simp [w64]
def isT (c w i:Int):Prop:=∀ j:Nat,(j:Int) < i→sameP c w j
theorem isT_zero (c w:Int):isT c w 0:=fun j hj=>by omega
theorem isT_suc {c w i:Int} (h:isT c w i) (h0:0≤i) (hs:sameP c w i.toNat):isT c w (i+1):=fun j hj=>by
 by_cases e:(j:Int) < i
 ·exact h j e
 ·have:j=i.toNat:=by omega
  rw [this];exact hs
theorem isB_yes {c w n many i:Int} (h:n=flenC w) (ht:isT c w i) (hi:min n (max 1 many)≤i):isB c w n many:=⟨h,fun j hj=>ht j (by omega)⟩
theorem isB_len {c w n many:Int} (h:n≠flenC w):¬ isB c w n many:=fun g=>h g.1
theorem isB_no {c w n many i:Int} (h0:0≤i) (hi:i < min n (max 1 many)) (hs:¬ sameP c w i.toNat):¬ isB c w n many:=fun g=>hs (g.2 _ (by omega))
theorem sameP_cpR {c w n:Int} {j:Nat} (h:(j:Int) < n):sameP (cpR c n) w j↔sameP c w j:=by
 obtain ⟨h1,h2,h3⟩:=Rw_cpR (c:=c) h
 unfold sameP;rw [h1,h2,h3]
def rmR (c' c n a:Int):Prop:=∀ j:Nat,(j:Int) < n - 1→Rw c' c j (if (j:Int) < a then j else j+1)
theorem rmR_blit {c n a k m:Int} (h0:0≤a) (hk:k=a+1) (hm:m=n - a - 1):rmR (blitC c a c k m) c n a:=by
 subst hk hm
 intro j hj
 rw [Rw_blit]
 by_cases e:(j:Int) < a
 ·rw [if_neg (by omega),if_pos e];exact Rw.refl c j
 ·rw [if_pos (by omega),if_neg e,show (a+1).toNat+(j - a.toNat)=j+1 by omega];exact Rw.refl c _
theorem rmR_eq {x y c n a:Int} (h:rmR x c n a) (g:rmR y c n a):∀ j:Nat,(j:Int) < n - 1→fl x j 0=fl y j 0∧fl x j 1=fl y j 1∧gt x j 2=gt y j 2:=fun j hj=>(h j hj).trans (g j hj).symm
def relB (c n w:Int):Prop:=n=flenC w∧eqN c w n
def rowsOk (c n nodes:Int):Prop:=∀ j:Nat,(j:Int) < n→mayN nodes (fl c j 0) (fl c j 1) (flenC (gt c j 2)) 0=0
instance (a b c:Int):Decidable (relB a b c):=Classical.propDecidable _
instance (a b c:Int):Decidable (rowsOk a b c):=Classical.propDecidable _
def sameN (a b n m:Int):Prop:=n=m∧∀ j:Nat,(j:Int) < n→sameP a b j
instance (a b n m:Int):Decidable (sameN a b n m):=Classical.propDecidable _
def fewI (y:Int):Nat→Int→Int→Int
 | 0,_,n=>n
 | f+1,k,n=>if k < flenC y∧k≤100∧n≤2000 then fewI y f (k+1) (n+(if 2001 < flenC (gt y k.toNat 2) then 2001 else flenC (gt y k.toNat 2))) else n
def fewT (c N most:Int):Nat→Int→Int→Int→Prop
 | 0,_,m,n=>N≤most∧m≤100∧n≤2000
 | f+1,i,m,n=>if i < N∧i≤most∧m≤100 then fewT c N most f (i+1) (m+(if 101 < flenC (gt c i.toNat 2) then 101 else flenC (gt c i.toNat 2))) (fewI (gt c i.toNat 2) 200 0 n) else N≤most∧m≤100∧n≤2000
def fewB (c N most:Int):Prop:=fewT c N most 102 0 0 0
instance (a b c:Int):Decidable (fewB a b c):=Classical.propDecidable _
end
end Go.Sx.Pk
