/- The pool: plain laws of the places of those to a node. -/
import Derived.Test.YtbcbpicfnfkdeaaPkV
namespace Go.Sx.Pk
set_option linter.unusedVariables false
set_option linter.unusedSimpArgs false
open Go Go.Sx
def toP (y c i node:Int):Prop:=∀ j:Nat,(j:Int) < i→fl c j 1=node→fl y (cntT c j node).toNat 0=j
theorem cnt_lt {c node i:Int} {j:Nat} (h:(j:Int) < i) (e:fl c j 1=node):cntT c j node < cntT c i node:=by
 have h1:cntT c ((j:Int)+1) node=cntT c j node+1:=cntT_yes (by omega) (by simpa using e)
 have h2:=cntTn_mono c node (i:=j+1) (n:=i.toNat) (by omega)
 have h3:cntT c ((j:Int)+1) node=cntTn c node (j+1):=by unfold cntT;rw [show ((j:Int)+1).toNat=j+1 by omega]
 unfold cntT at h1 h3 ⊢
 omega
theorem toP_zero {y c i node:Int} (h:cntT c i node=0):toP y c i node:=fun j hj e=>by
 have:=cnt_lt hj e
 have:=cntT_in c j node
 omega
theorem toP_no {y c i node:Int} (h:toP y c i node) (h0:0≤i) (e:fl c i.toNat 1≠node):toP y c (i+1) node∧cntT c (i+1) node=cntT c i node:=⟨fun j hj hm=>by
 by_cases q:(j:Int) < i
 ·exact h j q hm
 ·have:j=i.toNat:=by omega
  subst this;exact absurd hm e,cntT_no h0 e⟩
theorem toP_yes {y c i node m:Int} (h:toP y c i node) (h0:0≤i) (h1:i≤4096) (hm:m=cntT c i node) (e:fl c i.toNat 1=node):toP (setC y m 0 i) c (i+1) node∧cntT c (i+1) node=m+1:=by
 subst hm
 refine ⟨fun j hj hj2=>?_,cntT_yes h0 e⟩
 have hn:=cntT_in c i node
 have hw:IntKind.i64.wrap i=i:=by rw [wrap_i64];omega
 by_cases q:(j:Int) < i
 ·have:=cnt_lt q hj2
  have:=cntT_in c j node
  unfold fl;rw [gt_setI,if_neg (by omega)];exact h j q hj2
 ·have:j=i.toNat:=by omega
  subst this
  have ee:((i.toNat:Nat):Int)=i:=by omega
  rw [ee]
  unfold fl;rw [gt_setI,if_pos ⟨rfl,rfl⟩];exact hw
theorem toR_of {y c n node m:Int} (h:toP y c n node) (hm:m=cntT c n node):toR (frzC m y) c n node:=by
 subst hm
 exact ⟨flenC_frz _ _ (cntT_in _ _ _),fun j hj e=>by rw [fl_frz (by omega)];exact h j hj e⟩
theorem toR_nil {c n node:Int} (h:cntT c n node=0):toR 0 c n node:=⟨by rw [flenC_zero,h],toP_zero h⟩
theorem fl_cpR {c n:Int} {j:Nat} (h:(j:Int) < n):fl (cpR c n) j 1=fl c j 1∧gt (cpR c n) j 2=gt c j 2:=⟨(Rw_cpR h).2.1,(Rw_cpR h).2.2⟩
theorem fl_set00 {i:Int} (h0:0≤i) (h1:i≤4096):fl (setC 0 0 0 i) 0 0=i:=by
 unfold fl;rw [gt_setI,if_pos ⟨rfl,rfl⟩,wrap_i64];omega
end Go.Sx.Pk
