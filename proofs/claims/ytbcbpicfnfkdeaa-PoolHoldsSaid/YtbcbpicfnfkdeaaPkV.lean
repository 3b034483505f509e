/- The pool: plain laws of PoolHolds. -/
import Derived.Test.YtbcbpicfnfkdeaaPkU
namespace Go.Sx.Pk
set_option linter.unusedVariables false
set_option linter.unusedSimpArgs false
open Go Go.Sx
def vR (c:Int) (j:Nat):Prop:=0≤fl c j 0∧fl c j 0 < 4∧0≤fl c j 1∧fl c j 1 < 4∧fl c j 0≠fl c j 1∧flenC (gt c j 2)≤65536
def okV (c n:Int):Prop:=∀ j:Nat,(j:Int) < n→vR c j
theorem vR_of {c d:Int} {i j:Nat} (h:Rw c d i j) (g:vR d j):vR c i:=by
 obtain ⟨h1,h2,h3⟩:=h
 unfold vR;rw [h1,h2,h3];exact g
theorem okV_len {c n:Int} (h:okV c n):lenOk c n:=fun j hj=>(h j hj).2.2.2.2.2
theorem okV_suc {c n m x y z d:Int} {i:Nat} (h:okV c n) (hm:m=n) (h0:0≤n) (hx:x=fl d i 0) (hy:y=fl d i 1) (hz:z=gt d i 2) (hv:vR d i):okV (setC (setC (setC c m 0 x) m 1 y) m 2 z) (n+1):=by
 subst hm
 intro j hj
 by_cases e:(j:Int) < m
 ·exact vR_of (Rw_old (by omega)) (h j e)
 ·have:j=m.toNat:=by omega
  exact vR_of (Rw_new this hx hy hz) hv
theorem eqN_set {c c' n m m' x y z x' y' z':Int} (h:eqN c c' n) (hm:m=n) (hm':m'=n) (h0:0≤n) (hx:x=x') (hy:y=y') (hz:z=z') :
  eqN (setC (setC (setC c m 0 x) m 1 y) m 2 z) (setC (setC (setC c' m' 0 x') m' 1 y') m' 2 z') (n+1):=by
 subst hx hy hz
 rw [hm,hm']
 intro j hj
 by_cases e:(j:Int) < n
 ·exact ((Rw_old (by omega)).trans (h j e)).trans (Rw_old (by omega)).symm
 ·have:j=n.toNat:=by omega
  subst this
  unfold Rw fl;simp only [gt_setI];simp
theorem eqN_refl (c n:Int):eqN c c n:=fun j _=>Rw.refl c j
theorem eqN_frz {c c' n m:Int} (h:eqN c c' n):eqN c (frzC m c') n:=fun j hj=>Rw_frzR.2 (h j hj)
theorem eqN_rm {c c' x y n m a:Int} (h:eqN c c' n) (hx:rmR x c n a) (hy:rmR y c' n a) (hm:m=n - 1):eqN x y m:=by
 subst hm
 intro j hj
 refine ((hx j hj).trans (h _ ?_)).trans (hy j hj).symm
 split<;>omega
theorem okV_rm {c x n m a:Int} (h:okV c n) (hx:rmR x c n a) (hm:m=n - 1):okV x m:=by
 subst hm
 intro j hj
 refine vR_of (hx j hj) (h _ ?_)
 split<;>omega
theorem isB_frz {c c' n many:Int} (h0:0≤n) (h:eqN c c' n):isB c (frzC n c') n many:=isB_of (flenC_frz _ _ h0).symm (eqN_frz h)
theorem isB_nil (c many:Int):isB c 0 0 many:=⟨flenC_zero.symm,fun j hj=>by omega⟩
theorem at_in (q n:Int) (h:0 < n) (h2:n≤4096):0≤(IntKind.i64.wrap (q.tmod n+n)).tmod n∧(IntKind.i64.wrap (q.tmod n+n)).tmod n < n:=by
 have e:-n < q.tmod n∧q.tmod n < n:=⟨Int.lt_tmod_of_pos q h,Int.tmod_lt_of_pos q h⟩
 have w:IntKind.i64.wrap (q.tmod n+n)=q.tmod n+n:=by rw [wrap_i64];omega
 rw [w]
 exact ⟨Int.tmod_nonneg _ (by omega),Int.tmod_lt_of_pos _ h⟩
theorem row_new {x y z d:Int} {i:Nat} (hx:x=fl d i 0) (hy:y=fl d i 1):fl (setC (setC (setC 0 0 0 x) 0 1 y) 0 2 z) 0 0=x∧fl (setC (setC (setC 0 0 0 x) 0 1 y) 0 2 z) 0 1=y∧gt (setC (setC (setC 0 0 0 x) 0 1 y) 0 2 z) 0 2=z:=by
 subst hx hy
 unfold fl;simp only [gt_setI];simp [w64]
theorem okV_one {x y z d:Int} {i:Nat} (hx:x=fl d i 0) (hy:y=fl d i 1) (hz:z=gt d i 2) (hv:vR d i):okV (setC (setC (setC 0 0 0 x) 0 1 y) 0 2 z) 1:=okV_suc (n:=0) (fun j hj=>by omega) rfl (by omega) hx hy hz hv
theorem rmR_same {c n a:Int} (h:n=a+1):rmR c c n a:=fun j hj=>by rw [if_pos (by omega)];exact Rw.refl c j
theorem eqN_last {c c' x n a:Int} (h:eqN c c' n) (hx:rmR x c n a) (hn:n=a+1):eqN x c' a:=eqN_rm h hx (rmR_same hn) (by omega)
end Go.Sx.Pk
