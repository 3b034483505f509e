/- The pool: plain laws of PoolPlays. -/
import Derived.Test.YtbcbpicfnfkdeaaPkAa
import Derived.Test.YtbcbpicfnfkdeaaPkBa
import Derived.Test.YtbcbpicfnfkdeaaPkSb
namespace Go.Sx.Pk
set_option linter.unusedVariables false
set_option linter.unusedSimpArgs false
open Go Go.Sx
theorem rows_len {c n nodes:Int} (h:rowsOk c n nodes):lenOk c n:=fun j hj=>by
 have:=h j hj
 unfold mayN at this
 split at this
 ·omega
 ·split at this
  ·omega
  ·omega
theorem may_Rw {nodes a:Int} {c d:Int} {i j:Nat} (h:Rw c d i j) (m:Int):mayN nodes (fl c i 0) (fl c i 1) (flenC (gt c i 2)) m=mayN nodes (fl d j 0) (fl d j 1) (flenC (gt d j 2)) m:=by
 obtain ⟨h1,h2,h3⟩:=h
 rw [h1,h2,h3]
theorem rel_put {c n w nodes d:Int} (h:relB c n w) (hn:0≤n):relB (blitC c n d 0 (putK nodes n d)) (n+putK nodes n d) (putW nodes w d):=by
 obtain ⟨h1,h2⟩:=h
 subst h1
 obtain ⟨p1,p2,p3⟩:=putW_rel nodes w d
 have k0:=putK_in nodes (flenC w) d
 refine ⟨p1.symm,fun j hj=>?_⟩
 have b:=putR_blit (c:=c) (d:=d) hn k0
 by_cases e:(j:Int) < flenC w
 ·exact ((b.1 j e).trans (h2 j e)).trans (p2 j e).symm
 ·obtain ⟨i,rfl⟩:∃ i,j=(flenC w).toNat+i:=⟨j - (flenC w).toNat,by omega⟩
  exact (b.2 i (by omega)).trans (p3 i (by omega)).symm
theorem rel_rm {c n w a x m:Int} (h:relB c n w) (h0:0≤a) (h1:a < n) (hx:rmR x c n a) (hm:m=n - 1):relB x m (rmP w a):=by
 obtain ⟨e1,e2⟩:=h
 subst e1 hm
 obtain ⟨r1,r2⟩:=rmP_rel h0 h1
 refine ⟨r1.symm,fun j hj=>?_⟩
 refine ((hx j hj).trans (e2 _ ?_)).trans (r2 j hj).symm
 split<;>omega
theorem rows_rm {c n nodes a x m:Int} (h:rowsOk c n nodes) (hx:rmR x c n a) (hm:m=n - 1):rowsOk x m nodes:=by
 subst hm
 intro j hj
 rw [may_Rw (a:=a) (hx j hj)]
 refine h _ ?_
 split<;>omega
theorem rel_dbl {c n w a:Int} (h:relB c n w) (h0:0≤a) (h1:a < n):relB (blitC c n c a 1) (n+1) (dblP w a):=by
 obtain ⟨e1,e2⟩:=h
 subst e1
 obtain ⟨r1,r2,r3⟩:=dblP_rel (w:=w) h0
 refine ⟨r1.symm,fun j hj=>?_⟩
 rw [Rw_blit]
 by_cases e:(j:Int) < flenC w
 ·rw [if_neg (by omega)];exact (e2 j e).trans (r2 j e).symm
 ·have:j=(flenC w).toNat:=by omega
  subst this
  rw [if_pos (by omega),show a.toNat+((flenC w).toNat - (flenC w).toNat)=a.toNat by omega]
  exact (e2 a.toNat (by omega)).trans r3.symm
theorem rows_dbl {c n nodes a:Int} (h:rowsOk c n nodes) (h0:0≤a) (h1:a < n):rowsOk (blitC c n c a 1) (n+1) nodes:=by
 intro j hj
 by_cases e:(j:Int) < n
 ·rw [may_Rw (a:=a) (show Rw (blitC c n c a 1) c j j by rw [Rw_blit,if_neg (by omega)];exact Rw.refl c j)];exact h j e
 ·rw [may_Rw (a:=a) (show Rw (blitC c n c a 1) c j a.toNat by rw [Rw_blit,if_pos (by omega),show a.toNat+(j - n.toNat)=a.toNat by omega];exact Rw.refl c _)];exact h a.toNat (by omega)
theorem rows_put {c n nodes d:Int} (h:rowsOk c n nodes) (hn:0≤n):rowsOk (blitC c n d 0 (putK nodes n d)) (n+putK nodes n d) nodes:=by
 have k0:=putK_in nodes n d
 have b:=putR_blit (c:=c) (d:=d) hn k0
 intro j hj
 by_cases e:(j:Int) < n
 ·rw [may_Rw (a:=n) (b.1 j e)];exact h j e
 ·obtain ⟨i,rfl⟩:∃ i,j=n.toNat+i:=⟨j - n.toNat,by omega⟩
  rw [may_Rw (a:=n) (b.2 i (by omega))]
  have hm:=(putK_spec nodes n d).2.2.1 i (by omega)
  unfold mayAt mayN at hm
  unfold mayN
  split at hm
  ·omega
  ·rename_i q1
   rw [if_neg q1]
   split at hm
   ·omega
   ·rename_i q2
    rw [if_neg q2]
    omega
theorem putK_le {nodes n d:Int} (hn:0≤n) (h:n≤4096):n+putK nodes n d≤4096:=by
 have k0:=putK_in nodes n d
 by_cases e:putK nodes n d=0
 ·omega
 ·have:=mayAt_lt ((putK_spec nodes n d).2.2.1 (putK nodes n d - 1).toNat (by omega))
  omega
theorem rel_cpR {c n w:Int} (h:relB c n w):relB (cpR c n) n w:=⟨h.1,fun j hj=>(Rw_cpR hj).trans (h.2 j hj)⟩
theorem rows_cpR {c n nodes:Int} (h:rowsOk c n nodes):rowsOk (cpR c n) n nodes:=fun j hj=>by
 rw [may_Rw (a:=n) (Rw_cpR hj)];exact h j hj
theorem isB_rel {c n w m:Int} (h:relB c n w):isB c w n m:=isB_of h.1 h.2
theorem isB_no0 {w m:Int} (h:flenC w=0):isB 0 w 0 m:=isB_of h.symm (fun j hj=>by omega)
theorem putW_fl {nodes w d:Int}:flenC (putW nodes w d)=flenC w+putK nodes (flenC w) d:=(putW_rel nodes w d).1
theorem pairS {a n w b m v:Int} (h:relB a n w) (g:relB b m v):(sameN a b n m↔sameN w v (flenC w) (flenC v))∧(sameN b a m n↔sameN w v (flenC w) (flenC v)):=
 ⟨sameN_rel h g,sameN_symm.trans (sameN_rel h g)⟩
theorem pairN {a n w v:Int} (h:relB a n w) (g:flenC v=0):sameN w v (flenC w) (flenC v)↔n=0:=by
 refine ⟨fun e=>?_,fun e=>⟨?_,fun j hj=>?_⟩⟩
 ·have:=e.1;have:=h.1;omega
 ·have:=h.1;omega
 ·have:=h.1;omega
theorem sameN_self {w n:Int}:sameN w w n n:=⟨rfl,fun j _=>⟨rfl,rfl,rfl⟩⟩
end Go.Sx.Pk
