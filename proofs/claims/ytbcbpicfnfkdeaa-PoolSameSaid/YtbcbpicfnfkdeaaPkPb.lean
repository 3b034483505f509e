/- The pool: plain laws of PoolSame, put together. -/
import Derived.Test.YtbcbpicfnfkdeaaPkPa
namespace Go.Sx.Pk
set_option linter.unusedVariables false
set_option linter.unusedSimpArgs false
open Go Go.Sx
theorem lawAll {c n w nodes:Int} (D A:Int) (g2:relB c n w) (g3:rowsOk c n nodes) (g4:0≤n) (g5:n≤4096) :
  (relB (blitC c n D 0 (putK nodes n D)) (n+putK nodes n D) (putW nodes w D)∧rowsOk (blitC c n D 0 (putK nodes n D)) (n+putK nodes n D) nodes∧lenOk (blitC c n D 0 (putK nodes n D)) (n+putK nodes n D)∧n+putK nodes n D≤4096∧0≤putK nodes n D)∧
  (0≤A→A < n→relB (blitC c A c (A+1) (n+(A * -1+-1))) (n+-1) (rmP w A)∧rowsOk (blitC c A c (A+1) (n+(A * -1+-1))) (n+-1) nodes∧lenOk (blitC c A c (A+1) (n+(A * -1+-1))) (n+-1))∧
  (0≤A→A < n→relB (blitC c n c A 1) (n+1) (dblP w A)∧rowsOk (blitC c n c A 1) (n+1) nodes∧lenOk (blitC c n c A 1) (n+1))∧lenOk c n∧n=flenC w:=
 ⟨⟨rel_put g2 g4,rows_put g3 g4,rows_len (rows_put g3 g4),putK_le g4 g5,putK_in _ _ _⟩,
   fun h0 h1=>⟨rel_rm g2 h0 h1 (rmR_blit h0 rfl (by omega)) (by omega),rows_rm g3 (rmR_blit h0 rfl (by omega)) (by omega),rows_len (rows_rm g3 (rmR_blit h0 rfl (by omega)) (by omega))⟩,
   fun h0 h1=>⟨rel_dbl g2 h0 h1,rows_dbl g3 h0 h1,rows_len (rows_dbl g3 h0 h1)⟩,rows_len g3,g2.1⟩
theorem nonAll {w nodes:Int} (D:Int) (h:flenC w=0) :
  relB 0 0 w∧relB (blitC 0 0 D 0 (putK nodes 0 D)) (putK nodes 0 D) (putW nodes w D)∧rowsOk (blitC 0 0 D 0 (putK nodes 0 D)) (putK nodes 0 D) nodes∧lenOk (blitC 0 0 D 0 (putK nodes 0 D)) (putK nodes 0 D)∧putK nodes 0 D≤4096∧0≤putK nodes 0 D∧
  flenC (putW nodes w D)=putK nodes 0 D∧(sameN (putW nodes w D) w (flenC (putW nodes w D)) (flenC w)↔putK nodes 0 D=0):=by
 have e:relB 0 0 w:=⟨h.symm,fun j hj=>by omega⟩
 have p:=@rel_put 0 0 w nodes D e (Int.le_refl 0)
 have q:=@rows_put 0 0 nodes D (fun j hj=>by omega) (Int.le_refl 0)
 have k:=@putK_le nodes 0 D (Int.le_refl 0) (by omega)
 simp only [Int.zero_add] at p q k
 refine ⟨e,p,q,rows_len q,k,putK_in _ _ _,?_,pairN p h⟩
 have:=@putW_fl nodes w D
 rw [h] at this;omega
theorem nonB {w m:Int} (h:flenC w=0):isB 0 w 0 m:=isB_no0 h
theorem relI {c n w m:Int} (h:relB c n w):isB c w n m:=isB_rel h
end Go.Sx.Pk
