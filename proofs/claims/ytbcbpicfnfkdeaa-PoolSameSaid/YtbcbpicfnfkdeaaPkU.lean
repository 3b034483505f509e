/- The pool: plain laws of what is taken, doubled, put. -/
import Derived.Test.YtbcbpicfnfkdeaaPkS
namespace Go.Sx.Pk
set_option linter.unusedVariables false
set_option linter.unusedSimpArgs false
open Go Go.Sx
theorem rmR_last {c n a x:Int} (h0:0≤a) (h:n=a+1):rmR (blitC c a 0 0 x) c n a:=by
 intro j hj
 rw [Rw_blit,if_neg (by omega),if_pos (by omega)];exact Rw.refl c j
theorem rmR_mid {c n a m x:Int} (h0:0≤a) (h1:a < n) (hm:m=n - 1):rmR (blitC (blitC c a c (a+1) (n - (a+1))) m 0 0 x) c n a:=by
 subst hm
 intro j hj
 rw [Rw_blit,if_neg (by omega)]
 exact rmR_blit h0 rfl (by omega) j hj
theorem rm_runs {c n a:Int} (h0:0≤a) (h1:a < n):(n=a+1→∀ j:Nat,(j:Int) < n+-1→fl (blitC c a c (a+1) (n+a * -1+-1)) j 0=fl (blitC c a 0 0 (n - a)) j 0∧fl (blitC c a c (a+1) (n+a * -1+-1)) j 1=fl (blitC c a 0 0 (n - a)) j 1∧gt (blitC c a c (a+1) (n+a * -1+-1)) j 2=gt (blitC c a 0 0 (n - a)) j 2)∧
  (∀ j:Nat,(j:Int) < n+-1→fl (blitC c a c (a+1) (n+a * -1+-1)) j 0=fl (blitC (blitC c a c (a+1) (n - (a+1))) (n+-1) 0 0 1) j 0∧fl (blitC c a c (a+1) (n+a * -1+-1)) j 1=fl (blitC (blitC c a c (a+1) (n - (a+1))) (n+-1) 0 0 1) j 1∧gt (blitC c a c (a+1) (n+a * -1+-1)) j 2=gt (blitC (blitC c a c (a+1) (n - (a+1))) (n+-1) 0 0 1) j 2):=by
 have e:rmR (blitC c a c (a+1) (n+a * -1+-1)) c n a:=rmR_blit h0 rfl (by omega)
 exact ⟨fun h j hj=>rmR_eq e (rmR_last h0 h) j (by omega),fun j hj=>rmR_eq e (rmR_mid h0 h1 (by omega)) j (by omega)⟩
end Go.Sx.Pk
