/- Slots: SlotAcquires, by contract. -/
import Derived.Test.YtobmggabgicpgaaGreatSlL2
import Derived.Test.YtobmggabgicpgaaGreatSlW
namespace Go.Sx.Sl
set_option linter.unusedVariables false
set_option linter.unusedSimpArgs false
open Go Go.Sx Go.Sx.Ti Go.Proofs
noncomputable def bX:List (Nat×Int×Int):=[i64b 4,i64b 5,i64b 6,i64b 7,i64b 8,i64b 9,(1,0,9223372036854775807),(2,0,-1)]
noncomputable def wX:SV:=.ag [.it .i64 (.v 7),.it .i64 (.v 8),.it .i64 (.v 9)]
noncomputable def lentC (c n:Int):Int:=setC (setC (setC (setC (setC (setC (setC (setC c n 0 77) n 1 0) n 2 0) n 3 0) n 4 0) n 5 0) n 6 0) n 7 0
theorem lent_def (c n:Int):setC (setC (setC (setC (setC (setC (setC (setC c n 0 77) n 1 0) n 2 0) n 3 0) n 4 0) n 5 0) n 6 0) n 7 0=lentC c n:=rfl
theorem eqR_refl (c n:Int):eqR c c n:=fun _ _=>⟨fun _ _=>rfl,rfl⟩
theorem eqR_out {c i f x n:Int} (hi:n≤i) (h0:0≤n):eqR (setC c i f x) c n:=fun j hj=>by
 refine ⟨fun f' hf=>?_,?_⟩
 ·rw [fl_set,if_neg (by omega)]
 ·rw [flu_set,if_neg (by omega)]
theorem eqR_trans {a b c n:Int} (h:eqR a b n) (h':eqR b c n):eqR a c n:=fun j hj=>⟨fun f hf=>((h j hj).1 f hf).trans ((h' j hj).1 f hf),(h j hj).2.trans (h' j hj).2⟩
theorem lent_eqR (c:Int) {n:Int} (h0:0≤n):eqR (lentC c n) c n:=by
 unfold lentC
 have o:=fun a f x=>@eqR_out a n f x n (Int.le_refl _) h0
 exact eqR_trans (o _ _ _) (eqR_trans (o _ _ _) (eqR_trans (o _ _ _) (eqR_trans (o _ _ _) (eqR_trans (o _ _ _) (eqR_trans (o _ _ _) (eqR_trans (o _ _ _) (o _ _ _)))))))
theorem chk_cases (c n a b e:Int):(chkI c n a b e=0∧shpS a b e∧n=e∧badI c n < 0)∨(chkI c n a b e=2∧¬ (shpS a b e∧n=e∧badI c n < 0)):=by
 by_cases h:shpS a b e∧n=e∧badI c n < 0
 ·exact .inl ⟨chk_0 h.1 h.2.1 h.2.2,h⟩
 ·exact .inr ⟨chk_2 h,h⟩
theorem sameS_of {c d n:Int} (h:eqR c d n):sameS c n d n:=⟨rfl,h⟩
end Go.Sx.Sl
