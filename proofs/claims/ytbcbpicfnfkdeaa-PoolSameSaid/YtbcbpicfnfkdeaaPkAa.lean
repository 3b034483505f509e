/- The pool: plain laws of a call by both. -/
import Derived.Test.YtbcbpicfnfkdeaaPkXa
namespace Go.Sx.Pk
set_option linter.unusedVariables false
set_option linter.unusedSimpArgs false
open Go Go.Sx
theorem may_n {nodes a b len n:Int} (h:mayN nodes a b len 0=0):mayN nodes a b len n=if 4096≤n then 200 else 0:=by
 unfold mayN at h ⊢
 split at h
 ·omega
 ·rename_i h1
  rw [if_neg h1]
  split at h
  ·omega
  ·rename_i h2
   rw [if_neg h2]
theorem rel_at {c n w a:Int} (h:relB c n w) (h0:0≤a) (h1:a < n):fl c a.toNat 0=fl w a.toNat 0∧fl c a.toNat 1=fl w a.toNat 1∧gt c a.toNat 2=gt w a.toNat 2:=h.2 a.toNat (by omega)
theorem rows_at {c n nodes a:Int} (h:rowsOk c n nodes) (h0:0≤a) (h1:a < n) (m:Int):mayN nodes (fl c a.toNat 0) (fl c a.toNat 1) (flenC (gt c a.toNat 2)) m=if 4096≤m then 200 else 0:=may_n (h a.toNat (by omega))
theorem cnt_none {c n node i:Int} (h:cntT c n node=0) (h0:0≤i) (h1:i < n):fl c i.toNat 1≠node:=fun e=>by
 have:=cnt_lt (i:=n) (j:=i.toNat) (by omega) e
 have:=cntT_in c i.toNat node
 omega
theorem to_at {y c n node i:Int} (h:toR y c n node) (h0:0≤i) (h1:i < n):(fl c i.toNat 1=node→cntT c i node < flenC y∧fl y (cntT c i node).toNat 0=i∧cntT c (i+1) node=cntT c i node+1)∧(fl c i.toNat 1≠node→cntT c (i+1) node=cntT c i node):=by
 refine ⟨fun e=>?_,fun e=>cntT_no h0 e⟩
 have e1:=cnt_lt (i:=n) (j:=i.toNat) (by omega) e
 have e2:=h.2 i.toNat (by omega) e
 have ee:((i.toNat:Nat):Int)=i:=by omega
 rw [ee] at e1 e2
 exact ⟨by rw [h.1];exact e1,e2,cntT_yes h0 e⟩
end Go.Sx.Pk
