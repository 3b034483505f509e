/- Slots: whatever comes, plain. -/
import Derived.Test.YtobmggabgicpgaaGreatSlU
namespace Go.Sx.Sl
set_option linter.unusedSimpArgs false
set_option linter.unusedVariables false
open Go Go.Sx Go.Sx.Ti
noncomputable def rowD (c i u k m p d v f w:Int):Int:=setC (setC (setC (setC (setC (setC (setC (setC c i 0 u) i 1 k) i 2 m) i 3 p) i 4 d) i 5 v) i 6 f) i 7 w
theorem rowD_def (c i u k m p d v f w:Int):setC (setC (setC (setC (setC (setC (setC (setC c i 0 u) i 1 k) i 2 m) i 3 p) i 4 d) i 5 v) i 6 f) i 7 w=rowD c i u k m p d v f w:=rfl
theorem fl_rowD {c i u k m p d v f w:Int} (hu:in64 u) (hk:in64 k) (hm:in64 m) (hp:in64 p) (hd:in64 d) (hv:in64 v) (hf:in64 f) (j:Nat) :
  (j=i.toNat→fl (rowD c i u k m p d v f w) j 0=u∧fl (rowD c i u k m p d v f w) j 1=k∧fl (rowD c i u k m p d v f w) j 2=m∧fl (rowD c i u k m p d v f w) j 3=p∧fl (rowD c i u k m p d v f w) j 4=d∧fl (rowD c i u k m p d v f w) j 5=v∧fl (rowD c i u k m p d v f w) j 6=f∧flu (rowD c i u k m p d v f w) j 7=IntKind.u64.wrap w)∧
  (j≠i.toNat→(∀ q:Nat,q < 7→fl (rowD c i u k m p d v f w) j q=fl c j q)∧flu (rowD c i u k m p d v f w) j 7=flu c j 7):=by
 unfold rowD
 refine ⟨fun e=>?_,fun e=>⟨fun q hq=>?_,?_⟩⟩
 ·subst e
  have wu:=w64_eq hu
  have wk:=w64_eq hk
  have wm:=w64_eq hm
  have wp:=w64_eq hp
  have wd:=w64_eq hd
  have wv:=w64_eq hv
  have wf:=w64_eq hf
  refine ⟨?_,?_,?_,?_,?_,?_,?_,?_⟩
  all_goals simp [fl_set,flu_set,wu,wk,wm,wp,wd,wv,wf]
 ·simp only [fl_set,e,false_and,if_false]
 ·simp only [flu_set,e,false_and,if_false]
def stp (c d:Int) (j:Nat):Prop:=
 (0≤fl c j 0∧fl c j 0≤1099511627776)∧
 ((fl c j 0=fl d j 0∧fl c j 1=fl d j 1∧fl c j 2=fl d j 2∧fl c j 3=fl d j 3∧fl c j 4=fl d j 4∧fl c j 5=fl d j 5∧fl c j 6=fl d j 6∧flu c j 7=flu d j 7)∨
   (fl d j 1=1∧fl c j 1≠1∧fl c j 1≠2∧fl d j 0=fl c j 0+1)∨
   ((fl d j 1=2∨fl d j 1=4∨fl d j 1=5)∧fl c j 1=1∧fl d j 0=fl c j 0)∨
   (fl d j 1=3∧fl c j 1=2∧fl d j 0=fl c j 0))
def okS (c n:Int):Prop:=∀ j:Nat,(j:Int) < n→mayR c j
theorem ok_chk {c n:Int} (h1:1≤n) (h4:n≤4):chkI c n 1 1 n=0↔okS c n:=by
 have hs:shpS 1 1 n:=by unfold shpS;omega
 constructor
 ·intro h j hj
  by_cases hb:badI c n < 0
  ·unfold badI at hb;rw [Int.min_eq_left (by omega)] at hb
   rcases fstI_cases (fun j=>¬ mayR c j) n with ⟨e,h1⟩ | ⟨e1,_⟩
   ·exact Classical.not_not.1 (h1 j hj)
   ·omega
  ·rw [chk_2 (fun hh=>hb hh.2.2)] at h;cases h
 ·intro h
  exact chk_0 hs rfl (by rw [bad_none (by omega) h];omega)
theorem ok_zero (n:Int):okS 0 n:=fun j hj=>by
 have e:∀ f,fl 0 j f=0:=fun f=>by unfold fl;rw [gt_zero];decide
 have e':flu 0 j 7=0:=by unfold flu;rw [gt_zero];decide
 unfold mayR
 rw [e,e,e,e,e,e,e,e']
 refine ⟨⟨by omega,by omega,by omega,by omega,by simp,fun h=>by omega,fun _=>⟨rfl,rfl⟩,fun h=>by omega,fun _=>rfl⟩,fun h=>by omega,fun _=>⟨rfl,rfl,rfl⟩⟩
theorem use_in {c n:Int} (h:okS c n) {j:Nat} (hj:(j:Int) < n):0≤fl c j 0∧fl c j 0≤1099511627776:=⟨(h j hj).1.1,(h j hj).1.2.1⟩
theorem stp_eq {c n:Int} (h:okS c n) {j:Nat} (hj:(j:Int) < n):stp c c j:=⟨use_in h hj,.inl ⟨rfl,rfl,rfl,rfl,rfl,rfl,rfl,rfl⟩⟩
theorem row_ok {c n i u k m p e w:Int} (h:okS c n) (h0:0≤i) (hA:mayA u k m p e) (hB:mayB k 0 0 w) (hw:w=0):okS (rowD c i u k m p e 0 0 w) n:=fun j hj=>by
 subst hw
 have hA':=hA
 obtain ⟨a1,a2,a3,a4,a5,a6,a7,a8,a9⟩:=hA'
 have z:in64 0:=by unfold in64;omega
 have hm:in64 m:=by
  unfold in64
  by_cases q:k=1∨k=2
  ·have:=a6 q;omega
  ·have:=a7 q;omega
 have hp:in64 p:=by
  unfold in64
  by_cases q:k=1∨k=2
  ·have:=a6 q;omega
  ·have:=a7 q;omega
 have he:in64 e:=by
  unfold in64
  by_cases q:k=1
  ·have:=a8 q;omega
  ·have:=a9 q;omega
 obtain ⟨r1,r2⟩:=fl_rowD (c:=c) (i:=i) (w:=0) (show in64 u by unfold in64;omega) (show in64 k by unfold in64;omega) hm hp he z z j
 by_cases ej:j=i.toNat
 ·obtain ⟨q0,q1,q2,q3,q4,q5,q6,q7⟩:=r1 ej
  unfold mayR
  rw [q0,q1,q2,q3,q4,q5,q6,q7]
  exact ⟨hA,hB⟩
 ·obtain ⟨q0,q7⟩:=r2 ej
  unfold mayR
  rw [q0 0 (by omega),q0 1 (by omega),q0 2 (by omega),q0 3 (by omega),q0 4 (by omega),q0 5 (by omega),q0 6 (by omega),q7]
  exact h j hj
theorem row_stp {c n i u k m p e:Int} (h:okS c n) (h0:0≤i) (hi:i < n) (hu:in64 u) (hk:in64 k) (hm:in64 m) (hp:in64 p) (he:in64 e)
  (hs:(k=1∧fl c i.toNat 1≠1∧fl c i.toNat 1≠2∧u=fl c i.toNat 0+1)∨((k=2∨k=4∨k=5)∧fl c i.toNat 1=1∧u=fl c i.toNat 0)∨(k=3∧fl c i.toNat 1=2∧u=fl c i.toNat 0)) :
  ∀ j:Nat,(j:Int) < n→stp c (rowD c i u k m p e 0 0 0) j:=fun j hj=>by
 have z:in64 0:=by unfold in64;omega
 obtain ⟨r1,r2⟩:=fl_rowD (c:=c) (i:=i) (w:=0) hu hk hm hp he z z j
 refine ⟨use_in h hj,?_⟩
 by_cases ej:j=i.toNat
 ·obtain ⟨q0,q1,_⟩:=r1 ej
  right
  rw [q0,q1,ej]
  exact hs
 ·obtain ⟨q0,q7⟩:=r2 ej
  left
  rw [q0 0 (by omega),q0 1 (by omega),q0 2 (by omega),q0 3 (by omega),q0 4 (by omega),q0 5 (by omega),q0 6 (by omega),q7]
  exact ⟨rfl,rfl,rfl,rfl,rfl,rfl,rfl,rfl⟩
theorem lat_ok {c n now:Int} (h:okS c n):okS (latC c n now) n:=fun j hj=>by
 have hj':=h j hj
 unfold mayR at hj' ⊢
 rw [fl_latC hj (by omega),fl_latC hj (by omega),fl_latC hj (by omega),fl_latC hj (by omega),fl_latC hj (by omega),fl_latC hj (by omega),fl_latC hj (by omega),flu_latC hj]
 by_cases hp:lateP c now j
 ·simp only [if_pos hp]
  obtain ⟨⟨a1,a2,a3,a4,a5,a6,a7,a8,a9⟩,hB⟩:=hj'
  have hk:=hp.1
  have hu:fl c j 0≠0:=fun e=>by have:=a5.2 e;omega
  have hA:mayA (fl c j 0) 5 0 0 0:=⟨a1,a2,by omega,by omega,by constructor<;>intro h<;>omega,fun h=>by omega,fun _=>⟨rfl,rfl⟩,fun h=>by omega,fun _=>rfl⟩
  have hB':mayB 5 0 0 0:=⟨fun h=>by omega,fun _=>⟨rfl,rfl,rfl⟩⟩
  exact ⟨hA,hB'⟩
 ·simp only [if_neg hp];exact hj'
theorem lat_stp {c n now:Int} (h:okS c n):∀ j:Nat,(j:Int) < n→stp c (latC c n now) j:=fun j hj=>by
 refine ⟨use_in h hj,?_⟩
 rw [fl_latC hj (by omega),fl_latC hj (by omega),fl_latC hj (by omega),fl_latC hj (by omega),fl_latC hj (by omega),fl_latC hj (by omega),fl_latC hj (by omega),flu_latC hj]
 by_cases hp:lateP c now j
 ·rw [if_pos hp,if_pos hp]
  right;right;left
  exact ⟨.inr (.inr rfl),hp.1,rfl⟩
 ·rw [if_neg hp,if_neg hp,if_neg hp,if_neg hp,if_neg hp,if_neg hp,if_neg hp,if_neg hp]
  exact .inl ⟨rfl,rfl,rfl,rfl,rfl,rfl,rfl,rfl⟩
theorem fre_spec {c n:Int} (hn:n≤64) (h:0≤freI c n):freI c n < n∧fl c (freI c n).toNat 1≠1∧fl c (freI c n).toNat 1≠2∧fl c (freI c n).toNat 0 < 1099511627776:=by
 unfold freI at *
 rw [Int.min_eq_left hn] at *
 rcases fstI_cases (fun j=>fl c j 1≠1∧fl c j 1≠2∧fl c j 0 < 1099511627776) n with ⟨e,_⟩ | ⟨_,e2,e3,_⟩
 ·omega
 ·exact ⟨e2,e3⟩
theorem mayB_z {k:Int}:mayB k 0 0 0:=⟨fun h=>by omega,fun _=>⟨rfl,rfl,rfl⟩⟩
theorem acq_all {c n m p d:Int} (hn:n≤64) (h:okS c n) (hf:0≤freI c n) (hA:mayA 1 1 m p d) :
  okS (rowD c (freI c n) (IntKind.i64.wrap (fl c (freI c n).toNat 0+1)) 1 m p d 0 0 0) n∧∀ j:Nat,(j:Int) < n→stp c (rowD c (freI c n) (IntKind.i64.wrap (fl c (freI c n).toNat 0+1)) 1 m p d 0 0 0) j:=by
 obtain ⟨f1,f2,f3,f4⟩:=fre_spec hn hf
 have hu:=use_in h (j:=(freI c n).toNat) (by omega)
 rw [w64_eq (show in64 (fl c (freI c n).toNat 0+1) by unfold in64;omega)]
 obtain ⟨a1,a2,a3,a4,a5,a6,a7,a8,a9⟩:=hA
 have b6:=a6 (.inl rfl)
 have b8:=a8 rfl
 have hA':mayA (fl c (freI c n).toNat 0+1) 1 m p d:=⟨by omega,by omega,by omega,by omega,by constructor<;>intro h<;>omega,a6,a7,a8,a9⟩
 exact ⟨row_ok h hf hA' mayB_z rfl,row_stp h hf f1 (by unfold in64;omega) (by unfold in64;omega) (by unfold in64;omega) (by unfold in64;omega) (by unfold in64;omega) (.inl ⟨rfl,f2,f3,rfl⟩)⟩
theorem grt_all {c n i:Int} (h:okS c n) (h0:0≤i) (hi:i < n) (hs:fl c i.toNat 1=1) :
  okS (rowD c i (fl c i.toNat 0) 2 (fl c i.toNat 2) (fl c i.toNat 3) 0 0 0 0) n∧∀ j:Nat,(j:Int) < n→stp c (rowD c i (fl c i.toNat 0) 2 (fl c i.toNat 2) (fl c i.toNat 3) 0 0 0 0) j:=by
 obtain ⟨a1,a2,a3,a4,a5,a6,a7,a8,a9⟩:=(h i.toNat (by omega)).1
 have b6:=a6 (.inl hs)
 have hA:mayA (fl c i.toNat 0) 2 (fl c i.toNat 2) (fl c i.toNat 3) 0:=⟨a1,a2,by omega,by omega,by constructor<;>intro h<;>omega,fun _=>b6,fun h=>by omega,fun h=>by omega,fun _=>rfl⟩
 exact ⟨row_ok h h0 hA mayB_z rfl,row_stp h h0 hi (fl_has ..) (by unfold in64;omega) (fl_has ..) (fl_has ..) (by unfold in64;omega) (.inr (.inl ⟨.inl rfl,hs,rfl⟩))⟩
theorem end_all {c n i u k:Int} (h:okS c n) (h0:0≤i) (hi:i < n) (hu:fl c i.toNat 0=u) (hk:(k=4∧fl c i.toNat 1=1)∨(k=3∧fl c i.toNat 1=2)) :
  okS (rowD c i u k 0 0 0 0 0 0) n∧∀ j:Nat,(j:Int) < n→stp c (rowD c i u k 0 0 0 0 0 0) j:=by
 obtain ⟨a1,a2,a3,a4,a5,a6,a7,a8,a9⟩:=(h i.toNat (by omega)).1
 have hne:u≠0:=fun e=>by have:=a5.2 (by omega);omega
 have hA:mayA u k 0 0 0:=⟨by omega,by omega,by omega,by omega,by constructor<;>intro h<;>omega,fun h=>by omega,fun _=>⟨rfl,rfl⟩,fun h=>by omega,fun _=>rfl⟩
 refine ⟨row_ok h h0 hA mayB_z rfl,row_stp h h0 hi (by unfold in64;omega) (by unfold in64;omega) (by unfold in64;omega) (by unfold in64;omega) (by unfold in64;omega) ?_⟩
 rcases hk with ⟨e,hs⟩ | ⟨e,hs⟩
 ·exact .inr (.inl ⟨.inr (.inl e),hs,hu.symm⟩)
 ·exact .inr (.inr ⟨e,hs,hu.symm⟩)
end Go.Sx.Sl
