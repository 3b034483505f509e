/- Sorting: partitions. -/
import Derived.Test.YtfgdpkceoadgjaaSoB
namespace Go.Sx.Mhw
set_option linter.unusedVariables false
set_option linter.unusedSimpArgs false
set_option linter.unusedSectionVars false
set_option maxRecDepth 100000
set_option maxHeartbeats 0
noncomputable section
open Go Go.Sx Go.Proofs
def tP (f:Nat):SI:=.ap f (.v 0) (.v 1) (.v 5) (.v 6) (.v 7) (.v 4)
def pP (f:Nat):SB:=.ap f (.v 0) (.v 1) (.v 5) (.v 6) (.v 7) (.v 4)
def uPar:Com:=⟨164,[0,1,2,3,4,5,6,7],[dU,.it .i64 (.v 5),.it .i64 (.v 6),.it .i64 (.v 7),cmpV],mU (.v 0),1,bU,(.le (.c 0) (.v 5),true)::(.le (.v 5) (.c 1000),true)::(.le (.c 0) (.v 6),true)::(.le (.v 6) (.c 1000),true)::(.le (.c 0) (.v 7),true)::(.le (.v 7) (.c 1000),true)::leF 5 7::ltF 7 6::leF 6 1::fU,
 [⟨[],.tp [.it .i64 (tP 45),.bo (pP 44)],mU (tP 44),1,0,[(.le (.v 5) (tP 45),true),(.lt (tP 45) (.v 6),true),(.le (.c 0) (tP 45),true),(.le (tP 45) (.c 1000),true)]⟩],.c 0⟩
def uPeq:Com:=⟨163,[0,1,2,3,4,5,6,7],[dU,.it .i64 (.v 5),.it .i64 (.v 6),.it .i64 (.v 7),cmpV],mU (.v 0),1,bU,(.le (.c 0) (.v 5),true)::(.le (.v 5) (.c 1000),true)::(.le (.c 0) (.v 6),true)::(.le (.v 6) (.c 1000),true)::(.le (.c 0) (.v 7),true)::(.le (.v 7) (.c 1000),true)::leF 5 7::ltF 7 6::leF 6 1::fU,
 [⟨[],.it .i64 (tP 47),mU (tP 46),1,0,[(.lt (.v 5) (tP 47),true),(.le (tP 47) (.v 6),true),(.le (.c 0) (tP 47),true),(.le (tP 47) (.c 1000),true)]⟩],.c 0⟩
def pC (f:Nat):SB:=.ap f (.v 0) (.v 1) (.v 5) (.v 6) (.v 4) (.c 0)
def uPin:Com:=⟨162,[0,1,2,3,4,5,6],[dU,.it .i64 (.v 5),.it .i64 (.v 6),cmpV],mU (.v 0),1,bU,(.le (.c 0) (.v 5),true)::(.le (.v 5) (.c 1000),true)::(.le (.c 0) (.v 6),true)::(.le (.v 6) (.c 1000),true)::ltF 5 6::leF 6 1::fU,
 [⟨[],.bo (pC 48),mU (tU 48 (.v 5) (.v 6) (.v 4) (.c 0)),1,0,[]⟩],.c 0⟩
theorem scanUp_go (p:Rw→Bool) (d:Array Rw) (j i:Nat) (h:i≤j) (hp:p d[i]! = true):Sort.scanUp p d j i=Sort.scanUp p d j (i+1):=by
 rw [Sort.scanUp,if_pos (by rw [hp];simp [h])]
theorem scanUp_end (p:Rw→Bool) (d:Array Rw) (j i:Nat) (h:¬ (i≤j∧p d[i]! = true)):Sort.scanUp p d j i=i:=by
 rw [Sort.scanUp,if_neg (by simpa using h)]
theorem scanDown_go (p:Rw→Bool) (d:Array Rw) (i j:Nat) (h:i≤j) (h0:0 < j) (hp:p d[j]! = true):Sort.scanDown p d i j=Sort.scanDown p d i (j - 1):=by
 cases j with
 | zero=>omega
 | succ j=>
   show (if i≤j+1 && p d[j+1]! then Sort.scanDown p d i j else j+1)=_
   rw [if_pos (by rw [hp];simp [h])];rfl
theorem scanDown_end (p:Rw→Bool) (d:Array Rw) (i j:Nat) (h:¬ (i≤j∧p d[j]! = true)):Sort.scanDown p d i j=j:=by
 cases j with
 | zero=>rfl
 | succ j=>
   show (if i≤j+1 && p d[j+1]! then Sort.scanDown p d i j else j+1)=_
   rw [if_neg (by simpa using h)]
theorem pl_end (lt:Rw→Rw→Bool) (a i j i2 j2:Nat) (d:Array Rw) (h1:Sort.scanUp (fun x=>lt x d[a]!) d j i=i2) (h2:Sort.scanDown (fun x=>!lt x d[a]!) d i2 j=j2) (h:j2 < i2):Sort.partLoop lt a i j d=(j2,d):=by
 rw [Sort.partLoop];simp only [h1,h2];rw [if_pos h]
theorem pl_go (lt:Rw→Rw→Bool) (a i j i2 j2:Nat) (d:Array Rw) (h1:Sort.scanUp (fun x=>lt x d[a]!) d j i=i2) (h2:Sort.scanDown (fun x=>!lt x d[a]!) d i2 j=j2) (h:i2≤j2) (h0:0 < i2) (h3:i≤i2) (h4:j2≤j) :
  Sort.partLoop lt a i j d=Sort.partLoop lt a (i2+1) (j2 - 1) (Sort.swp d i2 j2):=by
 rw [Sort.partLoop];simp only [h1,h2];rw [if_neg (by omega),dif_pos (by omega)]
theorem par_end (lt:Rw→Rw→Bool) (a b p i j:Nat) (d d0:Array Rw) (h0:Sort.swp d a p=d0) (h1:Sort.scanUp (fun x=>lt x d0[a]!) d0 (b - 1) (a+1)=i) (h2:Sort.scanDown (fun x=>!lt x d0[a]!) d0 i (b - 1)=j) (h:j < i):Sort.partition lt d a b p=(j,true,Sort.swp d0 j a):=by
 unfold Sort.partition;simp only [h0,h1,h2];rw [if_pos h]
theorem par_go (lt:Rw→Rw→Bool) (a b p i j:Nat) (d d0:Array Rw) (h0:Sort.swp d a p=d0) (h1:Sort.scanUp (fun x=>lt x d0[a]!) d0 (b - 1) (a+1)=i) (h2:Sort.scanDown (fun x=>!lt x d0[a]!) d0 i (b - 1)=j) (h:¬ j < i) :
  Sort.partition lt d a b p=((Sort.partLoop lt a (i+1) (j - 1) (Sort.swp d0 i j)).1,false,Sort.swp (Sort.partLoop lt a (i+1) (j - 1) (Sort.swp d0 i j)).2 (Sort.partLoop lt a (i+1) (j - 1) (Sort.swp d0 i j)).1 a):=by
 unfold Sort.partition;simp only [h0,h1,h2];rw [if_neg h]
abbrev pUp (lim:Int) (d:Array Rw) (a:Nat):Rw→Bool:=fun x=>ltU lim x d[a]!
abbrev pDn (lim:Int) (d:Array Rw) (a:Nat):Rw→Bool:=fun x=>!ltU lim x d[a]!
section
variable {c n lim a i j:Int} (h0:0≤a) (h1:a < n)
include h0 h1
theorem sUp_go (hi:0≤i) (hn:i < n) (hj:i≤j) (h:ltC c lim i a):Sort.scanUp (pUp lim (arrOf c n) a.toNat) (arrOf c n) j.toNat i.toNat=Sort.scanUp (pUp lim (arrOf c n) a.toNat) (arrOf c n) j.toNat (i+1).toNat:=by
 rw [scanUp_go _ _ _ _ (by omega) (by show ltU lim _ _=true;rw [ltC_at hi hn h0 h1];exact decide_eq_true h),show (i+1).toNat=i.toNat+1 by omega]
theorem sUp_no (hi:0≤i) (hn:i < n) (h:¬ ltC c lim i a):Sort.scanUp (pUp lim (arrOf c n) a.toNat) (arrOf c n) j.toNat i.toNat=i.toNat:=by
 refine scanUp_end _ _ _ _ fun hh=>?_
 have:=hh.2
 rw [show pUp lim (arrOf c n) a.toNat (arrOf c n)[i.toNat]! = decide (ltC c lim i a) from ltC_at hi hn h0 h1] at this
 exact h (of_decide_eq_true this)
theorem sDn_go (hi:0≤i) (hn:j < n) (hj:i≤j) (hj0:0 < j) (h:¬ ltC c lim j a):Sort.scanDown (pDn lim (arrOf c n) a.toNat) (arrOf c n) i.toNat j.toNat=Sort.scanDown (pDn lim (arrOf c n) a.toNat) (arrOf c n) i.toNat (j+-1).toNat:=by
 rw [scanDown_go _ _ _ _ (by omega) (by omega) (by show (!ltU lim _ _)=true;rw [ltC_at (by omega) hn h0 h1,decide_eq_false h];rfl),show (j+-1).toNat=j.toNat - 1 by omega]
theorem sDn_no (hj0:0≤j) (hn:j < n) (h:ltC c lim j a):Sort.scanDown (pDn lim (arrOf c n) a.toNat) (arrOf c n) i.toNat j.toNat=j.toNat:=by
 refine scanDown_end _ _ _ _ fun hh=>?_
 have:=hh.2
 rw [show pDn lim (arrOf c n) a.toNat (arrOf c n)[j.toNat]! = !decide (ltC c lim j a) by show (!ltU lim _ _)=_;rw [ltC_at hj0 hn h0 h1],decide_eq_true h] at this
 cases this
end
theorem sUp_past {p:Rw→Bool} {d:Array Rw} {i j:Int} (hi:0≤i) (h:j < i) (hj:0≤j):Sort.scanUp p d j.toNat i.toNat=i.toNat:=scanUp_end _ _ _ _ (by omega)
theorem sDn_past {p:Rw→Bool} {d:Array Rw} {i j:Int} (hi:0≤i) (h:j < i) (hj:0≤j):Sort.scanDown p d i.toNat j.toNat=j.toNat:=scanDown_end _ _ _ _ (by omega)
def parT (lim:Int) (a i j:Int) (d:Array Rw):Nat×Bool×Array Rw:=
 ((Sort.partLoop (ltU lim) a.toNat i.toNat j.toNat d).1,false,Sort.swp (Sort.partLoop (ltU lim) a.toNat i.toNat j.toNat d).2 (Sort.partLoop (ltU lim) a.toNat i.toNat j.toNat d).1 a.toNat)
section
variable {lim a b i j i2 j2:Int} {d d0:Array Rw} {p:Nat} {R:Nat×Bool×Array Rw}
theorem parT_end (h:parT lim a i j d=R) (h1:Sort.scanUp (pUp lim d a.toNat) d j.toNat i.toNat=i2.toNat) (h2:Sort.scanDown (pDn lim d a.toNat) d i2.toNat j.toNat=j2.toNat) (k:j2 < i2) (k0:0≤j2):R=(j2.toNat,false,Sort.swp d j2.toNat a.toNat):=by
 rw [← h,parT,pl_end _ _ _ _ _ _ _ h1 h2 (by omega)]
theorem parT_go (h:parT lim a i j d=R) (h1:Sort.scanUp (pUp lim d a.toNat) d j.toNat i.toNat=i2.toNat) (h2:Sort.scanDown (pDn lim d a.toNat) d i2.toNat j.toNat=j2.toNat) (k:i2≤j2) (k0:0 < i2) (k1:i≤i2) (k2:j2≤j):parT lim a (i2+1) (j2+-1) (Sort.swp d i2.toNat j2.toNat)=R:=by
 rw [← h,parT,parT,pl_go _ _ _ _ _ _ _ h1 h2 (by omega) (by omega) (by omega) (by omega),show (i2+1).toNat=i2.toNat+1 by omega,show (j2+-1).toNat=j2.toNat - 1 by omega]
theorem parP_end (h0:d0=Sort.swp d a.toNat p) (ha:0≤a) (hb:a < b) (h1:Sort.scanUp (pUp lim d0 a.toNat) d0 (b+-1).toNat (a+1).toNat=i2.toNat) (h2:Sort.scanDown (pDn lim d0 a.toNat) d0 i2.toNat (b+-1).toNat=j2.toNat) (k:j2 < i2) (k0:0≤j2):Sort.partition (ltU lim) d a.toNat b.toNat p=(j2.toNat,true,Sort.swp d0 j2.toNat a.toNat):=by
 rw [show (b+-1).toNat=b.toNat - 1 by omega] at h1 h2
 rw [show (a+1).toNat=a.toNat+1 by omega] at h1
 exact par_end _ _ _ _ _ _ _ _ h0.symm h1 h2 (by omega)
theorem parP_go (h0:d0=Sort.swp d a.toNat p) (ha:0≤a) (hb:a < b) (h1:Sort.scanUp (pUp lim d0 a.toNat) d0 (b+-1).toNat (a+1).toNat=i2.toNat) (h2:Sort.scanDown (pDn lim d0 a.toNat) d0 i2.toNat (b+-1).toNat=j2.toNat) (k:i2≤j2) (k0:0≤i2):parT lim a (i2+1) (j2+-1) (Sort.swp d0 i2.toNat j2.toNat)=Sort.partition (ltU lim) d a.toNat b.toNat p:=by
 rw [show (b+-1).toNat=b.toNat - 1 by omega] at h1 h2
 rw [show (a+1).toNat=a.toNat+1 by omega] at h1
 rw [par_go _ _ _ _ _ _ _ _ h0.symm h1 h2 (by omega),parT,show (i2+1).toNat=i2.toNat+1 by omega,show (j2+-1).toNat=j2.toNat - 1 by omega]
end
theorem pe_end (lt:Rw→Rw→Bool) (a i j i2 j2:Nat) (d:Array Rw) (h1:Sort.scanUp (fun x=>!lt d[a]! x) d j i=i2) (h2:Sort.scanDown (fun x=>lt d[a]! x) d i2 j=j2) (h:j2 < i2):Sort.partEqLoop lt a i j d=(i2,d):=by
 rw [Sort.partEqLoop];simp only [h1,h2];rw [if_pos h]
theorem pe_go (lt:Rw→Rw→Bool) (a i j i2 j2:Nat) (d:Array Rw) (h1:Sort.scanUp (fun x=>!lt d[a]! x) d j i=i2) (h2:Sort.scanDown (fun x=>lt d[a]! x) d i2 j=j2) (h:i2≤j2) (h0:0 < i2) (h3:i≤i2) (h4:j2≤j) :
  Sort.partEqLoop lt a i j d=Sort.partEqLoop lt a (i2+1) (j2 - 1) (Sort.swp d i2 j2):=by
 rw [Sort.partEqLoop];simp only [h1,h2];rw [if_neg (by omega),dif_pos (by omega)]
abbrev qUp (lim:Int) (d:Array Rw) (a:Nat):Rw→Bool:=fun x=>!ltU lim d[a]! x
abbrev qDn (lim:Int) (d:Array Rw) (a:Nat):Rw→Bool:=fun x=>ltU lim d[a]! x
section
variable {c n lim a i j:Int} (h0:0≤a) (h1:a < n)
include h0 h1
theorem qUp_go (hi:0≤i) (hn:i < n) (hj:i≤j) (h:¬ ltC c lim a i):Sort.scanUp (qUp lim (arrOf c n) a.toNat) (arrOf c n) j.toNat i.toNat=Sort.scanUp (qUp lim (arrOf c n) a.toNat) (arrOf c n) j.toNat (i+1).toNat:=by
 rw [scanUp_go _ _ _ _ (by omega) (by show (!ltU lim _ _)=true;rw [ltC_at h0 h1 hi hn,decide_eq_false h];rfl),show (i+1).toNat=i.toNat+1 by omega]
theorem qUp_no (hi:0≤i) (hn:i < n) (h:ltC c lim a i):Sort.scanUp (qUp lim (arrOf c n) a.toNat) (arrOf c n) j.toNat i.toNat=i.toNat:=by
 refine scanUp_end _ _ _ _ fun hh=>?_
 have:=hh.2
 rw [show qUp lim (arrOf c n) a.toNat (arrOf c n)[i.toNat]! = !decide (ltC c lim a i) by show (!ltU lim _ _)=_;rw [ltC_at h0 h1 hi hn],decide_eq_true h] at this
 cases this
theorem qDn_go (hi:0≤i) (hn:j < n) (hj:i≤j) (hj0:0 < j) (h:ltC c lim a j):Sort.scanDown (qDn lim (arrOf c n) a.toNat) (arrOf c n) i.toNat j.toNat=Sort.scanDown (qDn lim (arrOf c n) a.toNat) (arrOf c n) i.toNat (j+-1).toNat:=by
 rw [scanDown_go _ _ _ _ (by omega) (by omega) (by show ltU lim _ _=true;rw [ltC_at h0 h1 (by omega) hn];exact decide_eq_true h),show (j+-1).toNat=j.toNat - 1 by omega]
theorem qDn_no (hj0:0≤j) (hn:j < n) (h:¬ ltC c lim a j):Sort.scanDown (qDn lim (arrOf c n) a.toNat) (arrOf c n) i.toNat j.toNat=j.toNat:=by
 refine scanDown_end _ _ _ _ fun hh=>?_
 have:=hh.2
 rw [show qDn lim (arrOf c n) a.toNat (arrOf c n)[j.toNat]! = decide (ltC c lim a j) by show ltU lim _ _=_;rw [ltC_at h0 h1 hj0 hn]] at this
 exact h (of_decide_eq_true this)
end
section
variable {lim a b i j i2 j2:Int} {d:Array Rw} {R:Nat×Array Rw}
theorem peL_end (h:Sort.partEqLoop (ltU lim) a.toNat i.toNat j.toNat d=R) (h1:Sort.scanUp (qUp lim d a.toNat) d j.toNat i.toNat=i2.toNat) (h2:Sort.scanDown (qDn lim d a.toNat) d i2.toNat j.toNat=j2.toNat) (k:j2 < i2) (k0:0≤j2):R=(i2.toNat,d):=by
 rw [← h,pe_end _ _ _ _ _ _ _ h1 h2 (by omega)]
theorem peL_go (h:Sort.partEqLoop (ltU lim) a.toNat i.toNat j.toNat d=R) (h1:Sort.scanUp (qUp lim d a.toNat) d j.toNat i.toNat=i2.toNat) (h2:Sort.scanDown (qDn lim d a.toNat) d i2.toNat j.toNat=j2.toNat) (k:i2≤j2) (k0:0 < i2) (k1:i≤i2) (k2:j2≤j):Sort.partEqLoop (ltU lim) a.toNat (i2+1).toNat (j2+-1).toNat (Sort.swp d i2.toNat j2.toNat)=R:=by
 rw [← h,pe_go _ _ _ _ _ _ _ h1 h2 (by omega) (by omega) (by omega) (by omega),show (i2+1).toNat=i2.toNat+1 by omega,show (j2+-1).toNat=j2.toNat - 1 by omega]
theorem peL_0 (ha:0≤a) (hb:a < b) {p:Nat}:Sort.partEqLoop (ltU lim) a.toNat (a+1).toNat (b+-1).toNat (Sort.swp d a.toNat p)=Sort.partitionEqual (ltU lim) d a.toNat b.toNat p:=by
 rw [show (a+1).toNat=a.toNat+1 by omega,show (b+-1).toNat=b.toNat - 1 by omega];rfl
end
section
variable {c n lim b i j:Int}
theorem ss_go (hi:0 < i) (hb:i < b) (hn:b≤n) (h:¬ ltC c lim i (i+-1)):Sort.scanSorted (ltU lim) (arrOf c n) b.toNat i.toNat=Sort.scanSorted (ltU lim) (arrOf c n) b.toNat (i+1).toNat:=by
 have:=ltC_at (c:=c) (n:=n) (lim:=lim) (i:=i) (j:=i+-1) (by omega) (by omega) (by omega) (by omega)
 rw [decide_eq_false (by simpa using h),show (i+-1).toNat=i.toNat - 1 by omega] at this
 rw [Sort.scanSorted,this,if_pos (by simp;omega),show (i+1).toNat=i.toNat+1 by omega]
theorem ss_no (hi:0 < i) (hb:i < b) (hn:b≤n) (h:ltC c lim i (i+-1)):Sort.scanSorted (ltU lim) (arrOf c n) b.toNat i.toNat=i.toNat:=by
 have:=ltC_at (c:=c) (n:=n) (lim:=lim) (i:=i) (j:=i+-1) (by omega) (by omega) (by omega) (by omega)
 rw [decide_eq_true (by simpa using h),show (i+-1).toNat=i.toNat - 1 by omega] at this
 rw [Sort.scanSorted,this,if_neg (by simp)]
theorem ss_past (hi:0 < i) (hb:¬ i < b):Sort.scanSorted (ltU lim) (arrOf c n) b.toNat i.toNat=i.toNat:=by
 rw [Sort.scanSorted,if_neg (by simp;omega)]
theorem shd_go (hj:1≤j) (hn:j < n) (h:ltC c lim j (j+-1)):Sort.shiftDown (ltU lim) j.toNat (arrOf c n)=Sort.shiftDown (ltU lim) (j+-1).toNat (Sort.swp (arrOf c n) j.toNat (j+-1).toNat):=by
 have:=ltC_at (c:=c) (n:=n) (lim:=lim) (i:=j) (j:=j+-1) (by omega) (by omega) (by omega) (by omega)
 rw [decide_eq_true (by simpa using h)] at this
 obtain ⟨k,hk⟩:∃ k:Nat,j.toNat=k+1:=⟨j.toNat - 1,by omega⟩
 have e:(j+-1).toNat=k:=by omega
 rw [hk,e] at this ⊢
 rw [Sort.shiftDown,this];rfl
theorem shd_no (hj:1≤j) (hn:j < n) (h:¬ ltC c lim j (j+-1)):Sort.shiftDown (ltU lim) j.toNat (arrOf c n)=arrOf c n:=by
 have:=ltC_at (c:=c) (n:=n) (lim:=lim) (i:=j) (j:=j+-1) (by omega) (by omega) (by omega) (by omega)
 rw [decide_eq_false (by simpa using h)] at this
 obtain ⟨k,hk⟩:∃ k:Nat,j.toNat=k+1:=⟨j.toNat - 1,by omega⟩
 have e:(j+-1).toNat=k:=by omega
 rw [hk,e] at this
 rw [hk,Sort.shiftDown,this];rfl
theorem shd_0 {d:Array Rw} (hj:¬ 1≤j):Sort.shiftDown (ltU lim) j.toNat d=d:=by
 rw [show j.toNat=0 by omega];rfl
theorem shu_go (hj:1≤j) (hb:j < b) (hn:b≤n) (h:ltC c lim j (j+-1)):Sort.shiftUp (ltU lim) b.toNat j.toNat (arrOf c n)=Sort.shiftUp (ltU lim) b.toNat (j+1).toNat (Sort.swp (arrOf c n) j.toNat (j+-1).toNat):=by
 have:=ltC_at (c:=c) (n:=n) (lim:=lim) (i:=j) (j:=j+-1) (by omega) (by omega) (by omega) (by omega)
 rw [decide_eq_true (by simpa using h),show (j+-1).toNat=j.toNat - 1 by omega] at this
 rw [Sort.shiftUp,if_pos (by omega),this,show (j+1).toNat=j.toNat+1 by omega,show (j+-1).toNat=j.toNat - 1 by omega];rfl
theorem shu_no (hj:1≤j) (hb:j < b) (hn:b≤n) (h:¬ ltC c lim j (j+-1)):Sort.shiftUp (ltU lim) b.toNat j.toNat (arrOf c n)=arrOf c n:=by
 have:=ltC_at (c:=c) (n:=n) (lim:=lim) (i:=j) (j:=j+-1) (by omega) (by omega) (by omega) (by omega)
 rw [decide_eq_false (by simpa using h),show (j+-1).toNat=j.toNat - 1 by omega] at this
 rw [Sort.shiftUp,if_pos (by omega),this];rfl
theorem shu_past {d:Array Rw} (hb:¬ j < b) (hj:0≤j):Sort.shiftUp (ltU lim) b.toNat j.toNat d=d:=by
 rw [Sort.shiftUp,if_neg (by omega)]
end
def upIf (lim b i:Int) (d:Array Rw):Array Rw:=if 2≤b - i then Sort.shiftUp (ltU lim) b.toNat (i+1).toNat d else d
section
variable {lim a b i i2 s:Int} {d:Array Rw} {R:Array Rw×Bool}
theorem upIf_yes (h:2≤b - i):upIf lim b i d=Sort.shiftUp (ltU lim) b.toNat (i+1).toNat d:=if_pos h
theorem upIf_no (h:¬ 2≤b - i):upIf lim b i d=d:=if_neg h
theorem pin_eq (lt:Rw→Rw→Bool) {a b s i i2:Nat} {d:Array Rw} (h:Sort.scanSorted lt d b i=i2):Sort.partialIns lt a b (s+1) i d=if i2=b then (d,true) else if b - a < 50 then (d,false) else
  Sort.partialIns lt a b s i2 (if b - i2 ≥ 2 then Sort.shiftUp lt b (i2+1) (if i2 - a ≥ 2 then Sort.shiftDown lt (i2 - 1) (Sort.swp d i2 (i2 - 1)) else Sort.swp d i2 (i2 - 1)) else (if i2 - a ≥ 2 then Sort.shiftDown lt (i2 - 1) (Sort.swp d i2 (i2 - 1)) else Sort.swp d i2 (i2 - 1))):=by
 rw [Sort.partialIns];simp only [h]
theorem pin_fin0 (h:Sort.partialIns (ltU lim) a.toNat b.toNat (5 - s).toNat i.toNat d=R) (hs:¬ s < 5):R=(d,false):=by
 rw [show (5 - s).toNat=0 by omega] at h;exact h.symm
variable (h:Sort.partialIns (ltU lim) a.toNat b.toNat (5 - s).toNat i.toNat d=R) (hs:s < 5) (h1:Sort.scanSorted (ltU lim) d b.toNat i.toNat=i2.toNat) (ha:0≤a) (h2:a < i2)
include h hs h1 ha h2
theorem pin_fin1 (e:i2=b):R=(d,true):=by
 rw [show (5 - s).toNat=(4 - s).toNat+1 by omega,pin_eq _ h1,if_pos (by omega)] at h;exact h.symm
theorem pin_fin2 (e:i2 < b) (e2:b - a < 50):R=(d,false):=by
 rw [show (5 - s).toNat=(4 - s).toNat+1 by omega,pin_eq _ h1,if_neg (by omega),if_pos (by omega)] at h;exact h.symm
theorem pin_D (e:i2 < b) (e2:¬ b - a < 50) (e3:2≤i2 - a):Sort.partialIns (ltU lim) a.toNat b.toNat (4 - s).toNat i2.toNat (upIf lim b i2 (Sort.shiftDown (ltU lim) (i2+-1).toNat (Sort.swp d i2.toNat (i2+-1).toNat)))=R:=by
 rw [show (5 - s).toNat=(4 - s).toNat+1 by omega,pin_eq _ h1,if_neg (by omega),if_neg (by omega),if_pos (show i2.toNat - a.toNat ≥ 2 by omega)] at h
 rw [← h,upIf,show (i2+-1).toNat=i2.toNat - 1 by omega,show (i2+1).toNat=i2.toNat+1 by omega]
 by_cases k:2≤b - i2
 ·rw [if_pos k,if_pos (by omega)]
 ·rw [if_neg k,if_neg (by omega)]
theorem pin_U (e:i2 < b) (e2:¬ b - a < 50) (e3:¬ 2≤i2 - a):Sort.partialIns (ltU lim) a.toNat b.toNat (4 - s).toNat i2.toNat (upIf lim b i2 (Sort.swp d i2.toNat (i2+-1).toNat))=R:=by
 rw [show (5 - s).toNat=(4 - s).toNat+1 by omega,pin_eq _ h1,if_neg (by omega),if_neg (by omega),if_neg (show ¬ i2.toNat - a.toNat ≥ 2 by omega)] at h
 rw [← h,upIf,show (i2+-1).toNat=i2.toNat - 1 by omega,show (i2+1).toNat=i2.toNat+1 by omega]
 by_cases k:2≤b - i2
 ·rw [if_pos k,if_pos (by omega)]
 ·rw [if_neg k,if_neg (by omega)]
end
def uPar_T1:Tm:=⟨⟨164,178,[(13,(.it .i64 (.op .add (.v 6) (.c (-1))))),(12,(.it .i64 (.v 30))),(0,(.sl (.n 0) (.c 0) (.v 1) (.v 2))),(1,(.it .i64 (.v 5))),(4,(.fn 117 [(.it .i64 (.v 4))] []))],[(.code (atC Try.f164 [1,1,1,0,0,0])),(.inLoop (atC Try.f164 [1,1,1,0,0,0])),(.inBlock 0),(.code (atC Try.f164 [1,1,1,1]))],[],.none⟩,[],
    ⟨[(0,(.arr [(.nt .i64),(.nt .i64),(.nt .i64),(.nt .i64),(.nt .i64),(.nt .i64)] (.v 28) (.v 1) 158 (.v 3)))],1,0,0,[((.lt (.v 5) (.v 1)),.true),((.le (.c 0) (.v 5)),.true),((.le (.v 5) (.c 1000)),.true),((.le (.c 0) (.v 6)),.true),((.le (.v 6) (.c 1000)),.true),((.le (.c 0) (.v 7)),.true),((.le (.v 7) (.c 1000)),.true),((.le (.v 5) (.v 7)),.true),((.lt (.v 7) (.v 6)),.true),((.le (.v 6) (.v 1)),.true),((.le (.v 1) (.v 2)),.true),((.le (.v 1) (.v 3)),.true)],[0],[(1,(1,1000)),(5,(0,999)),(6,(1,1000)),(7,(0,999)),(3,(0,(-1))),(4,((-9223372036854775808),9223372036854775807)),(30,(0,1001))]⟩,[30,28]⟩
def uPar_T2:Tm:=⟨⟨164,178,[(13,(.it .i64 (.v 36))),(12,(.it .i64 (.v 30))),(0,(.sl (.n 0) (.c 0) (.v 1) (.v 2))),(1,(.it .i64 (.v 5))),(4,(.fn 117 [(.it .i64 (.v 4))] []))],[(.code (atC Try.f164 [1,1,1,1,0,0,0])),(.inLoop (atC Try.f164 [1,1,1,1,0,0,0])),(.inBlock 2),(.code (atC Try.f164 [1,1,1,1,1]))],[],.none⟩,[],
    ⟨[(0,(.arr [(.nt .i64),(.nt .i64),(.nt .i64),(.nt .i64),(.nt .i64),(.nt .i64)] (.v 28) (.v 1) 158 (.v 3)))],1,0,0,[((.lt (.v 5) (.v 1)),.true),((.le (.c 0) (.v 5)),.true),((.le (.v 5) (.c 1000)),.true),((.le (.c 0) (.v 6)),.true),((.le (.v 6) (.c 1000)),.true),((.le (.c 0) (.v 7)),.true),((.le (.v 7) (.c 1000)),.true),((.le (.v 5) (.v 7)),.true),((.lt (.v 7) (.v 6)),.true),((.le (.v 6) (.v 1)),.true),((.le (.v 1) (.v 2)),.true),((.le (.v 1) (.v 3)),.true)],[0],[(6,(1,1000)),(1,(1,1000)),(5,(0,999)),(7,(0,999)),(3,(0,(-1))),(4,((-9223372036854775808),9223372036854775807)),(30,(0,1001)),(36,((-1),1000))]⟩,[36]⟩
def uPar_T3:Tm:=⟨⟨164,178,[(13,(.it .i64 (.v 54))),(12,(.it .i64 (.v 55))),(0,(.sl (.n 0) (.c 0) (.v 1) (.v 2))),(1,(.it .i64 (.v 5))),(4,(.fn 117 [(.it .i64 (.v 4))] []))],[(.code (atC Try.f164 [1,1,1,1,1,1,1,1,1,0,0,0])),(.inLoop (atC Try.f164 [1,1,1,1,1,1,1,1,1,0,0,0])),(.inBlock 4),(.code (atC Try.f164 [1,1,1,1,1,1,1,1,1,1]))],[],.none⟩,[],
    ⟨[(0,(.arr [(.nt .i64),(.nt .i64),(.nt .i64),(.nt .i64),(.nt .i64),(.nt .i64)] (.v 39) (.v 1) 158 (.v 3)))],1,0,0,[((.lt (.ap 40 (.ap 3 (.v 28) (.v 36) (.c 3) (.c 0) (.c 0) (.c 0)) (.ap 3 (.v 28) (.v 36) (.c 5) (.c 0) (.c 0) (.c 0)) (.op .sub (.ap 3 (.v 28) (.v 36) (.c 4) (.c 0) (.c 0) (.c 0)) (.v 4)) (.ap 3 (.v 28) (.v 5) (.c 3) (.c 0) (.c 0) (.c 0)) (.ap 3 (.v 28) (.v 5) (.c 5) (.c 0) (.c 0) (.c 0)) (.op .sub (.ap 3 (.v 28) (.v 5) (.c 4) (.c 0) (.c 0) (.c 0)) (.v 4))) (.c 0)),.true),((.lt (.v 36) (.v 1)),.true),((.le (.v 30) (.v 36)),.true),((.lt (.v 5) (.v 1)),.true),((.le (.c 0) (.v 5)),.true),((.le (.v 5) (.c 1000)),.true),((.le (.c 0) (.v 6)),.true),((.le (.v 6) (.c 1000)),.true),((.le (.c 0) (.v 7)),.true),((.le (.v 7) (.c 1000)),.true),((.le (.v 5) (.v 7)),.true),((.lt (.v 7) (.v 6)),.true),((.le (.v 6) (.v 1)),.true),((.le (.v 1) (.v 2)),.true),((.le (.v 1) (.v 3)),.true)],[0],[(1,(1,1000)),(6,(1,1000)),(5,(0,999)),(7,(0,999)),(3,(0,(-1))),(4,((-9223372036854775808),9223372036854775807)),(55,(0,1001)),(54,((-1),1000))]⟩,[54,55,39]⟩
def uPar_T4:Tm:=⟨⟨164,178,[(13,(.it .i64 (.v 54))),(12,(.it .i64 (.v 62))),(0,(.sl (.n 0) (.c 0) (.v 1) (.v 2))),(1,(.it .i64 (.v 5))),(4,(.fn 117 [(.it .i64 (.v 4))] []))],[(.code (atC Try.f164 [1,1,1,1,1,1,1,1,1,0,0,0,0,0,0,0])),(.inLoop (atC Try.f164 [1,1,1,1,1,1,1,1,1,0,0,0,0,0,0,0])),(.inBlock 6),(.code (atC Try.f164 [1,1,1,1,1,1,1,1,1,0,0,0,0,1])),(.inBlock 5),(.inLoop (atC Try.f164 [1,1,1,1,1,1,1,1,1,0,0,0])),(.inBlock 4),(.code (atC Try.f164 [1,1,1,1,1,1,1,1,1,1]))],[],.none⟩,[],
    ⟨[(0,(.arr [(.nt .i64),(.nt .i64),(.nt .i64),(.nt .i64),(.nt .i64),(.nt .i64)] (.v 39) (.v 1) 158 (.v 3)))],1,0,0,[((.lt (.ap 40 (.ap 3 (.v 28) (.v 36) (.c 3) (.c 0) (.c 0) (.c 0)) (.ap 3 (.v 28) (.v 36) (.c 5) (.c 0) (.c 0) (.c 0)) (.op .sub (.ap 3 (.v 28) (.v 36) (.c 4) (.c 0) (.c 0) (.c 0)) (.v 4)) (.ap 3 (.v 28) (.v 5) (.c 3) (.c 0) (.c 0) (.c 0)) (.ap 3 (.v 28) (.v 5) (.c 5) (.c 0) (.c 0) (.c 0)) (.op .sub (.ap 3 (.v 28) (.v 5) (.c 4) (.c 0) (.c 0) (.c 0)) (.v 4))) (.c 0)),.true),((.lt (.v 36) (.v 1)),.true),((.le (.v 30) (.v 36)),.true),((.lt (.v 5) (.v 1)),.true),((.le (.c 0) (.v 5)),.true),((.le (.v 5) (.c 1000)),.true),((.le (.c 0) (.v 6)),.true),((.le (.v 6) (.c 1000)),.true),((.le (.c 0) (.v 7)),.true),((.le (.v 7) (.c 1000)),.true),((.le (.v 5) (.v 7)),.true),((.lt (.v 7) (.v 6)),.true),((.le (.v 6) (.v 1)),.true),((.le (.v 1) (.v 2)),.true),((.le (.v 1) (.v 3)),.true)],[0],[(1,(1,1000)),(6,(1,1000)),(5,(0,999)),(7,(0,999)),(3,(0,(-1))),(4,((-9223372036854775808),9223372036854775807)),(62,(0,1001)),(54,((-1),1000))]⟩,[62]⟩
def uPar_T5:Tm:=⟨⟨164,178,[(13,(.it .i64 (.v 72))),(12,(.it .i64 (.v 62))),(0,(.sl (.n 0) (.c 0) (.v 1) (.v 2))),(1,(.it .i64 (.v 5))),(4,(.fn 117 [(.it .i64 (.v 4))] []))],[(.code (atC Try.f164 [1,1,1,1,1,1,1,1,1,0,0,0,0,1,0,0,0])),(.inLoop (atC Try.f164 [1,1,1,1,1,1,1,1,1,0,0,0,0,1,0,0,0])),(.inBlock 8),(.code (atC Try.f164 [1,1,1,1,1,1,1,1,1,0,0,0,0,1,1])),(.inBlock 5),(.inLoop (atC Try.f164 [1,1,1,1,1,1,1,1,1,0,0,0])),(.inBlock 4),(.code (atC Try.f164 [1,1,1,1,1,1,1,1,1,1]))],[],.none⟩,[],
    ⟨[(0,(.arr [(.nt .i64),(.nt .i64),(.nt .i64),(.nt .i64),(.nt .i64),(.nt .i64)] (.v 39) (.v 1) 158 (.v 3)))],1,0,0,[((.lt (.ap 40 (.ap 3 (.v 28) (.v 36) (.c 3) (.c 0) (.c 0) (.c 0)) (.ap 3 (.v 28) (.v 36) (.c 5) (.c 0) (.c 0) (.c 0)) (.op .sub (.ap 3 (.v 28) (.v 36) (.c 4) (.c 0) (.c 0) (.c 0)) (.v 4)) (.ap 3 (.v 28) (.v 5) (.c 3) (.c 0) (.c 0) (.c 0)) (.ap 3 (.v 28) (.v 5) (.c 5) (.c 0) (.c 0) (.c 0)) (.op .sub (.ap 3 (.v 28) (.v 5) (.c 4) (.c 0) (.c 0) (.c 0)) (.v 4))) (.c 0)),.true),((.lt (.v 36) (.v 1)),.true),((.le (.v 30) (.v 36)),.true),((.lt (.v 5) (.v 1)),.true),((.le (.c 0) (.v 5)),.true),((.le (.v 5) (.c 1000)),.true),((.le (.c 0) (.v 6)),.true),((.le (.v 6) (.c 1000)),.true),((.le (.c 0) (.v 7)),.true),((.le (.v 7) (.c 1000)),.true),((.le (.v 5) (.v 7)),.true),((.lt (.v 7) (.v 6)),.true),((.le (.v 6) (.v 1)),.true),((.le (.v 1) (.v 2)),.true),((.le (.v 1) (.v 3)),.true)],[0],[(1,(1,1000)),(6,(1,1000)),(5,(0,999)),(7,(0,999)),(3,(0,(-1))),(4,((-9223372036854775808),9223372036854775807)),(62,(0,1001)),(72,((-1),1000))]⟩,[72]⟩
def uPar_L0:List Lf:=
 let f0_:List (SB×Bool):=[((.le (.c 0) (.v 5)),.true),((.le (.v 5) (.c 1000)),.true),((.le (.c 0) (.v 6)),.true),((.le (.v 6) (.c 1000)),.true),((.le (.c 0) (.v 7)),.true),((.le (.v 7) (.c 1000)),.true),((.le (.v 5) (.v 7)),.true),((.lt (.v 7) (.v 6)),.true),((.le (.v 6) (.v 1)),.true),((.le (.v 1) (.v 2)),.true),((.le (.v 1) (.v 3)),.true)]
 [(let i_:In:=⟨⟨[(28,(.ap 8 (.ap 8 (.ap 8 (.ap 8 (.ap 8 (.ap 8 (.ap 8 (.ap 8 (.ap 8 (.ap 8 (.ap 8 (.ap 8 (.v 0) (.v 5) (.c 0) (.ap 3 (.v 0) (.v 7) (.c 0) (.c 0) (.c 0) (.c 0)) (.c 0) (.c 0)) (.v 5) (.c 1) (.ap 3 (.v 0) (.v 7) (.c 1) (.c 0) (.c 0) (.c 0)) (.c 0) (.c 0)) (.v 5) (.c 2) (.ap 3 (.v 0) (.v 7) (.c 2) (.c 0) (.c 0) (.c 0)) (.c 0) (.c 0)) (.v 5) (.c 3) (.ap 3 (.v 0) (.v 7) (.c 3) (.c 0) (.c 0) (.c 0)) (.c 0) (.c 0)) (.v 5) (.c 4) (.ap 3 (.v 0) (.v 7) (.c 4) (.c 0) (.c 0) (.c 0)) (.c 0) (.c 0)) (.v 5) (.c 5) (.ap 3 (.v 0) (.v 7) (.c 5) (.c 0) (.c 0) (.c 0)) (.c 0) (.c 0)) (.v 7) (.c 0) (.ap 3 (.v 0) (.v 5) (.c 0) (.c 0) (.c 0) (.c 0)) (.c 0) (.c 0)) (.v 7) (.c 1) (.ap 3 (.v 0) (.v 5) (.c 1) (.c 0) (.c 0) (.c 0)) (.c 0) (.c 0)) (.v 7) (.c 2) (.ap 3 (.v 0) (.v 5) (.c 2) (.c 0) (.c 0) (.c 0)) (.c 0) (.c 0)) (.v 7) (.c 3) (.ap 3 (.v 0) (.v 5) (.c 3) (.c 0) (.c 0) (.c 0)) (.c 0) (.c 0)) (.v 7) (.c 4) (.ap 3 (.v 0) (.v 5) (.c 4) (.c 0) (.c 0) (.c 0)) (.c 0) (.c 0)) (.v 7) (.c 5) (.ap 3 (.v 0) (.v 5) (.c 5) (.c 0) (.c 0) (.c 0)) (.c 0) (.c 0))),(30,(.op .add (.v 5) (.c 1)))],[]⟩,[(0,0)],[],[]⟩;.cut (((.lt (.v 5) (.v 1)),.true)::f0_) 1 i_ [] (shT uPar_T1 i_)),
  (.bad (((.lt (.v 5) (.v 1)),.false)::f0_))]
def uPar_L1:List Lf:=
 let x0_:SI:=(.ap 40 (.ap 3 (.v 28) (.v 30) (.c 3) (.c 0) (.c 0) (.c 0)) (.ap 3 (.v 28) (.v 30) (.c 5) (.c 0) (.c 0) (.c 0)) (.op .sub (.ap 3 (.v 28) (.v 30) (.c 4) (.c 0) (.c 0) (.c 0)) (.v 4)) (.ap 3 (.v 28) (.v 5) (.c 3) (.c 0) (.c 0) (.c 0)) (.ap 3 (.v 28) (.v 5) (.c 5) (.c 0) (.c 0) (.c 0)) (.op .sub (.ap 3 (.v 28) (.v 5) (.c 4) (.c 0) (.c 0) (.c 0)) (.v 4)))
 let f0_:List (SB×Bool):=[((.lt (.v 5) (.v 1)),.true),((.le (.c 0) (.v 5)),.true),((.le (.v 5) (.c 1000)),.true),((.le (.c 0) (.v 6)),.true),((.le (.v 6) (.c 1000)),.true),((.le (.c 0) (.v 7)),.true),((.le (.v 7) (.c 1000)),.true),((.le (.v 5) (.v 7)),.true),((.lt (.v 7) (.v 6)),.true),((.le (.v 6) (.v 1)),.true),((.le (.v 1) (.v 2)),.true),((.le (.v 1) (.v 3)),.true)]
 let f1_:List (SB×Bool):=((.le (.v 30) (.op .add (.v 6) (.c (-1)))),.true)::f0_
 [(let i_:In:=⟨⟨[(28,(.v 28)),(30,(.op .add (.v 30) (.c 1)))],[]⟩,[(0,0)],[],[]⟩;.cut (((.lt x0_ (.c 0)),.true)::f1_) 1 i_ [] (shT uPar_T1 i_)),
  (let i_:In:=⟨⟨[(36,(.op .add (.v 6) (.c (-1))))],[]⟩,[(0,0)],[],[]⟩;.cut (((.lt x0_ (.c 0)),.false)::f1_) 2 i_ [] (shT uPar_T2 i_)),
  (let i_:In:=⟨⟨[(36,(.op .add (.v 6) (.c (-1))))],[]⟩,[(0,0)],[],[]⟩;.cut (((.le (.v 30) (.op .add (.v 6) (.c (-1)))),.false)::f0_) 2 i_ [] (shT uPar_T2 i_))]
def uPar_L2:List Lf:=
 let x0_:SI:=(.ap 3 (.v 28) (.v 5) (.c 3) (.c 0) (.c 0) (.c 0))
 let x1_:SI:=(.ap 3 (.v 28) (.v 5) (.c 5) (.c 0) (.c 0) (.c 0))
 let x2_:SI:=(.ap 3 (.v 28) (.v 5) (.c 4) (.c 0) (.c 0) (.c 0))
 let x3_:SI:=(.ap 45 (.v 0) (.v 1) (.v 5) (.v 6) (.v 7) (.v 4))
 let x4_:SI:=(.ap 3 (.v 28) (.v 36) (.c 3) (.c 0) (.c 0) (.c 0))
 let x5_:SI:=(.ap 3 (.v 28) (.v 36) (.c 5) (.c 0) (.c 0) (.c 0))
 let x6_:SI:=(.ap 3 (.v 28) (.v 36) (.c 4) (.c 0) (.c 0) (.c 0))
 let x7_:SI:=(.ap 3 (.v 28) (.v 36) (.c 0) (.c 0) (.c 0) (.c 0))
 let x8_:SI:=(.ap 3 (.v 28) (.v 36) (.c 1) (.c 0) (.c 0) (.c 0))
 let x9_:SI:=(.ap 3 (.v 28) (.v 36) (.c 2) (.c 0) (.c 0) (.c 0))
 let x10_:SI:=(.ap 40 x4_ x5_ (.op .sub x6_ (.v 4)) x0_ x1_ (.op .sub x2_ (.v 4)))
 let f0_:List (SB×Bool):=[((.lt (.v 5) (.v 1)),.true),((.le (.c 0) (.v 5)),.true),((.le (.v 5) (.c 1000)),.true),((.le (.c 0) (.v 6)),.true),((.le (.v 6) (.c 1000)),.true),((.le (.c 0) (.v 7)),.true),((.le (.v 7) (.c 1000)),.true),((.le (.v 5) (.v 7)),.true),((.lt (.v 7) (.v 6)),.true),((.le (.v 6) (.v 1)),.true),((.le (.v 1) (.v 2)),.true),((.le (.v 1) (.v 3)),.true)]
 let f1_:List (SB×Bool):=((.le (.v 30) (.v 36)),.true)::f0_
 let f2_:List (SB×Bool):=((.le (.v 30) (.v 36)),.false)::f0_
 let f3_:List (SB×Bool):=((.lt (.v 36) (.v 1)),.true)::f1_
 let f4_:List (SB×Bool):=((.le (.c 0) (.v 36)),.true)::f2_
 [(let i_:In:=⟨⟨[(39,(.ap 8 (.ap 8 (.ap 8 (.ap 8 (.ap 8 (.ap 8 (.ap 8 (.ap 8 (.ap 8 (.ap 8 (.ap 8 (.ap 8 (.v 28) (.v 30) (.c 0) x7_ (.c 0) (.c 0)) (.v 30) (.c 1) x8_ (.c 0) (.c 0)) (.v 30) (.c 2) x9_ (.c 0) (.c 0)) (.v 30) (.c 3) x4_ (.c 0) (.c 0)) (.v 30) (.c 4) x6_ (.c 0) (.c 0)) (.v 30) (.c 5) x5_ (.c 0) (.c 0)) (.v 36) (.c 0) (.ap 3 (.v 28) (.v 30) (.c 0) (.c 0) (.c 0) (.c 0)) (.c 0) (.c 0)) (.v 36) (.c 1) (.ap 3 (.v 28) (.v 30) (.c 1) (.c 0) (.c 0) (.c 0)) (.c 0) (.c 0)) (.v 36) (.c 2) (.ap 3 (.v 28) (.v 30) (.c 2) (.c 0) (.c 0) (.c 0)) (.c 0) (.c 0)) (.v 36) (.c 3) (.ap 3 (.v 28) (.v 30) (.c 3) (.c 0) (.c 0) (.c 0)) (.c 0) (.c 0)) (.v 36) (.c 4) (.ap 3 (.v 28) (.v 30) (.c 4) (.c 0) (.c 0) (.c 0)) (.c 0) (.c 0)) (.v 36) (.c 5) (.ap 3 (.v 28) (.v 30) (.c 5) (.c 0) (.c 0) (.c 0)) (.c 0) (.c 0))),(55,(.op .add (.v 30) (.c 1))),(54,(.op .add (.v 36) (.c (-1))))],[]⟩,[(0,0)],[],[]⟩;.cut (((.lt x10_ (.c 0)),.true)::f3_) 3 i_ [] (shT uPar_T3 i_)),
  (let i_:In:=⟨⟨[(36,(.op .add (.v 36) (.c (-1))))],[]⟩,[(0,0)],[],[]⟩;.cut (((.lt x10_ (.c 0)),.false)::f3_) 2 i_ [] (shT uPar_T2 i_)),
  (.bad (((.lt (.v 36) (.v 1)),.false)::f1_)),
  (.fin (((.lt (.v 36) (.v 1)),.true)::f4_) 0 ⟨⟨[],[]⟩,[(0,0)],[],[]⟩ [(.ei (.ap 45 (.v 0) (.v 1) (.v 5) (.v 6) (.v 7) (.v 4)) (.v 36)),(.eb (.ap 44 (.v 0) (.v 1) (.v 5) (.v 6) (.v 7) (.v 4)) (.c .true)),(.ar [(.nt .i64),(.nt .i64),(.nt .i64),(.nt .i64),(.nt .i64),(.nt .i64)] (.ap 44 (.v 0) (.v 1) (.v 5) (.v 6) (.v 7) (.v 4)) (.ap 8 (.ap 8 (.ap 8 (.ap 8 (.ap 8 (.ap 8 (.ap 8 (.ap 8 (.ap 8 (.ap 8 (.ap 8 (.ap 8 (.v 28) (.v 36) (.c 0) (.ap 3 (.v 28) (.v 5) (.c 0) (.c 0) (.c 0) (.c 0)) (.c 0) (.c 0)) (.v 36) (.c 1) (.ap 3 (.v 28) (.v 5) (.c 1) (.c 0) (.c 0) (.c 0)) (.c 0) (.c 0)) (.v 36) (.c 2) (.ap 3 (.v 28) (.v 5) (.c 2) (.c 0) (.c 0) (.c 0)) (.c 0) (.c 0)) (.v 36) (.c 3) x0_ (.c 0) (.c 0)) (.v 36) (.c 4) x2_ (.c 0) (.c 0)) (.v 36) (.c 5) x1_ (.c 0) (.c 0)) (.v 5) (.c 0) x7_ (.c 0) (.c 0)) (.v 5) (.c 1) x8_ (.c 0) (.c 0)) (.v 5) (.c 2) x9_ (.c 0) (.c 0)) (.v 5) (.c 3) x4_ (.c 0) (.c 0)) (.v 5) (.c 4) x6_ (.c 0) (.c 0)) (.v 5) (.c 5) x5_ (.c 0) (.c 0)) (.v 1)),(.fa (.le (.v 5) x3_) .true),(.fa (.lt x3_ (.v 6)) .true)] [.none]),
  (.bad (((.lt (.v 36) (.v 1)),.false)::f4_)),
  (.bad (((.le (.c 0) (.v 36)),.false)::f2_))]
def uPar_L3:List Lf:=
 [(.cut ([((.lt (.ap 40 (.ap 3 (.v 28) (.v 36) (.c 3) (.c 0) (.c 0) (.c 0)) (.ap 3 (.v 28) (.v 36) (.c 5) (.c 0) (.c 0) (.c 0)) (.op .sub (.ap 3 (.v 28) (.v 36) (.c 4) (.c 0) (.c 0) (.c 0)) (.v 4)) (.ap 3 (.v 28) (.v 5) (.c 3) (.c 0) (.c 0) (.c 0)) (.ap 3 (.v 28) (.v 5) (.c 5) (.c 0) (.c 0) (.c 0)) (.op .sub (.ap 3 (.v 28) (.v 5) (.c 4) (.c 0) (.c 0) (.c 0)) (.v 4))) (.c 0)),.true),((.lt (.v 36) (.v 1)),.true),((.le (.v 30) (.v 36)),.true),((.lt (.v 5) (.v 1)),.true),((.le (.c 0) (.v 5)),.true),((.le (.v 5) (.c 1000)),.true),((.le (.c 0) (.v 6)),.true),((.le (.v 6) (.c 1000)),.true),((.le (.c 0) (.v 7)),.true),((.le (.v 7) (.c 1000)),.true),((.le (.v 5) (.v 7)),.true),((.lt (.v 7) (.v 6)),.true),((.le (.v 6) (.v 1)),.true),((.le (.v 1) (.v 2)),.true),((.le (.v 1) (.v 3)),.true)]) 4 ⟨⟨[(62,(.v 55))],[]⟩,[(0,0)],[],[]⟩ [] (shT uPar_T4 ⟨⟨[(62,(.v 55))],[]⟩,[(0,0)],[],[]⟩))]
def uPar_L4:List Lf:=
 let x0_:SI:=(.ap 40 (.ap 3 (.v 39) (.v 62) (.c 3) (.c 0) (.c 0) (.c 0)) (.ap 3 (.v 39) (.v 62) (.c 5) (.c 0) (.c 0) (.c 0)) (.op .sub (.ap 3 (.v 39) (.v 62) (.c 4) (.c 0) (.c 0) (.c 0)) (.v 4)) (.ap 3 (.v 39) (.v 5) (.c 3) (.c 0) (.c 0) (.c 0)) (.ap 3 (.v 39) (.v 5) (.c 5) (.c 0) (.c 0) (.c 0)) (.op .sub (.ap 3 (.v 39) (.v 5) (.c 4) (.c 0) (.c 0) (.c 0)) (.v 4)))
 let f0_:List (SB×Bool):=[((.lt (.ap 40 (.ap 3 (.v 28) (.v 36) (.c 3) (.c 0) (.c 0) (.c 0)) (.ap 3 (.v 28) (.v 36) (.c 5) (.c 0) (.c 0) (.c 0)) (.op .sub (.ap 3 (.v 28) (.v 36) (.c 4) (.c 0) (.c 0) (.c 0)) (.v 4)) (.ap 3 (.v 28) (.v 5) (.c 3) (.c 0) (.c 0) (.c 0)) (.ap 3 (.v 28) (.v 5) (.c 5) (.c 0) (.c 0) (.c 0)) (.op .sub (.ap 3 (.v 28) (.v 5) (.c 4) (.c 0) (.c 0) (.c 0)) (.v 4))) (.c 0)),.true),((.lt (.v 36) (.v 1)),.true),((.le (.v 30) (.v 36)),.true),((.lt (.v 5) (.v 1)),.true),((.le (.c 0) (.v 5)),.true),((.le (.v 5) (.c 1000)),.true),((.le (.c 0) (.v 6)),.true),((.le (.v 6) (.c 1000)),.true),((.le (.c 0) (.v 7)),.true),((.le (.v 7) (.c 1000)),.true),((.le (.v 5) (.v 7)),.true),((.lt (.v 7) (.v 6)),.true),((.le (.v 6) (.v 1)),.true),((.le (.v 1) (.v 2)),.true),((.le (.v 1) (.v 3)),.true)]
 let f1_:List (SB×Bool):=((.le (.v 62) (.v 54)),.true)::f0_
 let f2_:List (SB×Bool):=((.lt (.v 62) (.v 1)),.true)::f1_
 [(.cut (((.lt x0_ (.c 0)),.true)::f2_) 4 ⟨⟨[(62,(.op .add (.v 62) (.c 1)))],[]⟩,[(0,0)],[],[]⟩ [] (shT uPar_T4 ⟨⟨[(62,(.op .add (.v 62) (.c 1)))],[]⟩,[(0,0)],[],[]⟩)),
  (.cut (((.lt x0_ (.c 0)),.false)::f2_) 5 ⟨⟨[(72,(.v 54))],[]⟩,[(0,0)],[],[]⟩ [] (shT uPar_T5 ⟨⟨[(72,(.v 54))],[]⟩,[(0,0)],[],[]⟩)),
  (.bad (((.lt (.v 62) (.v 1)),.false)::f1_)),
  (.cut (((.le (.v 62) (.v 54)),.false)::f0_) 5 ⟨⟨[(72,(.v 54))],[]⟩,[(0,0)],[],[]⟩ [] (shT uPar_T5 ⟨⟨[(72,(.v 54))],[]⟩,[(0,0)],[],[]⟩))]
def uPar_L5:List Lf:=
 let x0_:SI:=(.ap 3 (.v 39) (.v 5) (.c 3) (.c 0) (.c 0) (.c 0))
 let x1_:SI:=(.ap 3 (.v 39) (.v 5) (.c 5) (.c 0) (.c 0) (.c 0))
 let x2_:SI:=(.ap 3 (.v 39) (.v 5) (.c 4) (.c 0) (.c 0) (.c 0))
 let x3_:SI:=(.ap 45 (.v 0) (.v 1) (.v 5) (.v 6) (.v 7) (.v 4))
 let x4_:SI:=(.ap 3 (.v 39) (.v 72) (.c 3) (.c 0) (.c 0) (.c 0))
 let x5_:SI:=(.ap 3 (.v 39) (.v 72) (.c 5) (.c 0) (.c 0) (.c 0))
 let x6_:SI:=(.ap 3 (.v 39) (.v 72) (.c 4) (.c 0) (.c 0) (.c 0))
 let x7_:SI:=(.ap 3 (.v 39) (.v 72) (.c 0) (.c 0) (.c 0) (.c 0))
 let x8_:SI:=(.ap 3 (.v 39) (.v 72) (.c 1) (.c 0) (.c 0) (.c 0))
 let x9_:SI:=(.ap 3 (.v 39) (.v 72) (.c 2) (.c 0) (.c 0) (.c 0))
 let x10_:SI:=(.ap 40 x4_ x5_ (.op .sub x6_ (.v 4)) x0_ x1_ (.op .sub x2_ (.v 4)))
 let f0_:List (SB×Bool):=[((.lt (.ap 40 (.ap 3 (.v 28) (.v 36) (.c 3) (.c 0) (.c 0) (.c 0)) (.ap 3 (.v 28) (.v 36) (.c 5) (.c 0) (.c 0) (.c 0)) (.op .sub (.ap 3 (.v 28) (.v 36) (.c 4) (.c 0) (.c 0) (.c 0)) (.v 4)) (.ap 3 (.v 28) (.v 5) (.c 3) (.c 0) (.c 0) (.c 0)) (.ap 3 (.v 28) (.v 5) (.c 5) (.c 0) (.c 0) (.c 0)) (.op .sub (.ap 3 (.v 28) (.v 5) (.c 4) (.c 0) (.c 0) (.c 0)) (.v 4))) (.c 0)),.true),((.lt (.v 36) (.v 1)),.true),((.le (.v 30) (.v 36)),.true),((.lt (.v 5) (.v 1)),.true),((.le (.c 0) (.v 5)),.true),((.le (.v 5) (.c 1000)),.true),((.le (.c 0) (.v 6)),.true),((.le (.v 6) (.c 1000)),.true),((.le (.c 0) (.v 7)),.true),((.le (.v 7) (.c 1000)),.true),((.le (.v 5) (.v 7)),.true),((.lt (.v 7) (.v 6)),.true),((.le (.v 6) (.v 1)),.true),((.le (.v 1) (.v 2)),.true),((.le (.v 1) (.v 3)),.true)]
 let f1_:List (SB×Bool):=((.le (.v 62) (.v 72)),.true)::f0_
 let f2_:List (SB×Bool):=((.le (.v 62) (.v 72)),.false)::f0_
 let f3_:List (SB×Bool):=((.lt (.v 72) (.v 1)),.true)::f1_
 let f4_:List (SB×Bool):=((.le (.c 0) (.v 72)),.true)::f2_
 [(let i_:In:=⟨⟨[(39,(.ap 8 (.ap 8 (.ap 8 (.ap 8 (.ap 8 (.ap 8 (.ap 8 (.ap 8 (.ap 8 (.ap 8 (.ap 8 (.ap 8 (.v 39) (.v 62) (.c 0) x7_ (.c 0) (.c 0)) (.v 62) (.c 1) x8_ (.c 0) (.c 0)) (.v 62) (.c 2) x9_ (.c 0) (.c 0)) (.v 62) (.c 3) x4_ (.c 0) (.c 0)) (.v 62) (.c 4) x6_ (.c 0) (.c 0)) (.v 62) (.c 5) x5_ (.c 0) (.c 0)) (.v 72) (.c 0) (.ap 3 (.v 39) (.v 62) (.c 0) (.c 0) (.c 0) (.c 0)) (.c 0) (.c 0)) (.v 72) (.c 1) (.ap 3 (.v 39) (.v 62) (.c 1) (.c 0) (.c 0) (.c 0)) (.c 0) (.c 0)) (.v 72) (.c 2) (.ap 3 (.v 39) (.v 62) (.c 2) (.c 0) (.c 0) (.c 0)) (.c 0) (.c 0)) (.v 72) (.c 3) (.ap 3 (.v 39) (.v 62) (.c 3) (.c 0) (.c 0) (.c 0)) (.c 0) (.c 0)) (.v 72) (.c 4) (.ap 3 (.v 39) (.v 62) (.c 4) (.c 0) (.c 0) (.c 0)) (.c 0) (.c 0)) (.v 72) (.c 5) (.ap 3 (.v 39) (.v 62) (.c 5) (.c 0) (.c 0) (.c 0)) (.c 0) (.c 0))),(55,(.op .add (.v 62) (.c 1))),(54,(.op .add (.v 72) (.c (-1))))],[]⟩,[(0,0)],[],[]⟩;.cut (((.lt x10_ (.c 0)),.true)::f3_) 3 i_ [] (shT uPar_T3 i_)),
  (let i_:In:=⟨⟨[(72,(.op .add (.v 72) (.c (-1))))],[]⟩,[(0,0)],[],[]⟩;.cut (((.lt x10_ (.c 0)),.false)::f3_) 5 i_ [] (shT uPar_T5 i_)),
  (.bad (((.lt (.v 72) (.v 1)),.false)::f1_)),
  (.fin (((.lt (.v 72) (.v 1)),.true)::f4_) 0 ⟨⟨[],[]⟩,[(0,0)],[],[]⟩ [(.ei (.ap 45 (.v 0) (.v 1) (.v 5) (.v 6) (.v 7) (.v 4)) (.v 72)),(.eb (.ap 44 (.v 0) (.v 1) (.v 5) (.v 6) (.v 7) (.v 4)) (.c .false)),(.ar [(.nt .i64),(.nt .i64),(.nt .i64),(.nt .i64),(.nt .i64),(.nt .i64)] (.ap 44 (.v 0) (.v 1) (.v 5) (.v 6) (.v 7) (.v 4)) (.ap 8 (.ap 8 (.ap 8 (.ap 8 (.ap 8 (.ap 8 (.ap 8 (.ap 8 (.ap 8 (.ap 8 (.ap 8 (.ap 8 (.v 39) (.v 72) (.c 0) (.ap 3 (.v 39) (.v 5) (.c 0) (.c 0) (.c 0) (.c 0)) (.c 0) (.c 0)) (.v 72) (.c 1) (.ap 3 (.v 39) (.v 5) (.c 1) (.c 0) (.c 0) (.c 0)) (.c 0) (.c 0)) (.v 72) (.c 2) (.ap 3 (.v 39) (.v 5) (.c 2) (.c 0) (.c 0) (.c 0)) (.c 0) (.c 0)) (.v 72) (.c 3) x0_ (.c 0) (.c 0)) (.v 72) (.c 4) x2_ (.c 0) (.c 0)) (.v 72) (.c 5) x1_ (.c 0) (.c 0)) (.v 5) (.c 0) x7_ (.c 0) (.c 0)) (.v 5) (.c 1) x8_ (.c 0) (.c 0)) (.v 5) (.c 2) x9_ (.c 0) (.c 0)) (.v 5) (.c 3) x4_ (.c 0) (.c 0)) (.v 5) (.c 4) x6_ (.c 0) (.c 0)) (.v 5) (.c 5) x5_ (.c 0) (.c 0)) (.v 1)),(.fa (.le (.v 5) x3_) .true),(.fa (.lt x3_ (.v 6)) .true)] [.none]),
  (.bad (((.lt (.v 72) (.v 1)),.false)::f4_)),
  (.bad (((.le (.c 0) (.v 72)),.false)::f2_))]
def uPar_run (T:Tm):=(ex (ccM Try.prog BF [58,84]) ((fun cc=>[uCmp.ent cc]) (ccM Try.prog BF [58,84])) (dw (ccM Try.prog BF [58,84]) ((fun cc=>[uCmp.ent cc]) (ccM Try.prog BF [58,84])) 1000 4) (stopX []) 4000 T.f T.fs T.H).lfsM 1 (ccM Try.prog BF [58,84]) ((tmM uPar Try.f164 (Try.f164.body.getD .skip))::[uPar_T1,uPar_T2,uPar_T3,uPar_T4,uPar_T5]) uPar.os
theorem uPar_h0:uPar_run (tmM uPar Try.f164 (Try.f164.body.getD .skip))=some uPar_L0:=by kernel_rfl
theorem uPar_h1:uPar_run uPar_T1=some uPar_L1:=by kernel_rfl
theorem uPar_h2:uPar_run uPar_T2=some uPar_L2:=by kernel_rfl
theorem uPar_h3:uPar_run uPar_T3=some uPar_L3:=by kernel_rfl
theorem uPar_h4:uPar_run uPar_T4=some uPar_L4:=by kernel_rfl
theorem uPar_h5:uPar_run uPar_T5=some uPar_L5:=by kernel_rfl
def uPar_inv:(Nat→Int)→(Nat→Bool)→Nat→(Nat→Int)→(Nat→Bool)→Prop:=fun iv0 _ k iv _=>match k with
 | 0=>True
 | 1=>0≤iv0 5∧iv0 5 < iv 30∧iv 30≤iv0 6∧(arrOf (iv 28) (iv0 1))=Sort.swp (arrOf (iv0 0) (iv0 1)) (iv0 5).toNat (iv0 7).toNat∧Sort.scanUp (pUp (iv0 4) (arrOf (iv 28) (iv0 1)) (iv0 5).toNat) (arrOf (iv 28) (iv0 1)) (iv0 6+-1).toNat (iv 30).toNat=Sort.scanUp (pUp (iv0 4) (arrOf (iv 28) (iv0 1)) (iv0 5).toNat) (arrOf (iv 28) (iv0 1)) (iv0 6+-1).toNat (iv0 5+1).toNat
 | 2=>0≤iv0 5∧iv0 5 < iv 30∧iv 30≤iv0 6∧(arrOf (iv 28) (iv0 1))=Sort.swp (arrOf (iv0 0) (iv0 1)) (iv0 5).toNat (iv0 7).toNat∧Sort.scanUp (pUp (iv0 4) (arrOf (iv 28) (iv0 1)) (iv0 5).toNat) (arrOf (iv 28) (iv0 1)) (iv0 6+-1).toNat (iv0 5+1).toNat=(iv 30).toNat∧iv 30 - 1≤iv 36∧iv 36 < iv0 6∧Sort.scanDown (pDn (iv0 4) (arrOf (iv 28) (iv0 1)) (iv0 5).toNat) (arrOf (iv 28) (iv0 1)) (iv 30).toNat (iv 36).toNat=Sort.scanDown (pDn (iv0 4) (arrOf (iv 28) (iv0 1)) (iv0 5).toNat) (arrOf (iv 28) (iv0 1)) (iv 30).toNat (iv0 6+-1).toNat
 | 3=>0≤iv0 5∧iv0 5 < iv 55∧iv 55≤iv0 6∧iv0 5≤iv 54∧iv 54 < iv0 6∧parT (iv0 4) (iv0 5) (iv 55) (iv 54) (arrOf (iv 39) (iv0 1))=Sort.partition (ltU (iv0 4)) (arrOf (iv0 0) (iv0 1)) (iv0 5).toNat (iv0 6).toNat (iv0 7).toNat
 | 4=>0≤iv0 5∧iv0 5 < iv 55∧iv 55≤iv0 6∧iv0 5≤iv 54∧iv 54 < iv0 6∧parT (iv0 4) (iv0 5) (iv 55) (iv 54) (arrOf (iv 39) (iv0 1))=Sort.partition (ltU (iv0 4)) (arrOf (iv0 0) (iv0 1)) (iv0 5).toNat (iv0 6).toNat (iv0 7).toNat∧iv 55≤iv 62∧iv 62≤iv0 6∧Sort.scanUp (pUp (iv0 4) (arrOf (iv 39) (iv0 1)) (iv0 5).toNat) (arrOf (iv 39) (iv0 1)) (iv 54).toNat (iv 62).toNat=Sort.scanUp (pUp (iv0 4) (arrOf (iv 39) (iv0 1)) (iv0 5).toNat) (arrOf (iv 39) (iv0 1)) (iv 54).toNat (iv 55).toNat
 | _=>0≤iv0 5∧iv0 5 < iv 55∧iv 55≤iv0 6∧iv0 5≤iv 54∧iv 54 < iv0 6∧parT (iv0 4) (iv0 5) (iv 55) (iv 54) (arrOf (iv 39) (iv0 1))=Sort.partition (ltU (iv0 4)) (arrOf (iv0 0) (iv0 1)) (iv0 5).toNat (iv0 6).toNat (iv0 7).toNat∧iv 55≤iv 62∧iv 62≤iv0 6∧Sort.scanUp (pUp (iv0 4) (arrOf (iv 39) (iv0 1)) (iv0 5).toNat) (arrOf (iv 39) (iv0 1)) (iv 54).toNat (iv 55).toNat=(iv 62).toNat∧iv0 5≤iv 72∧iv 72≤iv 54∧Sort.scanDown (pDn (iv0 4) (arrOf (iv 39) (iv0 1)) (iv0 5).toNat) (arrOf (iv 39) (iv0 1)) (iv 62).toNat (iv 72).toNat=Sort.scanDown (pDn (iv0 4) (arrOf (iv 39) (iv0 1)) (iv0 5).toNat) (arrOf (iv 39) (iv0 1)) (iv 62).toNat (iv 54).toNat
def uPar_mu:(Nat→Int)→(Nat→Bool)→Nat→(Nat→Int)→(Nat→Bool)→Nat:=fun iv0 _ k iv _=>match k with | 0=>2 ^ 90 | 1=>2 ^ 85+(iv0 6 - iv 30).toNat | 2=>2 ^ 84+(iv 36+1).toNat | 3=>(iv 54+1).toNat * 2 ^ 70+2 ^ 60 | 4=>(iv 54+1).toNat * 2 ^ 70+2 ^ 50+(iv0 6 - iv 62).toNat | _=>(iv 54+1).toNat * 2 ^ 70+(iv 72+1).toNat
theorem uPar_b {iv0:Nat→Int} (hin:InB uPar.B iv0):(0≤iv0 1∧iv0 1≤1000)∧((-9223372036854775808)≤iv0 4∧iv0 4≤9223372036854775807):=by
 have b1:=hin 1 0 1000 (by simp [uPar,kU,ints,i64s,lmap,i64b,dU,cmpV,mU,bU,fU,leF,ltF,tU,nu,mS,ltAt,mS',tM,tC,tP,pP,pC])
 simp only [Int.reduceLE,reduceIte,Int.reduceNeg] at b1
 have b4:=hin 4 (-9223372036854775808) 9223372036854775807 (by simp [uPar,kU,ints,i64s,lmap,i64b,dU,cmpV,mU,bU,fU,leF,ltF,tU,nu,mS,ltAt,mS',tM,tC,tP,pP,pC])
 simp only [Int.reduceLE,reduceIte,Int.reduceNeg] at b4
 exact ⟨b1,b4⟩
def uPar_ob (k:Nat) (l:List Lf):Prop:=∀ (kv:Kv) (iv0:Nat→Int) (bv0:Nat→Bool),InB uPar.B iv0→FT (sta FI FB kv iv0 bv0) (dlt dyn0) uPar.F→∀ (iv:Nat→Int) (bv:Nat→Bool),Agr 8 iv0 bv0 iv bv→uPar_inv iv0 bv0 k iv bv→∀ lf∈l,LfT (sta FI FB kv) uPar.os (uPar_inv iv0 bv0) (uPar_mu iv0 bv0) k iv bv lf
theorem uPar_o0:uPar_ob 0 uPar_L0:=by
 intro kv iv0 bv0 hin hF iv bv ha hi
 unfold uPar_L0
 refine List.forall_mem_cons.2 ⟨?_,List.forall_mem_cons.2 ⟨?_,List.forall_mem_nil _⟩⟩
 all_goals
  intro δ hf
 all_goals
  obtain ⟨b1,b4⟩:=uPar_b hin
 all_goals
  have a0:=ha.1 0 (by omega)
  have a1:=ha.1 1 (by omega)
  have a2:=ha.1 2 (by omega)
  have a3:=ha.1 3 (by omega)
  have a4:=ha.1 4 (by omega)
  have a5:=ha.1 5 (by omega)
  have a6:=ha.1 6 (by omega)
  have a7:=ha.1 7 (by omega)
 all_goals
  simp only [FT,TP,SB.tp,SI.tv,sta,IB.eval,and_true,true_and,ObsT,Ob.Tv,rowT,kix,In.tiv,↓tbvT,In.tbv,get_cons,get_nil,reduceIte,Nat.reduceEqDiff,Int.reduceToNat,Int.reduceAdd,Int.reduceSub,Int.reduceLE,Int.reduceLT,Int.reduceEq,ne_eq,Bool.false_eq_true,not_true_eq_false,not_false_eq_true,true_iff,false_iff,iff_true,iff_false,false_implies,implies_true,decT,decide_true,decide_false,Bool.decide_eq_true,ap2,pb2,FI_3,FI_8,FI_9,FI_3g,FI_8m,Int.toNat_natCast,Int.toNat_zero,FI_40,FI_44,FI_45,FB_44,uPar_inv,uPar_mu,uPar,o1,othT,kU,ints,i64s,lmap,i64b,dU,cmpV,mU,bU,fU,leF,ltF,tU,nu,mS,ltAt,mS',tM,tC,tP,pP,pC,a0,a1,a2,a3,a4,a5,a6,a7] at hf hi ⊢
 all_goals
  (repeat' (with_reducible apply And.intro))<;>first
  | omega
  | assumption
  | (unfold inM;omega)
  | (rw [swp12 (by omega) (by omega) (by omega) (by omega)])
theorem uPar_o1:uPar_ob 1 uPar_L1:=by
 intro kv iv0 bv0 hin hF iv bv ha hi
 unfold uPar_L1
 refine List.forall_mem_cons.2 ⟨?_,List.forall_mem_cons.2 ⟨?_,List.forall_mem_cons.2 ⟨?_,List.forall_mem_nil _⟩⟩⟩
 all_goals
  intro δ hf
 all_goals
  obtain ⟨b1,b4⟩:=uPar_b hin
 all_goals
  have a0:=ha.1 0 (by omega)
  have a1:=ha.1 1 (by omega)
  have a2:=ha.1 2 (by omega)
  have a3:=ha.1 3 (by omega)
  have a4:=ha.1 4 (by omega)
  have a5:=ha.1 5 (by omega)
  have a6:=ha.1 6 (by omega)
  have a7:=ha.1 7 (by omega)
 all_goals
  simp only [FT,TP,SB.tp,SI.tv,sta,IB.eval,and_true,true_and,ObsT,Ob.Tv,rowT,kix,In.tiv,↓tbvT,In.tbv,get_cons,get_nil,reduceIte,Nat.reduceEqDiff,Int.reduceToNat,Int.reduceAdd,Int.reduceSub,Int.reduceLE,Int.reduceLT,Int.reduceEq,ne_eq,Bool.false_eq_true,not_true_eq_false,not_false_eq_true,true_iff,false_iff,iff_true,iff_false,false_implies,implies_true,decT,decide_true,decide_false,Bool.decide_eq_true,ap2,pb2,FI_3,FI_8,FI_9,FI_3g,FI_8m,Int.toNat_natCast,Int.toNat_zero,FI_40,FI_44,FI_45,FB_44,uPar_inv,uPar_mu,uPar,o1,othT,kU,ints,i64s,lmap,i64b,dU,cmpV,mU,bU,fU,leF,ltF,tU,nu,mS,ltAt,mS',tM,tC,tP,pP,pC,a0,a1,a2,a3,a4,a5,a6,a7] at hf hi ⊢
 all_goals
  obtain ⟨g0,g1,g2,g3,g4⟩:=hi
 all_goals
  (repeat' (with_reducible apply And.intro))<;>first
  | omega
  | assumption
  | (unfold inM;omega)
  | (rw [sUp_go (by omega) (by omega) (by omega) (by omega) (by omega) (by first | exact hf.1 | exact hf.2.1 | exact hf.2.2.1 | exact hf.2.2.2.1 | exact hf.2.2.2.2.1 | exact hf.2.2.2.2.2.1 | exact hf.2.2.2.2.2.2.1 | exact hf.2.2.2.2.2.2.2.1 | exact hf.2.2.2.2.2.2.2.2.1 | exact hf.2.2.2.2.2.2.2.2.2.1 | exact hf.2.2.2.2.2.2.2.2.2.2.1 | exact hf.2.2.2.2.2.2.2.2.2.2.2.1 | exact hf.2.2.2.2.2.2.2.2.2.2.2.2.1 | exact hf.2.2.2.2.2.2.2.2.2.2.2.2.2.1)] at g4;exact g4)
  | (rw [sUp_no (by omega) (by omega) (by omega) (by omega) (by first | exact hf.1 | exact hf.2.1 | exact hf.2.2.1 | exact hf.2.2.2.1 | exact hf.2.2.2.2.1 | exact hf.2.2.2.2.2.1 | exact hf.2.2.2.2.2.2.1 | exact hf.2.2.2.2.2.2.2.1 | exact hf.2.2.2.2.2.2.2.2.1 | exact hf.2.2.2.2.2.2.2.2.2.1 | exact hf.2.2.2.2.2.2.2.2.2.2.1 | exact hf.2.2.2.2.2.2.2.2.2.2.2.1 | exact hf.2.2.2.2.2.2.2.2.2.2.2.2.1 | exact hf.2.2.2.2.2.2.2.2.2.2.2.2.2.1)] at g4;exact g4.symm)
  | (rw [sUp_past (by omega) (by omega) (by omega)] at g4;exact g4.symm)
theorem uPar_o2:uPar_ob 2 uPar_L2:=by
 intro kv iv0 bv0 hin hF iv bv ha hi
 unfold uPar_L2
 refine List.forall_mem_cons.2 ⟨?_,List.forall_mem_cons.2 ⟨?_,List.forall_mem_cons.2 ⟨?_,List.forall_mem_cons.2 ⟨?_,List.forall_mem_cons.2 ⟨?_,List.forall_mem_cons.2 ⟨?_,List.forall_mem_nil _⟩⟩⟩⟩⟩⟩
 all_goals
  intro δ hf
 all_goals
  obtain ⟨b1,b4⟩:=uPar_b hin
 all_goals
  have a0:=ha.1 0 (by omega)
  have a1:=ha.1 1 (by omega)
  have a2:=ha.1 2 (by omega)
  have a3:=ha.1 3 (by omega)
  have a4:=ha.1 4 (by omega)
  have a5:=ha.1 5 (by omega)
  have a6:=ha.1 6 (by omega)
  have a7:=ha.1 7 (by omega)
 all_goals
  simp only [FT,TP,SB.tp,SI.tv,sta,IB.eval,and_true,true_and,ObsT,Ob.Tv,rowT,kix,In.tiv,↓tbvT,In.tbv,get_cons,get_nil,reduceIte,Nat.reduceEqDiff,Int.reduceToNat,Int.reduceAdd,Int.reduceSub,Int.reduceLE,Int.reduceLT,Int.reduceEq,ne_eq,Bool.false_eq_true,not_true_eq_false,not_false_eq_true,true_iff,false_iff,iff_true,iff_false,false_implies,implies_true,decT,decide_true,decide_false,Bool.decide_eq_true,ap2,pb2,FI_3,FI_8,FI_9,FI_3g,FI_8m,Int.toNat_natCast,Int.toNat_zero,FI_40,FI_44,FI_45,FB_44,uPar_inv,uPar_mu,uPar,o1,othT,kU,ints,i64s,lmap,i64b,dU,cmpV,mU,bU,fU,leF,ltF,tU,nu,mS,ltAt,mS',tM,tC,tP,pP,pC,a0,a1,a2,a3,a4,a5,a6,a7] at hf hi ⊢
 all_goals
  obtain ⟨g0,g1,g2,g3,g4,g5,g6,g7⟩:=hi
 all_goals
  (repeat' (with_reducible apply And.intro))<;>first
  | omega
  | assumption
  | (unfold inM;omega)
  | (rw [sDn_go (by omega) (by omega) (by omega) (by omega) (by omega) (by omega) (by first | exact hf.1 | exact hf.2.1 | exact hf.2.2.1 | exact hf.2.2.2.1 | exact hf.2.2.2.2.1 | exact hf.2.2.2.2.2.1 | exact hf.2.2.2.2.2.2.1 | exact hf.2.2.2.2.2.2.2.1 | exact hf.2.2.2.2.2.2.2.2.1 | exact hf.2.2.2.2.2.2.2.2.2.1 | exact hf.2.2.2.2.2.2.2.2.2.2.1 | exact hf.2.2.2.2.2.2.2.2.2.2.2.1 | exact hf.2.2.2.2.2.2.2.2.2.2.2.2.1 | exact hf.2.2.2.2.2.2.2.2.2.2.2.2.2.1)] at g7;exact g7)
  | (rw [sDn_no (by omega) (by omega) (by omega) (by omega) (by first | exact hf.1 | exact hf.2.1 | exact hf.2.2.1 | exact hf.2.2.2.1 | exact hf.2.2.2.2.1 | exact hf.2.2.2.2.2.1 | exact hf.2.2.2.2.2.2.1 | exact hf.2.2.2.2.2.2.2.1 | exact hf.2.2.2.2.2.2.2.2.1 | exact hf.2.2.2.2.2.2.2.2.2.1 | exact hf.2.2.2.2.2.2.2.2.2.2.1 | exact hf.2.2.2.2.2.2.2.2.2.2.2.1 | exact hf.2.2.2.2.2.2.2.2.2.2.2.2.1 | exact hf.2.2.2.2.2.2.2.2.2.2.2.2.2.1)] at g7;rw [swp12 (by omega) (by omega) (by omega) (by omega)];exact parP_go g3 g0 (by omega) g4 g7.symm (by omega) (by omega))
  | (rw [sDn_past (by omega) (by omega) (by omega)] at g7;unfold parU;rw [parP_end g3 g0 (by omega) g4 g7.symm (by omega) (by omega)];first | done | rfl | omega | (exact Bool.false_ne_true) | (rw [← swp12 (by omega) (by omega) (by omega) (by omega)];exact rows6 rfl))
theorem uPar_o3:uPar_ob 3 uPar_L3:=by
 intro kv iv0 bv0 hin hF iv bv ha hi
 unfold uPar_L3
 refine List.forall_mem_cons.2 ⟨?_,List.forall_mem_nil _⟩
 all_goals
  intro δ hf
 all_goals
  obtain ⟨b1,b4⟩:=uPar_b hin
 all_goals
  have a0:=ha.1 0 (by omega)
  have a1:=ha.1 1 (by omega)
  have a2:=ha.1 2 (by omega)
  have a3:=ha.1 3 (by omega)
  have a4:=ha.1 4 (by omega)
  have a5:=ha.1 5 (by omega)
  have a6:=ha.1 6 (by omega)
  have a7:=ha.1 7 (by omega)
 all_goals
  simp only [FT,TP,SB.tp,SI.tv,sta,IB.eval,and_true,true_and,ObsT,Ob.Tv,rowT,kix,In.tiv,↓tbvT,In.tbv,get_cons,get_nil,reduceIte,Nat.reduceEqDiff,Int.reduceToNat,Int.reduceAdd,Int.reduceSub,Int.reduceLE,Int.reduceLT,Int.reduceEq,ne_eq,Bool.false_eq_true,not_true_eq_false,not_false_eq_true,true_iff,false_iff,iff_true,iff_false,false_implies,implies_true,decT,decide_true,decide_false,Bool.decide_eq_true,ap2,pb2,FI_3,FI_8,FI_9,FI_3g,FI_8m,Int.toNat_natCast,Int.toNat_zero,FI_40,FI_44,FI_45,FB_44,uPar_inv,uPar_mu,uPar,o1,othT,kU,ints,i64s,lmap,i64b,dU,cmpV,mU,bU,fU,leF,ltF,tU,nu,mS,ltAt,mS',tM,tC,tP,pP,pC,a0,a1,a2,a3,a4,a5,a6,a7] at hf hi ⊢
 all_goals
  obtain ⟨g0,g1,g2,g3,g4,g5⟩:=hi
 all_goals
  (repeat' (with_reducible apply And.intro))<;>first
  | omega
  | assumption
  | (unfold inM;omega)
theorem uPar_o4:uPar_ob 4 uPar_L4:=by
 intro kv iv0 bv0 hin hF iv bv ha hi
 unfold uPar_L4
 refine List.forall_mem_cons.2 ⟨?_,List.forall_mem_cons.2 ⟨?_,List.forall_mem_cons.2 ⟨?_,List.forall_mem_cons.2 ⟨?_,List.forall_mem_nil _⟩⟩⟩⟩
 all_goals
  intro δ hf
 all_goals
  obtain ⟨b1,b4⟩:=uPar_b hin
 all_goals
  have a0:=ha.1 0 (by omega)
  have a1:=ha.1 1 (by omega)
  have a2:=ha.1 2 (by omega)
  have a3:=ha.1 3 (by omega)
  have a4:=ha.1 4 (by omega)
  have a5:=ha.1 5 (by omega)
  have a6:=ha.1 6 (by omega)
  have a7:=ha.1 7 (by omega)
 all_goals
  simp only [FT,TP,SB.tp,SI.tv,sta,IB.eval,and_true,true_and,ObsT,Ob.Tv,rowT,kix,In.tiv,↓tbvT,In.tbv,get_cons,get_nil,reduceIte,Nat.reduceEqDiff,Int.reduceToNat,Int.reduceAdd,Int.reduceSub,Int.reduceLE,Int.reduceLT,Int.reduceEq,ne_eq,Bool.false_eq_true,not_true_eq_false,not_false_eq_true,true_iff,false_iff,iff_true,iff_false,false_implies,implies_true,decT,decide_true,decide_false,Bool.decide_eq_true,ap2,pb2,FI_3,FI_8,FI_9,FI_3g,FI_8m,Int.toNat_natCast,Int.toNat_zero,FI_40,FI_44,FI_45,FB_44,uPar_inv,uPar_mu,uPar,o1,othT,kU,ints,i64s,lmap,i64b,dU,cmpV,mU,bU,fU,leF,ltF,tU,nu,mS,ltAt,mS',tM,tC,tP,pP,pC,a0,a1,a2,a3,a4,a5,a6,a7] at hf hi ⊢
 all_goals
  obtain ⟨g0,g1,g2,g3,g4,g5,g6,g7,g8⟩:=hi
 all_goals
  (repeat' (with_reducible apply And.intro))<;>first
  | omega
  | assumption
  | (unfold inM;omega)
  | (rw [sUp_go (by omega) (by omega) (by omega) (by omega) (by omega) (by first | exact hf.1 | exact hf.2.1 | exact hf.2.2.1 | exact hf.2.2.2.1 | exact hf.2.2.2.2.1 | exact hf.2.2.2.2.2.1 | exact hf.2.2.2.2.2.2.1 | exact hf.2.2.2.2.2.2.2.1 | exact hf.2.2.2.2.2.2.2.2.1 | exact hf.2.2.2.2.2.2.2.2.2.1 | exact hf.2.2.2.2.2.2.2.2.2.2.1 | exact hf.2.2.2.2.2.2.2.2.2.2.2.1 | exact hf.2.2.2.2.2.2.2.2.2.2.2.2.1 | exact hf.2.2.2.2.2.2.2.2.2.2.2.2.2.1)] at g8;exact g8)
  | (rw [sUp_no (by omega) (by omega) (by omega) (by omega) (by first | exact hf.1 | exact hf.2.1 | exact hf.2.2.1 | exact hf.2.2.2.1 | exact hf.2.2.2.2.1 | exact hf.2.2.2.2.2.1 | exact hf.2.2.2.2.2.2.1 | exact hf.2.2.2.2.2.2.2.1 | exact hf.2.2.2.2.2.2.2.2.1 | exact hf.2.2.2.2.2.2.2.2.2.1 | exact hf.2.2.2.2.2.2.2.2.2.2.1 | exact hf.2.2.2.2.2.2.2.2.2.2.2.1 | exact hf.2.2.2.2.2.2.2.2.2.2.2.2.1 | exact hf.2.2.2.2.2.2.2.2.2.2.2.2.2.1)] at g8;exact g8.symm)
  | (rw [sUp_past (by omega) (by omega) (by omega)] at g8;exact g8.symm)
theorem uPar_o5:uPar_ob 5 uPar_L5:=by
 intro kv iv0 bv0 hin hF iv bv ha hi
 unfold uPar_L5
 refine List.forall_mem_cons.2 ⟨?_,List.forall_mem_cons.2 ⟨?_,List.forall_mem_cons.2 ⟨?_,List.forall_mem_cons.2 ⟨?_,List.forall_mem_cons.2 ⟨?_,List.forall_mem_cons.2 ⟨?_,List.forall_mem_nil _⟩⟩⟩⟩⟩⟩
 all_goals
  intro δ hf
 all_goals
  obtain ⟨b1,b4⟩:=uPar_b hin
 all_goals
  have a0:=ha.1 0 (by omega)
  have a1:=ha.1 1 (by omega)
  have a2:=ha.1 2 (by omega)
  have a3:=ha.1 3 (by omega)
  have a4:=ha.1 4 (by omega)
  have a5:=ha.1 5 (by omega)
  have a6:=ha.1 6 (by omega)
  have a7:=ha.1 7 (by omega)
 all_goals
  simp only [FT,TP,SB.tp,SI.tv,sta,IB.eval,and_true,true_and,ObsT,Ob.Tv,rowT,kix,In.tiv,↓tbvT,In.tbv,get_cons,get_nil,reduceIte,Nat.reduceEqDiff,Int.reduceToNat,Int.reduceAdd,Int.reduceSub,Int.reduceLE,Int.reduceLT,Int.reduceEq,ne_eq,Bool.false_eq_true,not_true_eq_false,not_false_eq_true,true_iff,false_iff,iff_true,iff_false,false_implies,implies_true,decT,decide_true,decide_false,Bool.decide_eq_true,ap2,pb2,FI_3,FI_8,FI_9,FI_3g,FI_8m,Int.toNat_natCast,Int.toNat_zero,FI_40,FI_44,FI_45,FB_44,uPar_inv,uPar_mu,uPar,o1,othT,kU,ints,i64s,lmap,i64b,dU,cmpV,mU,bU,fU,leF,ltF,tU,nu,mS,ltAt,mS',tM,tC,tP,pP,pC,a0,a1,a2,a3,a4,a5,a6,a7] at hf hi ⊢
 all_goals
  obtain ⟨g0,g1,g2,g3,g4,g5,g6,g7,g8,g9,g10,g11⟩:=hi
 all_goals
  (repeat' (with_reducible apply And.intro))<;>first
  | omega
  | assumption
  | (unfold inM;omega)
  | (rw [sDn_go (by omega) (by omega) (by omega) (by omega) (by omega) (by omega) (by first | exact hf.1 | exact hf.2.1 | exact hf.2.2.1 | exact hf.2.2.2.1 | exact hf.2.2.2.2.1 | exact hf.2.2.2.2.2.1 | exact hf.2.2.2.2.2.2.1 | exact hf.2.2.2.2.2.2.2.1 | exact hf.2.2.2.2.2.2.2.2.1 | exact hf.2.2.2.2.2.2.2.2.2.1 | exact hf.2.2.2.2.2.2.2.2.2.2.1 | exact hf.2.2.2.2.2.2.2.2.2.2.2.1 | exact hf.2.2.2.2.2.2.2.2.2.2.2.2.1 | exact hf.2.2.2.2.2.2.2.2.2.2.2.2.2.1)] at g11;exact g11)
  | (rw [sDn_no (by omega) (by omega) (by omega) (by omega) (by first | exact hf.1 | exact hf.2.1 | exact hf.2.2.1 | exact hf.2.2.2.1 | exact hf.2.2.2.2.1 | exact hf.2.2.2.2.2.1 | exact hf.2.2.2.2.2.2.1 | exact hf.2.2.2.2.2.2.2.1 | exact hf.2.2.2.2.2.2.2.2.1 | exact hf.2.2.2.2.2.2.2.2.2.1 | exact hf.2.2.2.2.2.2.2.2.2.2.1 | exact hf.2.2.2.2.2.2.2.2.2.2.2.1 | exact hf.2.2.2.2.2.2.2.2.2.2.2.2.1 | exact hf.2.2.2.2.2.2.2.2.2.2.2.2.2.1)] at g11;rw [swp12 (by omega) (by omega) (by omega) (by omega)];exact parT_go g5 g8 g11.symm (by omega) (by omega) (by omega) (by omega))
  | (rw [sDn_past (by omega) (by omega) (by omega)] at g11;unfold parU;rw [parT_end g5 g8 g11.symm (by omega) (by omega)];first | done | rfl | omega | (exact Bool.false_ne_true) | (rw [← swp12 (by omega) (by omega) (by omega) (by omega)];exact rows6 rfl))
theorem uPar_c:LsCM 1 ((tmM uPar Try.f164 (Try.f164.body.getD .skip))::[uPar_T1,uPar_T2,uPar_T3,uPar_T4,uPar_T5]) uPar.os [uPar_L0,uPar_L1,uPar_L2,uPar_L3,uPar_L4,uPar_L5]:=by
 unfold uPar_L0 uPar_L1 uPar_L2 uPar_L3 uPar_L4 uPar_L5
 exact ⟨List.forall_mem_cons.2 ⟨⟨⟨⟨_,rfl,rfl⟩,by kernel_rfl⟩,by kernel_rfl⟩,List.forall_mem_cons.2 ⟨⟨trivial,rfl⟩,List.forall_mem_nil _⟩⟩,List.forall_mem_cons.2 ⟨⟨⟨⟨_,rfl,rfl⟩,by kernel_rfl⟩,by kernel_rfl⟩,List.forall_mem_cons.2 ⟨⟨⟨⟨_,rfl,rfl⟩,by kernel_rfl⟩,by kernel_rfl⟩,List.forall_mem_cons.2 ⟨⟨⟨⟨_,rfl,rfl⟩,by kernel_rfl⟩,by kernel_rfl⟩,List.forall_mem_nil _⟩⟩⟩,List.forall_mem_cons.2 ⟨⟨⟨⟨_,rfl,rfl⟩,by kernel_rfl⟩,by kernel_rfl⟩,List.forall_mem_cons.2 ⟨⟨⟨⟨_,rfl,rfl⟩,by kernel_rfl⟩,by kernel_rfl⟩,List.forall_mem_cons.2 ⟨⟨trivial,rfl⟩,List.forall_mem_cons.2 ⟨⟨⟨⟨_,rfl,rfl⟩,by kernel_rfl⟩,by kernel_rfl⟩,List.forall_mem_cons.2 ⟨⟨trivial,rfl⟩,List.forall_mem_cons.2 ⟨⟨trivial,rfl⟩,List.forall_mem_nil _⟩⟩⟩⟩⟩⟩,List.forall_mem_cons.2 ⟨⟨⟨⟨_,rfl,rfl⟩,by kernel_rfl⟩,by kernel_rfl⟩,List.forall_mem_nil _⟩,List.forall_mem_cons.2 ⟨⟨⟨⟨_,rfl,rfl⟩,by kernel_rfl⟩,by kernel_rfl⟩,List.forall_mem_cons.2 ⟨⟨⟨⟨_,rfl,rfl⟩,by kernel_rfl⟩,by kernel_rfl⟩,List.forall_mem_cons.2 ⟨⟨trivial,rfl⟩,List.forall_mem_cons.2 ⟨⟨⟨⟨_,rfl,rfl⟩,by kernel_rfl⟩,by kernel_rfl⟩,List.forall_mem_nil _⟩⟩⟩⟩,List.forall_mem_cons.2 ⟨⟨⟨⟨_,rfl,rfl⟩,by kernel_rfl⟩,by kernel_rfl⟩,List.forall_mem_cons.2 ⟨⟨⟨⟨_,rfl,rfl⟩,by kernel_rfl⟩,by kernel_rfl⟩,List.forall_mem_cons.2 ⟨⟨trivial,rfl⟩,List.forall_mem_cons.2 ⟨⟨⟨⟨_,rfl,rfl⟩,by kernel_rfl⟩,by kernel_rfl⟩,List.forall_mem_cons.2 ⟨⟨trivial,rfl⟩,List.forall_mem_cons.2 ⟨⟨trivial,rfl⟩,List.forall_mem_nil _⟩⟩⟩⟩⟩⟩,trivial⟩
theorem uPar_ok:uPar.Ok Try.prog FI FB:=
 Com.of_plain (body:=Try.f164.body.getD .skip) pok fiok (EntsFor.cons uCmp_ok EntsFor.nil) uPar Try.func164 (by kernel_rfl) 8 [uPar_T1,uPar_T2,uPar_T3,uPar_T4,uPar_T5] (by kernel_rfl) [uPar_L0,uPar_L1,uPar_L2,uPar_L3,uPar_L4,uPar_L5] ⟨uPar_h0,uPar_h1,uPar_h2,uPar_h3,uPar_h4,uPar_h5,trivial⟩ uPar_c
  uPar_inv uPar_mu (fun _ _ _=>trivial) fun kv iv0 bv0 hin hF k l iv bv hk ha hi=>match k,hk,hi with
  | 0,hk,hi=>by
    cases hk
    exact uPar_o0 kv iv0 bv0 hin hF iv bv ha hi
  | 1,hk,hi=>by
    cases hk
    exact uPar_o1 kv iv0 bv0 hin hF iv bv ha hi
  | 2,hk,hi=>by
    cases hk
    exact uPar_o2 kv iv0 bv0 hin hF iv bv ha hi
  | 3,hk,hi=>by
    cases hk
    exact uPar_o3 kv iv0 bv0 hin hF iv bv ha hi
  | 4,hk,hi=>by
    cases hk
    exact uPar_o4 kv iv0 bv0 hin hF iv bv ha hi
  | 5,hk,hi=>by
    cases hk
    exact uPar_o5 kv iv0 bv0 hin hF iv bv ha hi
  | k+6,hk,_=>by simp at hk
def uPeq_T1:Tm:=⟨⟨163,90,[(12,(.it .i64 (.v 40))),(11,(.it .i64 (.v 41))),(0,(.sl (.n 0) (.c 0) (.v 1) (.v 2))),(1,(.it .i64 (.v 5))),(4,(.fn 117 [(.it .i64 (.v 4))] []))],[(.code (atC Try.f163 [1,1,1,0,0,0])),(.inLoop (atC Try.f163 [1,1,1,0,0,0])),(.inBlock 0),(.code (atC Try.f163 [1,1,1,1]))],[],.none⟩,[],
    ⟨[(0,(.arr [(.nt .i64),(.nt .i64),(.nt .i64),(.nt .i64),(.nt .i64),(.nt .i64)] (.v 28) (.v 1) 158 (.v 3)))],1,0,0,[((.lt (.v 5) (.v 1)),.true),((.le (.c 0) (.v 5)),.true),((.le (.v 5) (.c 1000)),.true),((.le (.c 0) (.v 6)),.true),((.le (.v 6) (.c 1000)),.true),((.le (.c 0) (.v 7)),.true),((.le (.v 7) (.c 1000)),.true),((.le (.v 5) (.v 7)),.true),((.lt (.v 7) (.v 6)),.true),((.le (.v 6) (.v 1)),.true),((.le (.v 1) (.v 2)),.true),((.le (.v 1) (.v 3)),.true)],[0],[(1,(1,1000)),(5,(0,999)),(6,(1,1000)),(7,(0,999)),(3,(0,(-1))),(4,((-9223372036854775808),9223372036854775807)),(41,(0,1001)),(40,((-1),1000))]⟩,[40,41,28]⟩
def uPeq_T2:Tm:=⟨⟨163,90,[(12,(.it .i64 (.v 40))),(11,(.it .i64 (.v 45))),(0,(.sl (.n 0) (.c 0) (.v 1) (.v 2))),(1,(.it .i64 (.v 5))),(4,(.fn 117 [(.it .i64 (.v 4))] []))],[(.code (atC Try.f163 [1,1,1,0,0,0,0,0,0,0])),(.inLoop (atC Try.f163 [1,1,1,0,0,0,0,0,0,0])),(.inBlock 2),(.code (atC Try.f163 [1,1,1,0,0,0,0,1])),(.inBlock 1),(.inLoop (atC Try.f163 [1,1,1,0,0,0])),(.inBlock 0),(.code (atC Try.f163 [1,1,1,1]))],[],.none⟩,[],
    ⟨[(0,(.arr [(.nt .i64),(.nt .i64),(.nt .i64),(.nt .i64),(.nt .i64),(.nt .i64)] (.v 28) (.v 1) 158 (.v 3)))],1,0,0,[((.lt (.v 5) (.v 1)),.true),((.le (.c 0) (.v 5)),.true),((.le (.v 5) (.c 1000)),.true),((.le (.c 0) (.v 6)),.true),((.le (.v 6) (.c 1000)),.true),((.le (.c 0) (.v 7)),.true),((.le (.v 7) (.c 1000)),.true),((.le (.v 5) (.v 7)),.true),((.lt (.v 7) (.v 6)),.true),((.le (.v 6) (.v 1)),.true),((.le (.v 1) (.v 2)),.true),((.le (.v 1) (.v 3)),.true)],[0],[(1,(1,1000)),(5,(0,999)),(6,(1,1000)),(7,(0,999)),(3,(0,(-1))),(4,((-9223372036854775808),9223372036854775807)),(45,(0,1001)),(40,((-1),1000))]⟩,[45]⟩
def uPeq_T3:Tm:=⟨⟨163,90,[(12,(.it .i64 (.v 50))),(11,(.it .i64 (.v 45))),(0,(.sl (.n 0) (.c 0) (.v 1) (.v 2))),(1,(.it .i64 (.v 5))),(4,(.fn 117 [(.it .i64 (.v 4))] []))],[(.code (atC Try.f163 [1,1,1,0,0,0,0,1,0,0,0])),(.inLoop (atC Try.f163 [1,1,1,0,0,0,0,1,0,0,0])),(.inBlock 4),(.code (atC Try.f163 [1,1,1,0,0,0,0,1,1])),(.inBlock 1),(.inLoop (atC Try.f163 [1,1,1,0,0,0])),(.inBlock 0),(.code (atC Try.f163 [1,1,1,1]))],[],.none⟩,[],
    ⟨[(0,(.arr [(.nt .i64),(.nt .i64),(.nt .i64),(.nt .i64),(.nt .i64),(.nt .i64)] (.v 28) (.v 1) 158 (.v 3)))],1,0,0,[((.lt (.v 5) (.v 1)),.true),((.le (.c 0) (.v 5)),.true),((.le (.v 5) (.c 1000)),.true),((.le (.c 0) (.v 6)),.true),((.le (.v 6) (.c 1000)),.true),((.le (.c 0) (.v 7)),.true),((.le (.v 7) (.c 1000)),.true),((.le (.v 5) (.v 7)),.true),((.lt (.v 7) (.v 6)),.true),((.le (.v 6) (.v 1)),.true),((.le (.v 1) (.v 2)),.true),((.le (.v 1) (.v 3)),.true)],[0],[(1,(1,1000)),(5,(0,999)),(6,(1,1000)),(7,(0,999)),(3,(0,(-1))),(4,((-9223372036854775808),9223372036854775807)),(45,(0,1001)),(50,((-1),1000))]⟩,[50]⟩
def uPeq_L0:List Lf:=
 let f0_:List (SB×Bool):=[((.le (.c 0) (.v 5)),.true),((.le (.v 5) (.c 1000)),.true),((.le (.c 0) (.v 6)),.true),((.le (.v 6) (.c 1000)),.true),((.le (.c 0) (.v 7)),.true),((.le (.v 7) (.c 1000)),.true),((.le (.v 5) (.v 7)),.true),((.lt (.v 7) (.v 6)),.true),((.le (.v 6) (.v 1)),.true),((.le (.v 1) (.v 2)),.true),((.le (.v 1) (.v 3)),.true)]
 [(let i_:In:=⟨⟨[(28,(.ap 8 (.ap 8 (.ap 8 (.ap 8 (.ap 8 (.ap 8 (.ap 8 (.ap 8 (.ap 8 (.ap 8 (.ap 8 (.ap 8 (.v 0) (.v 5) (.c 0) (.ap 3 (.v 0) (.v 7) (.c 0) (.c 0) (.c 0) (.c 0)) (.c 0) (.c 0)) (.v 5) (.c 1) (.ap 3 (.v 0) (.v 7) (.c 1) (.c 0) (.c 0) (.c 0)) (.c 0) (.c 0)) (.v 5) (.c 2) (.ap 3 (.v 0) (.v 7) (.c 2) (.c 0) (.c 0) (.c 0)) (.c 0) (.c 0)) (.v 5) (.c 3) (.ap 3 (.v 0) (.v 7) (.c 3) (.c 0) (.c 0) (.c 0)) (.c 0) (.c 0)) (.v 5) (.c 4) (.ap 3 (.v 0) (.v 7) (.c 4) (.c 0) (.c 0) (.c 0)) (.c 0) (.c 0)) (.v 5) (.c 5) (.ap 3 (.v 0) (.v 7) (.c 5) (.c 0) (.c 0) (.c 0)) (.c 0) (.c 0)) (.v 7) (.c 0) (.ap 3 (.v 0) (.v 5) (.c 0) (.c 0) (.c 0) (.c 0)) (.c 0) (.c 0)) (.v 7) (.c 1) (.ap 3 (.v 0) (.v 5) (.c 1) (.c 0) (.c 0) (.c 0)) (.c 0) (.c 0)) (.v 7) (.c 2) (.ap 3 (.v 0) (.v 5) (.c 2) (.c 0) (.c 0) (.c 0)) (.c 0) (.c 0)) (.v 7) (.c 3) (.ap 3 (.v 0) (.v 5) (.c 3) (.c 0) (.c 0) (.c 0)) (.c 0) (.c 0)) (.v 7) (.c 4) (.ap 3 (.v 0) (.v 5) (.c 4) (.c 0) (.c 0) (.c 0)) (.c 0) (.c 0)) (.v 7) (.c 5) (.ap 3 (.v 0) (.v 5) (.c 5) (.c 0) (.c 0) (.c 0)) (.c 0) (.c 0))),(41,(.op .add (.v 5) (.c 1))),(40,(.op .add (.v 6) (.c (-1))))],[]⟩,[(0,0)],[],[]⟩;.cut (((.lt (.v 5) (.v 1)),.true)::f0_) 1 i_ [] (shT uPeq_T1 i_)),
  (.bad (((.lt (.v 5) (.v 1)),.false)::f0_))]
def uPeq_L1:List Lf:=
 [(.cut ([((.lt (.v 5) (.v 1)),.true),((.le (.c 0) (.v 5)),.true),((.le (.v 5) (.c 1000)),.true),((.le (.c 0) (.v 6)),.true),((.le (.v 6) (.c 1000)),.true),((.le (.c 0) (.v 7)),.true),((.le (.v 7) (.c 1000)),.true),((.le (.v 5) (.v 7)),.true),((.lt (.v 7) (.v 6)),.true),((.le (.v 6) (.v 1)),.true),((.le (.v 1) (.v 2)),.true),((.le (.v 1) (.v 3)),.true)]) 2 ⟨⟨[(45,(.v 41))],[]⟩,[(0,0)],[],[]⟩ [] (shT uPeq_T2 ⟨⟨[(45,(.v 41))],[]⟩,[(0,0)],[],[]⟩))]
def uPeq_L2:List Lf:=
 let x0_:SI:=(.ap 40 (.ap 3 (.v 28) (.v 5) (.c 3) (.c 0) (.c 0) (.c 0)) (.ap 3 (.v 28) (.v 5) (.c 5) (.c 0) (.c 0) (.c 0)) (.op .sub (.ap 3 (.v 28) (.v 5) (.c 4) (.c 0) (.c 0) (.c 0)) (.v 4)) (.ap 3 (.v 28) (.v 45) (.c 3) (.c 0) (.c 0) (.c 0)) (.ap 3 (.v 28) (.v 45) (.c 5) (.c 0) (.c 0) (.c 0)) (.op .sub (.ap 3 (.v 28) (.v 45) (.c 4) (.c 0) (.c 0) (.c 0)) (.v 4)))
 let f0_:List (SB×Bool):=[((.lt (.v 5) (.v 1)),.true),((.le (.c 0) (.v 5)),.true),((.le (.v 5) (.c 1000)),.true),((.le (.c 0) (.v 6)),.true),((.le (.v 6) (.c 1000)),.true),((.le (.c 0) (.v 7)),.true),((.le (.v 7) (.c 1000)),.true),((.le (.v 5) (.v 7)),.true),((.lt (.v 7) (.v 6)),.true),((.le (.v 6) (.v 1)),.true),((.le (.v 1) (.v 2)),.true),((.le (.v 1) (.v 3)),.true)]
 let f1_:List (SB×Bool):=((.le (.v 45) (.v 40)),.true)::f0_
 let f2_:List (SB×Bool):=((.lt (.v 45) (.v 1)),.true)::f1_
 [(.cut (((.lt x0_ (.c 0)),.true)::f2_) 3 ⟨⟨[(50,(.v 40))],[]⟩,[(0,0)],[],[]⟩ [] (shT uPeq_T3 ⟨⟨[(50,(.v 40))],[]⟩,[(0,0)],[],[]⟩)),
  (.cut (((.lt x0_ (.c 0)),.false)::f2_) 2 ⟨⟨[(45,(.op .add (.v 45) (.c 1)))],[]⟩,[(0,0)],[],[]⟩ [] (shT uPeq_T2 ⟨⟨[(45,(.op .add (.v 45) (.c 1)))],[]⟩,[(0,0)],[],[]⟩)),
  (.bad (((.lt (.v 45) (.v 1)),.false)::f1_)),
  (.cut (((.le (.v 45) (.v 40)),.false)::f0_) 3 ⟨⟨[(50,(.v 40))],[]⟩,[(0,0)],[],[]⟩ [] (shT uPeq_T3 ⟨⟨[(50,(.v 40))],[]⟩,[(0,0)],[],[]⟩))]
def uPeq_L3:List Lf:=
 let x0_:SI:=(.ap 47 (.v 0) (.v 1) (.v 5) (.v 6) (.v 7) (.v 4))
 let x1_:SI:=(.ap 3 (.v 28) (.v 50) (.c 3) (.c 0) (.c 0) (.c 0))
 let x2_:SI:=(.ap 3 (.v 28) (.v 50) (.c 5) (.c 0) (.c 0) (.c 0))
 let x3_:SI:=(.ap 3 (.v 28) (.v 50) (.c 4) (.c 0) (.c 0) (.c 0))
 let x4_:SI:=(.ap 40 (.ap 3 (.v 28) (.v 5) (.c 3) (.c 0) (.c 0) (.c 0)) (.ap 3 (.v 28) (.v 5) (.c 5) (.c 0) (.c 0) (.c 0)) (.op .sub (.ap 3 (.v 28) (.v 5) (.c 4) (.c 0) (.c 0) (.c 0)) (.v 4)) x1_ x2_ (.op .sub x3_ (.v 4)))
 let f0_:List (SB×Bool):=[((.lt (.v 5) (.v 1)),.true),((.le (.c 0) (.v 5)),.true),((.le (.v 5) (.c 1000)),.true),((.le (.c 0) (.v 6)),.true),((.le (.v 6) (.c 1000)),.true),((.le (.c 0) (.v 7)),.true),((.le (.v 7) (.c 1000)),.true),((.le (.v 5) (.v 7)),.true),((.lt (.v 7) (.v 6)),.true),((.le (.v 6) (.v 1)),.true),((.le (.v 1) (.v 2)),.true),((.le (.v 1) (.v 3)),.true)]
 let f1_:List (SB×Bool):=((.le (.v 45) (.v 50)),.true)::f0_
 let f2_:List (SB×Bool):=((.lt (.v 50) (.v 1)),.true)::f1_
 [(let i_:In:=⟨⟨[(50,(.op .add (.v 50) (.c (-1))))],[]⟩,[(0,0)],[],[]⟩;.cut (((.lt x4_ (.c 0)),.true)::f2_) 3 i_ [] (shT uPeq_T3 i_)),
  (let i_:In:=⟨⟨[(28,(.ap 8 (.ap 8 (.ap 8 (.ap 8 (.ap 8 (.ap 8 (.ap 8 (.ap 8 (.ap 8 (.ap 8 (.ap 8 (.ap 8 (.v 28) (.v 45) (.c 0) (.ap 3 (.v 28) (.v 50) (.c 0) (.c 0) (.c 0) (.c 0)) (.c 0) (.c 0)) (.v 45) (.c 1) (.ap 3 (.v 28) (.v 50) (.c 1) (.c 0) (.c 0) (.c 0)) (.c 0) (.c 0)) (.v 45) (.c 2) (.ap 3 (.v 28) (.v 50) (.c 2) (.c 0) (.c 0) (.c 0)) (.c 0) (.c 0)) (.v 45) (.c 3) x1_ (.c 0) (.c 0)) (.v 45) (.c 4) x3_ (.c 0) (.c 0)) (.v 45) (.c 5) x2_ (.c 0) (.c 0)) (.v 50) (.c 0) (.ap 3 (.v 28) (.v 45) (.c 0) (.c 0) (.c 0) (.c 0)) (.c 0) (.c 0)) (.v 50) (.c 1) (.ap 3 (.v 28) (.v 45) (.c 1) (.c 0) (.c 0) (.c 0)) (.c 0) (.c 0)) (.v 50) (.c 2) (.ap 3 (.v 28) (.v 45) (.c 2) (.c 0) (.c 0) (.c 0)) (.c 0) (.c 0)) (.v 50) (.c 3) (.ap 3 (.v 28) (.v 45) (.c 3) (.c 0) (.c 0) (.c 0)) (.c 0) (.c 0)) (.v 50) (.c 4) (.ap 3 (.v 28) (.v 45) (.c 4) (.c 0) (.c 0) (.c 0)) (.c 0) (.c 0)) (.v 50) (.c 5) (.ap 3 (.v 28) (.v 45) (.c 5) (.c 0) (.c 0) (.c 0)) (.c 0) (.c 0))),(41,(.op .add (.v 45) (.c 1))),(40,(.op .add (.v 50) (.c (-1))))],[]⟩,[(0,0)],[],[]⟩;.cut (((.lt x4_ (.c 0)),.false)::f2_) 1 i_ [] (shT uPeq_T1 i_)),
  (.bad (((.lt (.v 50) (.v 1)),.false)::f1_)),
  (.fin (((.le (.v 45) (.v 50)),.false)::f0_) 0 ⟨⟨[],[]⟩,[(0,0)],[],[]⟩ [(.ei (.ap 47 (.v 0) (.v 1) (.v 5) (.v 6) (.v 7) (.v 4)) (.v 45)),(.ar [(.nt .i64),(.nt .i64),(.nt .i64),(.nt .i64),(.nt .i64),(.nt .i64)] (.ap 46 (.v 0) (.v 1) (.v 5) (.v 6) (.v 7) (.v 4)) (.v 28) (.v 1)),(.fa (.lt (.v 5) x0_) .true),(.fa (.le x0_ (.v 6)) .true),(.fa (.le x0_ (.c 1000)) .true)] [.none])]
def uPeq_run (T:Tm):=(ex (ccM Try.prog BF [58,84]) ((fun cc=>[uCmp.ent cc]) (ccM Try.prog BF [58,84])) (dw (ccM Try.prog BF [58,84]) ((fun cc=>[uCmp.ent cc]) (ccM Try.prog BF [58,84])) 1000 4) (stopX []) 4000 T.f T.fs T.H).lfsM 1 (ccM Try.prog BF [58,84]) ((tmM uPeq Try.f163 (Try.f163.body.getD .skip))::[uPeq_T1,uPeq_T2,uPeq_T3]) uPeq.os
theorem uPeq_h0:uPeq_run (tmM uPeq Try.f163 (Try.f163.body.getD .skip))=some uPeq_L0:=by kernel_rfl
theorem uPeq_h1:uPeq_run uPeq_T1=some uPeq_L1:=by kernel_rfl
theorem uPeq_h2:uPeq_run uPeq_T2=some uPeq_L2:=by kernel_rfl
theorem uPeq_h3:uPeq_run uPeq_T3=some uPeq_L3:=by kernel_rfl
def uPeq_inv:(Nat→Int)→(Nat→Bool)→Nat→(Nat→Int)→(Nat→Bool)→Prop:=fun iv0 _ k iv _=>match k with
 | 0=>True
 | 1=>0≤iv0 5∧iv0 5 < iv 41∧iv 41≤iv0 6∧iv0 5≤iv 40∧iv 40 < iv0 6∧Sort.partEqLoop (ltU (iv0 4)) (iv0 5).toNat (iv 41).toNat (iv 40).toNat (arrOf (iv 28) (iv0 1))=Sort.partitionEqual (ltU (iv0 4)) (arrOf (iv0 0) (iv0 1)) (iv0 5).toNat (iv0 6).toNat (iv0 7).toNat
 | 2=>0≤iv0 5∧iv0 5 < iv 41∧iv 41≤iv0 6∧iv0 5≤iv 40∧iv 40 < iv0 6∧Sort.partEqLoop (ltU (iv0 4)) (iv0 5).toNat (iv 41).toNat (iv 40).toNat (arrOf (iv 28) (iv0 1))=Sort.partitionEqual (ltU (iv0 4)) (arrOf (iv0 0) (iv0 1)) (iv0 5).toNat (iv0 6).toNat (iv0 7).toNat∧iv 41≤iv 45∧iv 45≤iv0 6∧Sort.scanUp (qUp (iv0 4) (arrOf (iv 28) (iv0 1)) (iv0 5).toNat) (arrOf (iv 28) (iv0 1)) (iv 40).toNat (iv 45).toNat=Sort.scanUp (qUp (iv0 4) (arrOf (iv 28) (iv0 1)) (iv0 5).toNat) (arrOf (iv 28) (iv0 1)) (iv 40).toNat (iv 41).toNat
 | _=>0≤iv0 5∧iv0 5 < iv 41∧iv 41≤iv0 6∧iv0 5≤iv 40∧iv 40 < iv0 6∧Sort.partEqLoop (ltU (iv0 4)) (iv0 5).toNat (iv 41).toNat (iv 40).toNat (arrOf (iv 28) (iv0 1))=Sort.partitionEqual (ltU (iv0 4)) (arrOf (iv0 0) (iv0 1)) (iv0 5).toNat (iv0 6).toNat (iv0 7).toNat∧iv 41≤iv 45∧iv 45≤iv0 6∧Sort.scanUp (qUp (iv0 4) (arrOf (iv 28) (iv0 1)) (iv0 5).toNat) (arrOf (iv 28) (iv0 1)) (iv 40).toNat (iv 41).toNat=(iv 45).toNat∧iv0 5≤iv 50∧iv 50≤iv 40∧Sort.scanDown (qDn (iv0 4) (arrOf (iv 28) (iv0 1)) (iv0 5).toNat) (arrOf (iv 28) (iv0 1)) (iv 45).toNat (iv 50).toNat=Sort.scanDown (qDn (iv0 4) (arrOf (iv 28) (iv0 1)) (iv0 5).toNat) (arrOf (iv 28) (iv0 1)) (iv 45).toNat (iv 40).toNat
def uPeq_mu:(Nat→Int)→(Nat→Bool)→Nat→(Nat→Int)→(Nat→Bool)→Nat:=fun iv0 _ k iv _=>match k with | 0=>2 ^ 90 | 1=>(iv 40+1).toNat * 2 ^ 70+2 ^ 60 | 2=>(iv 40+1).toNat * 2 ^ 70+2 ^ 50+(iv0 6 - iv 45).toNat | _=>(iv 40+1).toNat * 2 ^ 70+(iv 50+1).toNat
theorem uPeq_b {iv0:Nat→Int} (hin:InB uPeq.B iv0):(0≤iv0 1∧iv0 1≤1000)∧((-9223372036854775808)≤iv0 4∧iv0 4≤9223372036854775807):=by
 have b1:=hin 1 0 1000 (by simp [uPeq,kU,ints,i64s,lmap,i64b,dU,cmpV,mU,bU,fU,leF,ltF,tU,nu,mS,ltAt,mS',tM,tC,tP,pP,pC])
 simp only [Int.reduceLE,reduceIte,Int.reduceNeg] at b1
 have b4:=hin 4 (-9223372036854775808) 9223372036854775807 (by simp [uPeq,kU,ints,i64s,lmap,i64b,dU,cmpV,mU,bU,fU,leF,ltF,tU,nu,mS,ltAt,mS',tM,tC,tP,pP,pC])
 simp only [Int.reduceLE,reduceIte,Int.reduceNeg] at b4
 exact ⟨b1,b4⟩
def uPeq_ob (k:Nat) (l:List Lf):Prop:=∀ (kv:Kv) (iv0:Nat→Int) (bv0:Nat→Bool),InB uPeq.B iv0→FT (sta FI FB kv iv0 bv0) (dlt dyn0) uPeq.F→∀ (iv:Nat→Int) (bv:Nat→Bool),Agr 8 iv0 bv0 iv bv→uPeq_inv iv0 bv0 k iv bv→∀ lf∈l,LfT (sta FI FB kv) uPeq.os (uPeq_inv iv0 bv0) (uPeq_mu iv0 bv0) k iv bv lf
theorem uPeq_o0:uPeq_ob 0 uPeq_L0:=by
 intro kv iv0 bv0 hin hF iv bv ha hi
 unfold uPeq_L0
 refine List.forall_mem_cons.2 ⟨?_,List.forall_mem_cons.2 ⟨?_,List.forall_mem_nil _⟩⟩
 all_goals
  intro δ hf
 all_goals
  obtain ⟨b1,b4⟩:=uPeq_b hin
 all_goals
  have a0:=ha.1 0 (by omega)
  have a1:=ha.1 1 (by omega)
  have a2:=ha.1 2 (by omega)
  have a3:=ha.1 3 (by omega)
  have a4:=ha.1 4 (by omega)
  have a5:=ha.1 5 (by omega)
  have a6:=ha.1 6 (by omega)
  have a7:=ha.1 7 (by omega)
 all_goals
  simp only [FT,TP,SB.tp,SI.tv,sta,IB.eval,and_true,true_and,ObsT,Ob.Tv,rowT,kix,In.tiv,↓tbvT,In.tbv,get_cons,get_nil,reduceIte,Nat.reduceEqDiff,Int.reduceToNat,Int.reduceAdd,Int.reduceSub,Int.reduceLE,Int.reduceLT,Int.reduceEq,ne_eq,Bool.false_eq_true,not_true_eq_false,not_false_eq_true,true_iff,false_iff,iff_true,iff_false,false_implies,implies_true,decT,decide_true,decide_false,Bool.decide_eq_true,ap2,pb2,FI_3,FI_8,FI_9,FI_3g,FI_8m,Int.toNat_natCast,Int.toNat_zero,FI_40,FI_46,FI_47,uPeq_inv,uPeq_mu,uPeq,o1,othT,kU,ints,i64s,lmap,i64b,dU,cmpV,mU,bU,fU,leF,ltF,tU,nu,mS,ltAt,mS',tM,tC,tP,pP,pC,a0,a1,a2,a3,a4,a5,a6,a7] at hf hi ⊢
 all_goals
  (repeat' (with_reducible apply And.intro))<;>first
  | omega
  | assumption
  | (unfold inM;omega)
  | (rw [swp12 (by omega) (by omega) (by omega) (by omega)];exact peL_0 (by omega) (by omega))
theorem uPeq_o1:uPeq_ob 1 uPeq_L1:=by
 intro kv iv0 bv0 hin hF iv bv ha hi
 unfold uPeq_L1
 refine List.forall_mem_cons.2 ⟨?_,List.forall_mem_nil _⟩
 all_goals
  intro δ hf
 all_goals
  obtain ⟨b1,b4⟩:=uPeq_b hin
 all_goals
  have a0:=ha.1 0 (by omega)
  have a1:=ha.1 1 (by omega)
  have a2:=ha.1 2 (by omega)
  have a3:=ha.1 3 (by omega)
  have a4:=ha.1 4 (by omega)
  have a5:=ha.1 5 (by omega)
  have a6:=ha.1 6 (by omega)
  have a7:=ha.1 7 (by omega)
 all_goals
  simp only [FT,TP,SB.tp,SI.tv,sta,IB.eval,and_true,true_and,ObsT,Ob.Tv,rowT,kix,In.tiv,↓tbvT,In.tbv,get_cons,get_nil,reduceIte,Nat.reduceEqDiff,Int.reduceToNat,Int.reduceAdd,Int.reduceSub,Int.reduceLE,Int.reduceLT,Int.reduceEq,ne_eq,Bool.false_eq_true,not_true_eq_false,not_false_eq_true,true_iff,false_iff,iff_true,iff_false,false_implies,implies_true,decT,decide_true,decide_false,Bool.decide_eq_true,ap2,pb2,FI_3,FI_8,FI_9,FI_3g,FI_8m,Int.toNat_natCast,Int.toNat_zero,FI_40,FI_46,FI_47,uPeq_inv,uPeq_mu,uPeq,o1,othT,kU,ints,i64s,lmap,i64b,dU,cmpV,mU,bU,fU,leF,ltF,tU,nu,mS,ltAt,mS',tM,tC,tP,pP,pC,a0,a1,a2,a3,a4,a5,a6,a7] at hf hi ⊢
 all_goals
  obtain ⟨g0,g1,g2,g3,g4,g5⟩:=hi
 all_goals
  (repeat' (with_reducible apply And.intro))<;>first
  | omega
  | assumption
  | (unfold inM;omega)
theorem uPeq_o2:uPeq_ob 2 uPeq_L2:=by
 intro kv iv0 bv0 hin hF iv bv ha hi
 unfold uPeq_L2
 refine List.forall_mem_cons.2 ⟨?_,List.forall_mem_cons.2 ⟨?_,List.forall_mem_cons.2 ⟨?_,List.forall_mem_cons.2 ⟨?_,List.forall_mem_nil _⟩⟩⟩⟩
 all_goals
  intro δ hf
 all_goals
  obtain ⟨b1,b4⟩:=uPeq_b hin
 all_goals
  have a0:=ha.1 0 (by omega)
  have a1:=ha.1 1 (by omega)
  have a2:=ha.1 2 (by omega)
  have a3:=ha.1 3 (by omega)
  have a4:=ha.1 4 (by omega)
  have a5:=ha.1 5 (by omega)
  have a6:=ha.1 6 (by omega)
  have a7:=ha.1 7 (by omega)
 all_goals
  simp only [FT,TP,SB.tp,SI.tv,sta,IB.eval,and_true,true_and,ObsT,Ob.Tv,rowT,kix,In.tiv,↓tbvT,In.tbv,get_cons,get_nil,reduceIte,Nat.reduceEqDiff,Int.reduceToNat,Int.reduceAdd,Int.reduceSub,Int.reduceLE,Int.reduceLT,Int.reduceEq,ne_eq,Bool.false_eq_true,not_true_eq_false,not_false_eq_true,true_iff,false_iff,iff_true,iff_false,false_implies,implies_true,decT,decide_true,decide_false,Bool.decide_eq_true,ap2,pb2,FI_3,FI_8,FI_9,FI_3g,FI_8m,Int.toNat_natCast,Int.toNat_zero,FI_40,FI_46,FI_47,uPeq_inv,uPeq_mu,uPeq,o1,othT,kU,ints,i64s,lmap,i64b,dU,cmpV,mU,bU,fU,leF,ltF,tU,nu,mS,ltAt,mS',tM,tC,tP,pP,pC,a0,a1,a2,a3,a4,a5,a6,a7] at hf hi ⊢
 all_goals
  obtain ⟨g0,g1,g2,g3,g4,g5,g6,g7,g8⟩:=hi
 all_goals
  (repeat' (with_reducible apply And.intro))<;>first
  | omega
  | assumption
  | (unfold inM;omega)
  | (rw [qUp_go (by omega) (by omega) (by omega) (by omega) (by omega) (by first | exact hf.1 | exact hf.2.1 | exact hf.2.2.1 | exact hf.2.2.2.1 | exact hf.2.2.2.2.1 | exact hf.2.2.2.2.2.1 | exact hf.2.2.2.2.2.2.1 | exact hf.2.2.2.2.2.2.2.1 | exact hf.2.2.2.2.2.2.2.2.1 | exact hf.2.2.2.2.2.2.2.2.2.1 | exact hf.2.2.2.2.2.2.2.2.2.2.1 | exact hf.2.2.2.2.2.2.2.2.2.2.2.1 | exact hf.2.2.2.2.2.2.2.2.2.2.2.2.1 | exact hf.2.2.2.2.2.2.2.2.2.2.2.2.2.1)] at g8;exact g8)
  | (rw [qUp_no (by omega) (by omega) (by omega) (by omega) (by first | exact hf.1 | exact hf.2.1 | exact hf.2.2.1 | exact hf.2.2.2.1 | exact hf.2.2.2.2.1 | exact hf.2.2.2.2.2.1 | exact hf.2.2.2.2.2.2.1 | exact hf.2.2.2.2.2.2.2.1 | exact hf.2.2.2.2.2.2.2.2.1 | exact hf.2.2.2.2.2.2.2.2.2.1 | exact hf.2.2.2.2.2.2.2.2.2.2.1 | exact hf.2.2.2.2.2.2.2.2.2.2.2.1 | exact hf.2.2.2.2.2.2.2.2.2.2.2.2.1 | exact hf.2.2.2.2.2.2.2.2.2.2.2.2.2.1)] at g8;exact g8.symm)
  | (rw [sUp_past (by omega) (by omega) (by omega)] at g8;exact g8.symm)
theorem uPeq_o3:uPeq_ob 3 uPeq_L3:=by
 intro kv iv0 bv0 hin hF iv bv ha hi
 unfold uPeq_L3
 refine List.forall_mem_cons.2 ⟨?_,List.forall_mem_cons.2 ⟨?_,List.forall_mem_cons.2 ⟨?_,List.forall_mem_cons.2 ⟨?_,List.forall_mem_nil _⟩⟩⟩⟩
 all_goals
  intro δ hf
 all_goals
  obtain ⟨b1,b4⟩:=uPeq_b hin
 all_goals
  have a0:=ha.1 0 (by omega)
  have a1:=ha.1 1 (by omega)
  have a2:=ha.1 2 (by omega)
  have a3:=ha.1 3 (by omega)
  have a4:=ha.1 4 (by omega)
  have a5:=ha.1 5 (by omega)
  have a6:=ha.1 6 (by omega)
  have a7:=ha.1 7 (by omega)
 all_goals
  simp only [FT,TP,SB.tp,SI.tv,sta,IB.eval,and_true,true_and,ObsT,Ob.Tv,rowT,kix,In.tiv,↓tbvT,In.tbv,get_cons,get_nil,reduceIte,Nat.reduceEqDiff,Int.reduceToNat,Int.reduceAdd,Int.reduceSub,Int.reduceLE,Int.reduceLT,Int.reduceEq,ne_eq,Bool.false_eq_true,not_true_eq_false,not_false_eq_true,true_iff,false_iff,iff_true,iff_false,false_implies,implies_true,decT,decide_true,decide_false,Bool.decide_eq_true,ap2,pb2,FI_3,FI_8,FI_9,FI_3g,FI_8m,Int.toNat_natCast,Int.toNat_zero,FI_40,FI_46,FI_47,uPeq_inv,uPeq_mu,uPeq,o1,othT,kU,ints,i64s,lmap,i64b,dU,cmpV,mU,bU,fU,leF,ltF,tU,nu,mS,ltAt,mS',tM,tC,tP,pP,pC,a0,a1,a2,a3,a4,a5,a6,a7] at hf hi ⊢
 all_goals
  obtain ⟨g0,g1,g2,g3,g4,g5,g6,g7,g8,g9,g10,g11⟩:=hi
 all_goals
  (repeat' (with_reducible apply And.intro))<;>first
  | omega
  | assumption
  | (unfold inM;omega)
  | (rw [qDn_go (by omega) (by omega) (by omega) (by omega) (by omega) (by omega) (by first | exact hf.1 | exact hf.2.1 | exact hf.2.2.1 | exact hf.2.2.2.1 | exact hf.2.2.2.2.1 | exact hf.2.2.2.2.2.1 | exact hf.2.2.2.2.2.2.1 | exact hf.2.2.2.2.2.2.2.1 | exact hf.2.2.2.2.2.2.2.2.1 | exact hf.2.2.2.2.2.2.2.2.2.1 | exact hf.2.2.2.2.2.2.2.2.2.2.1 | exact hf.2.2.2.2.2.2.2.2.2.2.2.1 | exact hf.2.2.2.2.2.2.2.2.2.2.2.2.1 | exact hf.2.2.2.2.2.2.2.2.2.2.2.2.2.1)] at g11;exact g11)
  | (rw [qDn_no (by omega) (by omega) (by omega) (by omega) (by first | exact hf.1 | exact hf.2.1 | exact hf.2.2.1 | exact hf.2.2.2.1 | exact hf.2.2.2.2.1 | exact hf.2.2.2.2.2.1 | exact hf.2.2.2.2.2.2.1 | exact hf.2.2.2.2.2.2.2.1 | exact hf.2.2.2.2.2.2.2.2.1 | exact hf.2.2.2.2.2.2.2.2.2.1 | exact hf.2.2.2.2.2.2.2.2.2.2.1 | exact hf.2.2.2.2.2.2.2.2.2.2.2.1 | exact hf.2.2.2.2.2.2.2.2.2.2.2.2.1 | exact hf.2.2.2.2.2.2.2.2.2.2.2.2.2.1)] at g11;rw [swp12 (by omega) (by omega) (by omega) (by omega)];exact peL_go g5 g8 g11.symm (by omega) (by omega) (by omega) (by omega))
  | (rw [sDn_past (by omega) (by omega) (by omega)] at g11;unfold peqU;rw [peL_end g5 g8 g11.symm (by omega) (by omega)];first | done | rfl | omega | (exact rows6 rfl))
theorem uPeq_c:LsCM 1 ((tmM uPeq Try.f163 (Try.f163.body.getD .skip))::[uPeq_T1,uPeq_T2,uPeq_T3]) uPeq.os [uPeq_L0,uPeq_L1,uPeq_L2,uPeq_L3]:=by
 unfold uPeq_L0 uPeq_L1 uPeq_L2 uPeq_L3
 exact ⟨List.forall_mem_cons.2 ⟨⟨⟨⟨_,rfl,rfl⟩,by kernel_rfl⟩,by kernel_rfl⟩,List.forall_mem_cons.2 ⟨⟨trivial,rfl⟩,List.forall_mem_nil _⟩⟩,List.forall_mem_cons.2 ⟨⟨⟨⟨_,rfl,rfl⟩,by kernel_rfl⟩,by kernel_rfl⟩,List.forall_mem_nil _⟩,List.forall_mem_cons.2 ⟨⟨⟨⟨_,rfl,rfl⟩,by kernel_rfl⟩,by kernel_rfl⟩,List.forall_mem_cons.2 ⟨⟨⟨⟨_,rfl,rfl⟩,by kernel_rfl⟩,by kernel_rfl⟩,List.forall_mem_cons.2 ⟨⟨trivial,rfl⟩,List.forall_mem_cons.2 ⟨⟨⟨⟨_,rfl,rfl⟩,by kernel_rfl⟩,by kernel_rfl⟩,List.forall_mem_nil _⟩⟩⟩⟩,List.forall_mem_cons.2 ⟨⟨⟨⟨_,rfl,rfl⟩,by kernel_rfl⟩,by kernel_rfl⟩,List.forall_mem_cons.2 ⟨⟨⟨⟨_,rfl,rfl⟩,by kernel_rfl⟩,by kernel_rfl⟩,List.forall_mem_cons.2 ⟨⟨trivial,rfl⟩,List.forall_mem_cons.2 ⟨⟨⟨⟨_,rfl,rfl⟩,by kernel_rfl⟩,by kernel_rfl⟩,List.forall_mem_nil _⟩⟩⟩⟩,trivial⟩
theorem uPeq_ok:uPeq.Ok Try.prog FI FB:=
 Com.of_plain (body:=Try.f163.body.getD .skip) pok fiok (EntsFor.cons uCmp_ok EntsFor.nil) uPeq Try.func163 (by kernel_rfl) 8 [uPeq_T1,uPeq_T2,uPeq_T3] (by kernel_rfl) [uPeq_L0,uPeq_L1,uPeq_L2,uPeq_L3] ⟨uPeq_h0,uPeq_h1,uPeq_h2,uPeq_h3,trivial⟩ uPeq_c
  uPeq_inv uPeq_mu (fun _ _ _=>trivial) fun kv iv0 bv0 hin hF k l iv bv hk ha hi=>match k,hk,hi with
  | 0,hk,hi=>by
    cases hk
    exact uPeq_o0 kv iv0 bv0 hin hF iv bv ha hi
  | 1,hk,hi=>by
    cases hk
    exact uPeq_o1 kv iv0 bv0 hin hF iv bv ha hi
  | 2,hk,hi=>by
    cases hk
    exact uPeq_o2 kv iv0 bv0 hin hF iv bv ha hi
  | 3,hk,hi=>by
    cases hk
    exact uPeq_o3 kv iv0 bv0 hin hF iv bv ha hi
  | k+4,hk,_=>by simp at hk
def uPin_T1:Tm:=⟨⟨162,141,[(10,(.it .i64 (.v 51))),(9,(.it .i64 (.v 52))),(0,(.sl (.n 0) (.c 0) (.v 1) (.v 2))),(1,(.it .i64 (.v 5))),(2,(.it .i64 (.v 6))),(3,(.fn 117 [(.it .i64 (.v 4))] []))],[(.code (atC Try.f162 [1,1,0,1,0,0])),(.inLoop (atC Try.f162 [1,1,0,1,0,0])),(.inBlock 0),(.code (atC Try.f162 [1,1,1]))],[],.none⟩,[],
    ⟨[(0,(.arr [(.nt .i64),(.nt .i64),(.nt .i64),(.nt .i64),(.nt .i64),(.nt .i64)] (.v 53) (.v 1) 158 (.v 3)))],1,0,0,[((.le (.c 0) (.v 5)),.true),((.le (.v 5) (.c 1000)),.true),((.le (.c 0) (.v 6)),.true),((.le (.v 6) (.c 1000)),.true),((.lt (.v 5) (.v 6)),.true),((.le (.v 6) (.v 1)),.true),((.le (.v 1) (.v 2)),.true),((.le (.v 1) (.v 3)),.true)],[0],[(5,(0,999)),(6,(1,1000)),(1,(0,1000)),(3,(0,(-1))),(4,((-9223372036854775808),9223372036854775807)),(51,(0,(-1))),(52,(0,1000))]⟩,[51,52,53]⟩
def uPin_T2:Tm:=⟨⟨162,141,[(10,(.it .i64 (.v 51))),(9,(.it .i64 (.v 56))),(0,(.sl (.n 0) (.c 0) (.v 1) (.v 2))),(1,(.it .i64 (.v 5))),(2,(.it .i64 (.v 6))),(3,(.fn 117 [(.it .i64 (.v 4))] []))],[(.code (atC Try.f162 [1,1,0,1,0,0,1,0,0,0,0,0])),(.inLoop (atC Try.f162 [1,1,0,1,0,0,1,0,0,0,0,0])),(.inBlock 2),(.code (atC Try.f162 [1,1,0,1,0,0,1,0,0,1])),(.inBlock 1),(.code (atC Try.f162 [1,1,0,1,0,0,1,1])),(.inLoop (atC Try.f162 [1,1,0,1,0,0])),(.inBlock 0),(.code (atC Try.f162 [1,1,1]))],[],.none⟩,[],
    ⟨[(0,(.arr [(.nt .i64),(.nt .i64),(.nt .i64),(.nt .i64),(.nt .i64),(.nt .i64)] (.v 53) (.v 1) 158 (.v 3)))],1,0,0,[((.lt (.v 51) (.c 5)),.true),((.le (.c 0) (.v 5)),.true),((.le (.v 5) (.c 1000)),.true),((.le (.c 0) (.v 6)),.true),((.le (.v 6) (.c 1000)),.true),((.lt (.v 5) (.v 6)),.true),((.le (.v 6) (.v 1)),.true),((.le (.v 1) (.v 2)),.true),((.le (.v 1) (.v 3)),.true)],[0],[(51,(0,4)),(5,(0,999)),(6,(1,1000)),(1,(0,1000)),(3,(0,(-1))),(4,((-9223372036854775808),9223372036854775807)),(56,(0,1000))]⟩,[56]⟩
def uPin_T3:Tm:=⟨⟨162,141,[(11,(.it .i64 (.v 67))),(10,(.it .i64 (.v 51))),(9,(.it .i64 (.v 56))),(0,(.sl (.n 0) (.c 0) (.v 1) (.v 2))),(1,(.it .i64 (.v 5))),(2,(.it .i64 (.v 6))),(3,(.fn 117 [(.it .i64 (.v 4))] []))],[(.code (atC Try.f162 [1,1,0,1,0,0,1,0,0,1,1,1,1,0,1,0,1,0,0])),(.inLoop (atC Try.f162 [1,1,0,1,0,0,1,0,0,1,1,1,1,0,1,0,1,0,0])),(.inBlock 4),(.code (atC Try.f162 [1,1,0,1,0,0,1,0,0,1,1,1,1,1])),(.inBlock 1),(.code (atC Try.f162 [1,1,0,1,0,0,1,1])),(.inLoop (atC Try.f162 [1,1,0,1,0,0])),(.inBlock 0),(.code (atC Try.f162 [1,1,1]))],[],.none⟩,[],
    ⟨[(0,(.arr [(.nt .i64),(.nt .i64),(.nt .i64),(.nt .i64),(.nt .i64),(.nt .i64)] (.v 57) (.v 1) 158 (.v 3)))],1,0,0,[((.lt (.op .sub (.v 6) (.v 5)) (.c 50)),.false),((.lt (.v 51) (.c 5)),.true),((.le (.c 0) (.v 5)),.true),((.le (.v 5) (.c 1000)),.true),((.le (.c 0) (.v 6)),.true),((.le (.v 6) (.c 1000)),.true),((.lt (.v 5) (.v 6)),.true),((.le (.v 6) (.v 1)),.true),((.le (.v 1) (.v 2)),.true),((.le (.v 1) (.v 3)),.true)],[0],[(6,(1,1000)),(51,(0,4)),(5,(0,999)),(1,(0,1000)),(3,(0,(-1))),(4,((-9223372036854775808),9223372036854775807)),(56,(0,1000)),(67,(0,1000))]⟩,[67,57]⟩
def uPin_T4:Tm:=⟨⟨162,141,[(12,(.it .i64 (.v 84))),(10,(.it .i64 (.v 51))),(9,(.it .i64 (.v 56))),(0,(.sl (.n 0) (.c 0) (.v 1) (.v 2))),(1,(.it .i64 (.v 5))),(2,(.it .i64 (.v 6))),(3,(.fn 117 [(.it .i64 (.v 4))] []))],[(.code (atC Try.f162 [1,1,0,1,0,0,1,0,0,1,1,1,1,1,1,0,1,0,0])),(.inLoop (atC Try.f162 [1,1,0,1,0,0,1,0,0,1,1,1,1,1,1,0,1,0,0])),(.inBlock 6),(.inBlock 1),(.code (atC Try.f162 [1,1,0,1,0,0,1,1])),(.inLoop (atC Try.f162 [1,1,0,1,0,0])),(.inBlock 0),(.code (atC Try.f162 [1,1,1]))],[],.none⟩,[],
    ⟨[(0,(.arr [(.nt .i64),(.nt .i64),(.nt .i64),(.nt .i64),(.nt .i64),(.nt .i64)] (.v 69) (.v 1) 158 (.v 3)))],1,0,0,[((.lt (.op .sub (.v 6) (.v 5)) (.c 50)),.false),((.lt (.v 51) (.c 5)),.true),((.le (.c 0) (.v 5)),.true),((.le (.v 5) (.c 1000)),.true),((.le (.c 0) (.v 6)),.true),((.le (.v 6) (.c 1000)),.true),((.lt (.v 5) (.v 6)),.true),((.le (.v 6) (.v 1)),.true),((.le (.v 1) (.v 2)),.true),((.le (.v 1) (.v 3)),.true)],[0],[(6,(1,1000)),(51,(0,4)),(5,(0,999)),(1,(0,1000)),(3,(0,(-1))),(4,((-9223372036854775808),9223372036854775807)),(56,(0,1000)),(84,(0,1000))]⟩,[84,69]⟩
def uPin_L0:List Lf:=
 [(let i_:In:=⟨⟨[(53,(.v 0)),(52,(.op .add (.v 5) (.c 1))),(51,(.c 0))],[]⟩,[(0,0)],[],[]⟩;.cut ([((.le (.c 0) (.v 5)),.true),((.le (.v 5) (.c 1000)),.true),((.le (.c 0) (.v 6)),.true),((.le (.v 6) (.c 1000)),.true),((.lt (.v 5) (.v 6)),.true),((.le (.v 6) (.v 1)),.true),((.le (.v 1) (.v 2)),.true),((.le (.v 1) (.v 3)),.true)]) 1 i_ [] (shT uPin_T1 i_))]
def uPin_L1:List Lf:=
 let f0_:List (SB×Bool):=[((.le (.c 0) (.v 5)),.true),((.le (.v 5) (.c 1000)),.true),((.le (.c 0) (.v 6)),.true),((.le (.v 6) (.c 1000)),.true),((.lt (.v 5) (.v 6)),.true),((.le (.v 6) (.v 1)),.true),((.le (.v 1) (.v 2)),.true),((.le (.v 1) (.v 3)),.true)]
 [(.cut (((.lt (.v 51) (.c 5)),.true)::f0_) 2 ⟨⟨[(56,(.v 52))],[]⟩,[(0,0)],[],[]⟩ [] (shT uPin_T2 ⟨⟨[(56,(.v 52))],[]⟩,[(0,0)],[],[]⟩)),
  (.fin (((.lt (.v 51) (.c 5)),.false)::f0_) 0 ⟨⟨[],[]⟩,[(0,0)],[],[]⟩ [(.eb (.ap 48 (.v 0) (.v 1) (.v 5) (.v 6) (.v 4) (.c 0)) (.c .false)),(.ar [(.nt .i64),(.nt .i64),(.nt .i64),(.nt .i64),(.nt .i64),(.nt .i64)] (.ap 48 (.v 0) (.v 1) (.v 5) (.v 6) (.v 4) (.c 0)) (.v 53) (.v 1))] [.none])]
def uPin_L2:List Lf:=
 let x0_:SI:=(.op .add (.v 56) (.c (-1)))
 let x1_:SI:=(.ap 3 (.v 53) (.v 56) (.c 3) (.c 0) (.c 0) (.c 0))
 let x2_:SI:=(.ap 3 (.v 53) (.v 56) (.c 5) (.c 0) (.c 0) (.c 0))
 let x3_:SI:=(.ap 3 (.v 53) (.v 56) (.c 4) (.c 0) (.c 0) (.c 0))
 let x4_:SI:=(.ap 3 (.v 53) x0_ (.c 3) (.c 0) (.c 0) (.c 0))
 let x5_:SI:=(.ap 3 (.v 53) x0_ (.c 5) (.c 0) (.c 0) (.c 0))
 let x6_:SI:=(.ap 3 (.v 53) x0_ (.c 4) (.c 0) (.c 0) (.c 0))
 let x7_:SI:=(.ap 40 x1_ x2_ (.op .sub x3_ (.v 4)) x4_ x5_ (.op .sub x6_ (.v 4)))
 let x8_:SI:=(.ap 8 (.ap 8 (.ap 8 (.ap 8 (.ap 8 (.ap 8 (.ap 8 (.ap 8 (.ap 8 (.ap 8 (.ap 8 (.v 53) (.v 56) (.c 0) (.ap 3 (.v 53) x0_ (.c 0) (.c 0) (.c 0) (.c 0)) (.c 0) (.c 0)) (.v 56) (.c 1) (.ap 3 (.v 53) x0_ (.c 1) (.c 0) (.c 0) (.c 0)) (.c 0) (.c 0)) (.v 56) (.c 2) (.ap 3 (.v 53) x0_ (.c 2) (.c 0) (.c 0) (.c 0)) (.c 0) (.c 0)) (.v 56) (.c 3) x4_ (.c 0) (.c 0)) (.v 56) (.c 4) x6_ (.c 0) (.c 0)) (.v 56) (.c 5) x5_ (.c 0) (.c 0)) x0_ (.c 0) (.ap 3 (.v 53) (.v 56) (.c 0) (.c 0) (.c 0) (.c 0)) (.c 0) (.c 0)) x0_ (.c 1) (.ap 3 (.v 53) (.v 56) (.c 1) (.c 0) (.c 0) (.c 0)) (.c 0) (.c 0)) x0_ (.c 2) (.ap 3 (.v 53) (.v 56) (.c 2) (.c 0) (.c 0) (.c 0)) (.c 0) (.c 0)) x0_ (.c 3) x1_ (.c 0) (.c 0)) x0_ (.c 4) x3_ (.c 0) (.c 0))
 let f0_:List (SB×Bool):=[((.lt (.v 51) (.c 5)),.true),((.le (.c 0) (.v 5)),.true),((.le (.v 5) (.c 1000)),.true),((.le (.c 0) (.v 6)),.true),((.le (.v 6) (.c 1000)),.true),((.lt (.v 5) (.v 6)),.true),((.le (.v 6) (.v 1)),.true),((.le (.v 1) (.v 2)),.true),((.le (.v 1) (.v 3)),.true)]
 let f1_:List (SB×Bool):=((.lt (.v 56) (.v 6)),.true)::f0_
 let f2_:List (SB×Bool):=((.lt (.v 56) (.v 6)),.false)::f0_
 let f3_:List (SB×Bool):=((.le (.c 0) x0_),.true)::f1_
 let f4_:List (SB×Bool):=((.eq (.v 56) (.v 6)),.false)::f2_
 let f5_:List (SB×Bool):=((.lt x7_ (.c 0)),.true)::f3_
 let f6_:List (SB×Bool):=((.lt (.op .sub (.v 6) (.v 5)) (.c 50)),.false)::f4_
 let f7_:List (SB×Bool):=((.lt (.op .sub (.v 6) (.v 5)) (.c 50)),.false)::f5_
 let f8_:List (SB×Bool):=((.lt x0_ (.v 1)),.true)::f6_
 [(.fin (((.lt (.op .sub (.v 6) (.v 5)) (.c 50)),.true)::f5_) 0 ⟨⟨[],[]⟩,[(0,0)],[],[]⟩ [(.eb (.ap 48 (.v 0) (.v 1) (.v 5) (.v 6) (.v 4) (.c 0)) (.c .false)),(.ar [(.nt .i64),(.nt .i64),(.nt .i64),(.nt .i64),(.nt .i64),(.nt .i64)] (.ap 48 (.v 0) (.v 1) (.v 5) (.v 6) (.v 4) (.c 0)) (.v 53) (.v 1))] [.none]),
  (let i_:In:=⟨⟨[(57,(.ap 8 x8_ x0_ (.c 5) x2_ (.c 0) (.c 0))),(67,(.op .add (.v 56) (.c (-1))))],[]⟩,[(0,0)],[],[]⟩;.cut (((.le (.c 2) (.op .sub (.v 56) (.v 5))),.true)::f7_) 3 i_ [] (shT uPin_T3 i_)),
  (let i_:In:=⟨⟨[(69,(.ap 8 x8_ x0_ (.c 5) x2_ (.c 0) (.c 0))),(84,(.op .add (.v 56) (.c 1)))],[]⟩,[(0,0)],[],[]⟩;.cut (((.le (.c 2) (.op .sub (.v 56) (.v 5))),.false)::f7_) 4 i_ [] (shT uPin_T4 i_)),
  (.cut (((.lt x7_ (.c 0)),.false)::f3_) 2 ⟨⟨[(56,(.op .add (.v 56) (.c 1)))],[]⟩,[(0,0)],[],[]⟩ [] (shT uPin_T2 ⟨⟨[(56,(.op .add (.v 56) (.c 1)))],[]⟩,[(0,0)],[],[]⟩)),
  (.bad (((.le (.c 0) x0_),.false)::f1_)),
  (.fin (((.eq (.v 56) (.v 6)),.true)::f2_) 0 ⟨⟨[],[]⟩,[(0,0)],[],[]⟩ [(.eb (.ap 48 (.v 0) (.v 1) (.v 5) (.v 6) (.v 4) (.c 0)) (.c .true)),(.ar [(.nt .i64),(.nt .i64),(.nt .i64),(.nt .i64),(.nt .i64),(.nt .i64)] (.ap 48 (.v 0) (.v 1) (.v 5) (.v 6) (.v 4) (.c 0)) (.v 53) (.v 1))] [.none]),
  (.fin (((.lt (.op .sub (.v 6) (.v 5)) (.c 50)),.true)::f4_) 0 ⟨⟨[],[]⟩,[(0,0)],[],[]⟩ [(.eb (.ap 48 (.v 0) (.v 1) (.v 5) (.v 6) (.v 4) (.c 0)) (.c .false)),(.ar [(.nt .i64),(.nt .i64),(.nt .i64),(.nt .i64),(.nt .i64),(.nt .i64)] (.ap 48 (.v 0) (.v 1) (.v 5) (.v 6) (.v 4) (.c 0)) (.v 53) (.v 1))] [.none]),
  (let i_:In:=⟨⟨[(57,(.ap 8 x8_ x0_ (.c 5) x2_ (.c 0) (.c 0))),(67,(.op .add (.v 56) (.c (-1))))],[]⟩,[(0,0)],[],[]⟩;.cut (((.lt (.v 56) (.v 1)),.true)::f8_) 3 i_ [] (shT uPin_T3 i_)),
  (.bad (((.lt (.v 56) (.v 1)),.false)::f8_)),
  (.bad (((.lt x0_ (.v 1)),.false)::f6_))]
def uPin_L3:List Lf:=
 let x0_:SI:=(.op .add (.v 67) (.c (-1)))
 let x1_:SI:=(.ap 3 (.v 57) (.v 67) (.c 3) (.c 0) (.c 0) (.c 0))
 let x2_:SI:=(.ap 3 (.v 57) (.v 67) (.c 5) (.c 0) (.c 0) (.c 0))
 let x3_:SI:=(.ap 3 (.v 57) (.v 67) (.c 4) (.c 0) (.c 0) (.c 0))
 let x4_:SI:=(.ap 3 (.v 57) x0_ (.c 3) (.c 0) (.c 0) (.c 0))
 let x5_:SI:=(.ap 3 (.v 57) x0_ (.c 5) (.c 0) (.c 0) (.c 0))
 let x6_:SI:=(.ap 3 (.v 57) x0_ (.c 4) (.c 0) (.c 0) (.c 0))
 let x7_:SI:=(.ap 40 x1_ x2_ (.op .sub x3_ (.v 4)) x4_ x5_ (.op .sub x6_ (.v 4)))
 let f0_:List (SB×Bool):=[((.lt (.op .sub (.v 6) (.v 5)) (.c 50)),.false),((.lt (.v 51) (.c 5)),.true),((.le (.c 0) (.v 5)),.true),((.le (.v 5) (.c 1000)),.true),((.le (.c 0) (.v 6)),.true),((.le (.v 6) (.c 1000)),.true),((.lt (.v 5) (.v 6)),.true),((.le (.v 6) (.v 1)),.true),((.le (.v 1) (.v 2)),.true),((.le (.v 1) (.v 3)),.true)]
 let f1_:List (SB×Bool):=((.le (.c 1) (.v 67)),.true)::f0_
 let f2_:List (SB×Bool):=((.le (.c 1) (.v 67)),.false)::f0_
 let f3_:List (SB×Bool):=((.lt (.v 67) (.v 1)),.true)::f1_
 let f4_:List (SB×Bool):=((.lt x7_ (.c 0)),.false)::f3_
 [(let i_:In:=⟨⟨[(57,(.ap 8 (.ap 8 (.ap 8 (.ap 8 (.ap 8 (.ap 8 (.ap 8 (.ap 8 (.ap 8 (.ap 8 (.ap 8 (.ap 8 (.v 57) (.v 67) (.c 0) (.ap 3 (.v 57) x0_ (.c 0) (.c 0) (.c 0) (.c 0)) (.c 0) (.c 0)) (.v 67) (.c 1) (.ap 3 (.v 57) x0_ (.c 1) (.c 0) (.c 0) (.c 0)) (.c 0) (.c 0)) (.v 67) (.c 2) (.ap 3 (.v 57) x0_ (.c 2) (.c 0) (.c 0) (.c 0)) (.c 0) (.c 0)) (.v 67) (.c 3) x4_ (.c 0) (.c 0)) (.v 67) (.c 4) x6_ (.c 0) (.c 0)) (.v 67) (.c 5) x5_ (.c 0) (.c 0)) x0_ (.c 0) (.ap 3 (.v 57) (.v 67) (.c 0) (.c 0) (.c 0) (.c 0)) (.c 0) (.c 0)) x0_ (.c 1) (.ap 3 (.v 57) (.v 67) (.c 1) (.c 0) (.c 0) (.c 0)) (.c 0) (.c 0)) x0_ (.c 2) (.ap 3 (.v 57) (.v 67) (.c 2) (.c 0) (.c 0) (.c 0)) (.c 0) (.c 0)) x0_ (.c 3) x1_ (.c 0) (.c 0)) x0_ (.c 4) x3_ (.c 0) (.c 0)) x0_ (.c 5) x2_ (.c 0) (.c 0))),(67,(.op .add (.v 67) (.c (-1))))],[]⟩,[(0,0)],[],[]⟩;.cut (((.lt x7_ (.c 0)),.true)::f3_) 3 i_ [] (shT uPin_T3 i_)),
  (let i_:In:=⟨⟨[(69,(.v 57)),(84,(.op .add (.v 56) (.c 1)))],[]⟩,[(0,0)],[],[]⟩;.cut (((.le (.c 2) (.op .sub (.v 6) (.v 56))),.true)::f4_) 4 i_ [(.rn (.op .add (.v 56) (.c 1)) 0 1000)] (shT uPin_T4 i_)),
  (let i_:In:=⟨⟨[(53,(.v 57)),(52,(.v 56)),(51,(.op .add (.v 51) (.c 1)))],[]⟩,[(0,0)],[],[]⟩;.cut (((.le (.c 2) (.op .sub (.v 6) (.v 56))),.false)::f4_) 1 i_ [] (shT uPin_T1 i_)),
  (.bad (((.lt (.v 67) (.v 1)),.false)::f1_)),
  (let i_:In:=⟨⟨[(69,(.v 57)),(84,(.op .add (.v 56) (.c 1)))],[]⟩,[(0,0)],[],[]⟩;.cut (((.le (.c 2) (.op .sub (.v 6) (.v 56))),.true)::f2_) 4 i_ [(.rn (.op .add (.v 56) (.c 1)) 0 1000)] (shT uPin_T4 i_)),
  (let i_:In:=⟨⟨[(53,(.v 57)),(52,(.v 56)),(51,(.op .add (.v 51) (.c 1)))],[]⟩,[(0,0)],[],[]⟩;.cut (((.le (.c 2) (.op .sub (.v 6) (.v 56))),.false)::f2_) 1 i_ [] (shT uPin_T1 i_))]
def uPin_L4:List Lf:=
 let x0_:SI:=(.op .add (.v 84) (.c (-1)))
 let x1_:SI:=(.ap 3 (.v 69) (.v 84) (.c 3) (.c 0) (.c 0) (.c 0))
 let x2_:SI:=(.ap 3 (.v 69) (.v 84) (.c 5) (.c 0) (.c 0) (.c 0))
 let x3_:SI:=(.ap 3 (.v 69) (.v 84) (.c 4) (.c 0) (.c 0) (.c 0))
 let x4_:SI:=(.ap 3 (.v 69) x0_ (.c 3) (.c 0) (.c 0) (.c 0))
 let x5_:SI:=(.ap 3 (.v 69) x0_ (.c 5) (.c 0) (.c 0) (.c 0))
 let x6_:SI:=(.ap 3 (.v 69) x0_ (.c 4) (.c 0) (.c 0) (.c 0))
 let x7_:SI:=(.ap 40 x1_ x2_ (.op .sub x3_ (.v 4)) x4_ x5_ (.op .sub x6_ (.v 4)))
 let f0_:List (SB×Bool):=[((.lt (.op .sub (.v 6) (.v 5)) (.c 50)),.false),((.lt (.v 51) (.c 5)),.true),((.le (.c 0) (.v 5)),.true),((.le (.v 5) (.c 1000)),.true),((.le (.c 0) (.v 6)),.true),((.le (.v 6) (.c 1000)),.true),((.lt (.v 5) (.v 6)),.true),((.le (.v 6) (.v 1)),.true),((.le (.v 1) (.v 2)),.true),((.le (.v 1) (.v 3)),.true)]
 let f1_:List (SB×Bool):=((.lt (.v 84) (.v 6)),.true)::f0_
 let f2_:List (SB×Bool):=((.le (.c 0) x0_),.true)::f1_
 [(let i_:In:=⟨⟨[(69,(.ap 8 (.ap 8 (.ap 8 (.ap 8 (.ap 8 (.ap 8 (.ap 8 (.ap 8 (.ap 8 (.ap 8 (.ap 8 (.ap 8 (.v 69) (.v 84) (.c 0) (.ap 3 (.v 69) x0_ (.c 0) (.c 0) (.c 0) (.c 0)) (.c 0) (.c 0)) (.v 84) (.c 1) (.ap 3 (.v 69) x0_ (.c 1) (.c 0) (.c 0) (.c 0)) (.c 0) (.c 0)) (.v 84) (.c 2) (.ap 3 (.v 69) x0_ (.c 2) (.c 0) (.c 0) (.c 0)) (.c 0) (.c 0)) (.v 84) (.c 3) x4_ (.c 0) (.c 0)) (.v 84) (.c 4) x6_ (.c 0) (.c 0)) (.v 84) (.c 5) x5_ (.c 0) (.c 0)) x0_ (.c 0) (.ap 3 (.v 69) (.v 84) (.c 0) (.c 0) (.c 0) (.c 0)) (.c 0) (.c 0)) x0_ (.c 1) (.ap 3 (.v 69) (.v 84) (.c 1) (.c 0) (.c 0) (.c 0)) (.c 0) (.c 0)) x0_ (.c 2) (.ap 3 (.v 69) (.v 84) (.c 2) (.c 0) (.c 0) (.c 0)) (.c 0) (.c 0)) x0_ (.c 3) x1_ (.c 0) (.c 0)) x0_ (.c 4) x3_ (.c 0) (.c 0)) x0_ (.c 5) x2_ (.c 0) (.c 0))),(84,(.op .add (.v 84) (.c 1)))],[]⟩,[(0,0)],[],[]⟩;.cut (((.lt x7_ (.c 0)),.true)::f2_) 4 i_ [] (shT uPin_T4 i_)),
  (let i_:In:=⟨⟨[(53,(.v 69)),(52,(.v 56)),(51,(.op .add (.v 51) (.c 1)))],[]⟩,[(0,0)],[],[]⟩;.cut (((.lt x7_ (.c 0)),.false)::f2_) 1 i_ [] (shT uPin_T1 i_)),
  (.bad (((.le (.c 0) x0_),.false)::f1_)),
  (let i_:In:=⟨⟨[(53,(.v 69)),(52,(.v 56)),(51,(.op .add (.v 51) (.c 1)))],[]⟩,[(0,0)],[],[]⟩;.cut (((.lt (.v 84) (.v 6)),.false)::f0_) 1 i_ [] (shT uPin_T1 i_))]
def uPin_run (T:Tm):=(ex (ccM Try.prog BF [58,84]) ((fun cc=>[uCmp.ent cc]) (ccM Try.prog BF [58,84])) (dw (ccM Try.prog BF [58,84]) ((fun cc=>[uCmp.ent cc]) (ccM Try.prog BF [58,84])) 1000 4) (stopX []) 4000 T.f T.fs T.H).lfsM 1 (ccM Try.prog BF [58,84]) ((tmM uPin Try.f162 (Try.f162.body.getD .skip))::[uPin_T1,uPin_T2,uPin_T3,uPin_T4]) uPin.os
theorem uPin_h0:uPin_run (tmM uPin Try.f162 (Try.f162.body.getD .skip))=some uPin_L0:=by kernel_rfl
theorem uPin_h1:uPin_run uPin_T1=some uPin_L1:=by kernel_rfl
theorem uPin_h2:uPin_run uPin_T2=some uPin_L2:=by kernel_rfl
theorem uPin_h3:uPin_run uPin_T3=some uPin_L3:=by kernel_rfl
theorem uPin_h4:uPin_run uPin_T4=some uPin_L4:=by kernel_rfl
def uPin_inv:(Nat→Int)→(Nat→Bool)→Nat→(Nat→Int)→(Nat→Bool)→Prop:=fun iv0 _ k iv _=>match k with
 | 0=>True
 | 1=>0≤iv0 5∧0≤iv 51∧iv 51≤5∧iv0 5 < iv 52∧iv 52≤iv0 6∧Sort.partialIns (ltU (iv0 4)) (iv0 5).toNat (iv0 6).toNat (5 - iv 51).toNat (iv 52).toNat (arrOf (iv 53) (iv0 1))=Sort.partialInsertionSort (ltU (iv0 4)) (arrOf (iv0 0) (iv0 1)) (iv0 5).toNat (iv0 6).toNat
 | 2=>0≤iv0 5∧0≤iv 51∧iv 51 < 5∧iv0 5 < iv 52∧iv 52≤iv 56∧iv 56≤iv0 6∧Sort.partialIns (ltU (iv0 4)) (iv0 5).toNat (iv0 6).toNat (5 - iv 51).toNat (iv 52).toNat (arrOf (iv 53) (iv0 1))=Sort.partialInsertionSort (ltU (iv0 4)) (arrOf (iv0 0) (iv0 1)) (iv0 5).toNat (iv0 6).toNat∧Sort.scanSorted (ltU (iv0 4)) (arrOf (iv 53) (iv0 1)) (iv0 6).toNat (iv 56).toNat=Sort.scanSorted (ltU (iv0 4)) (arrOf (iv 53) (iv0 1)) (iv0 6).toNat (iv 52).toNat
 | 3=>0≤iv0 5∧0≤iv 51∧iv 51 < 5∧iv0 5 < iv 56∧iv 56 < iv0 6∧0≤iv 67∧iv 67 < iv 56∧Sort.partialIns (ltU (iv0 4)) (iv0 5).toNat (iv0 6).toNat (4 - iv 51).toNat (iv 56).toNat (upIf (iv0 4) (iv0 6) (iv 56) (Sort.shiftDown (ltU (iv0 4)) (iv 67).toNat (arrOf (iv 57) (iv0 1))))=Sort.partialInsertionSort (ltU (iv0 4)) (arrOf (iv0 0) (iv0 1)) (iv0 5).toNat (iv0 6).toNat
 | _=>0≤iv0 5∧0≤iv 51∧iv 51 < 5∧iv0 5 < iv 56∧iv 56 < iv0 6∧iv 56 < iv 84∧iv 84≤iv0 6∧Sort.partialIns (ltU (iv0 4)) (iv0 5).toNat (iv0 6).toNat (4 - iv 51).toNat (iv 56).toNat (Sort.shiftUp (ltU (iv0 4)) (iv0 6).toNat (iv 84).toNat (arrOf (iv 69) (iv0 1)))=Sort.partialInsertionSort (ltU (iv0 4)) (arrOf (iv0 0) (iv0 1)) (iv0 5).toNat (iv0 6).toNat
def uPin_mu:(Nat→Int)→(Nat→Bool)→Nat→(Nat→Int)→(Nat→Bool)→Nat:=fun iv0 _ k iv _=>match k with | 0=>2 ^ 90 | 1=>(6 - iv 51).toNat * 2 ^ 70+2 ^ 60 | 2=>(6 - iv 51).toNat * 2 ^ 70+2 ^ 50+(iv0 6 - iv 56).toNat | 3=>(6 - iv 51).toNat * 2 ^ 70+2 ^ 40+(iv 67).toNat | _=>(6 - iv 51).toNat * 2 ^ 70+(iv0 6 - iv 84).toNat
theorem uPin_b {iv0:Nat→Int} (hin:InB uPin.B iv0):(0≤iv0 1∧iv0 1≤1000)∧((-9223372036854775808)≤iv0 4∧iv0 4≤9223372036854775807):=by
 have b1:=hin 1 0 1000 (by simp [uPin,kU,ints,i64s,lmap,i64b,dU,cmpV,mU,bU,fU,leF,ltF,tU,nu,mS,ltAt,mS',tM,tC,tP,pP,pC])
 simp only [Int.reduceLE,reduceIte,Int.reduceNeg] at b1
 have b4:=hin 4 (-9223372036854775808) 9223372036854775807 (by simp [uPin,kU,ints,i64s,lmap,i64b,dU,cmpV,mU,bU,fU,leF,ltF,tU,nu,mS,ltAt,mS',tM,tC,tP,pP,pC])
 simp only [Int.reduceLE,reduceIte,Int.reduceNeg] at b4
 exact ⟨b1,b4⟩
def uPin_ob (k:Nat) (l:List Lf):Prop:=∀ (kv:Kv) (iv0:Nat→Int) (bv0:Nat→Bool),InB uPin.B iv0→FT (sta FI FB kv iv0 bv0) (dlt dyn0) uPin.F→∀ (iv:Nat→Int) (bv:Nat→Bool),Agr 7 iv0 bv0 iv bv→uPin_inv iv0 bv0 k iv bv→∀ lf∈l,LfT (sta FI FB kv) uPin.os (uPin_inv iv0 bv0) (uPin_mu iv0 bv0) k iv bv lf
theorem uPin_o0:uPin_ob 0 uPin_L0:=by
 intro kv iv0 bv0 hin hF iv bv ha hi
 unfold uPin_L0
 refine List.forall_mem_cons.2 ⟨?_,List.forall_mem_nil _⟩
 all_goals
  intro δ hf
 all_goals
  obtain ⟨b1,b4⟩:=uPin_b hin
 all_goals
  have a0:=ha.1 0 (by omega)
  have a1:=ha.1 1 (by omega)
  have a2:=ha.1 2 (by omega)
  have a3:=ha.1 3 (by omega)
  have a4:=ha.1 4 (by omega)
  have a5:=ha.1 5 (by omega)
  have a6:=ha.1 6 (by omega)
 all_goals
  simp only [FT,TP,SB.tp,SI.tv,sta,IB.eval,and_true,true_and,ObsT,Ob.Tv,rowT,kix,In.tiv,↓tbvT,In.tbv,get_cons,get_nil,reduceIte,Nat.reduceEqDiff,Int.reduceToNat,Int.reduceAdd,Int.reduceSub,Int.reduceLE,Int.reduceLT,Int.reduceEq,ne_eq,Bool.false_eq_true,not_true_eq_false,not_false_eq_true,true_iff,false_iff,iff_true,iff_false,false_implies,implies_true,decT,decide_true,decide_false,Bool.decide_eq_true,ap2,pb2,FI_3,FI_8,FI_9,FI_3g,FI_8m,Int.toNat_natCast,Int.toNat_zero,FI_40,FI_48,FB_48,uPin_inv,uPin_mu,uPin,o1,othT,kU,ints,i64s,lmap,i64b,dU,cmpV,mU,bU,fU,leF,ltF,tU,nu,mS,ltAt,mS',tM,tC,tP,pP,pC,a0,a1,a2,a3,a4,a5,a6] at hf hi ⊢
 all_goals
  (repeat' (with_reducible apply And.intro))<;>first
  | omega
  | assumption
  | (unfold inM;omega)
  | (rw [show (iv0 5+1).toNat=(iv0 5).toNat+1 by omega];rfl)
theorem uPin_o1:uPin_ob 1 uPin_L1:=by
 intro kv iv0 bv0 hin hF iv bv ha hi
 unfold uPin_L1
 refine List.forall_mem_cons.2 ⟨?_,List.forall_mem_cons.2 ⟨?_,List.forall_mem_nil _⟩⟩
 all_goals
  intro δ hf
 all_goals
  obtain ⟨b1,b4⟩:=uPin_b hin
 all_goals
  have a0:=ha.1 0 (by omega)
  have a1:=ha.1 1 (by omega)
  have a2:=ha.1 2 (by omega)
  have a3:=ha.1 3 (by omega)
  have a4:=ha.1 4 (by omega)
  have a5:=ha.1 5 (by omega)
  have a6:=ha.1 6 (by omega)
 all_goals
  simp only [FT,TP,SB.tp,SI.tv,sta,IB.eval,and_true,true_and,ObsT,Ob.Tv,rowT,kix,In.tiv,↓tbvT,In.tbv,get_cons,get_nil,reduceIte,Nat.reduceEqDiff,Int.reduceToNat,Int.reduceAdd,Int.reduceSub,Int.reduceLE,Int.reduceLT,Int.reduceEq,ne_eq,Bool.false_eq_true,not_true_eq_false,not_false_eq_true,true_iff,false_iff,iff_true,iff_false,false_implies,implies_true,decT,decide_true,decide_false,Bool.decide_eq_true,ap2,pb2,FI_3,FI_8,FI_9,FI_3g,FI_8m,Int.toNat_natCast,Int.toNat_zero,FI_40,FI_48,FB_48,uPin_inv,uPin_mu,uPin,o1,othT,kU,ints,i64s,lmap,i64b,dU,cmpV,mU,bU,fU,leF,ltF,tU,nu,mS,ltAt,mS',tM,tC,tP,pP,pC,a0,a1,a2,a3,a4,a5,a6] at hf hi ⊢
 all_goals
  obtain ⟨g0,g1,g2,g3,g4,g5⟩:=hi
 all_goals
  (repeat' (with_reducible apply And.intro))<;>first
  | omega
  | assumption
  | (unfold inM;omega)
  | (unfold pinU;rw [pin_fin0 g5.symm.symm (by omega)];first | done | rfl | (exact Bool.false_ne_true) | (exact rows6 rfl))
theorem uPin_o2:uPin_ob 2 uPin_L2:=by
 intro kv iv0 bv0 hin hF iv bv ha hi
 unfold uPin_L2
 refine List.forall_mem_cons.2 ⟨?_,List.forall_mem_cons.2 ⟨?_,List.forall_mem_cons.2 ⟨?_,List.forall_mem_cons.2 ⟨?_,List.forall_mem_cons.2 ⟨?_,List.forall_mem_cons.2 ⟨?_,List.forall_mem_cons.2 ⟨?_,List.forall_mem_cons.2 ⟨?_,List.forall_mem_cons.2 ⟨?_,List.forall_mem_cons.2 ⟨?_,List.forall_mem_nil _⟩⟩⟩⟩⟩⟩⟩⟩⟩⟩
 all_goals
  intro δ hf
 all_goals
  obtain ⟨b1,b4⟩:=uPin_b hin
 all_goals
  have a0:=ha.1 0 (by omega)
  have a1:=ha.1 1 (by omega)
  have a2:=ha.1 2 (by omega)
  have a3:=ha.1 3 (by omega)
  have a4:=ha.1 4 (by omega)
  have a5:=ha.1 5 (by omega)
  have a6:=ha.1 6 (by omega)
 all_goals
  simp only [FT,TP,SB.tp,SI.tv,sta,IB.eval,and_true,true_and,ObsT,Ob.Tv,rowT,kix,In.tiv,↓tbvT,In.tbv,get_cons,get_nil,reduceIte,Nat.reduceEqDiff,Int.reduceToNat,Int.reduceAdd,Int.reduceSub,Int.reduceLE,Int.reduceLT,Int.reduceEq,ne_eq,Bool.false_eq_true,not_true_eq_false,not_false_eq_true,true_iff,false_iff,iff_true,iff_false,false_implies,implies_true,decT,decide_true,decide_false,Bool.decide_eq_true,ap2,pb2,FI_3,FI_8,FI_9,FI_3g,FI_8m,Int.toNat_natCast,Int.toNat_zero,FI_40,FI_48,FB_48,uPin_inv,uPin_mu,uPin,o1,othT,kU,ints,i64s,lmap,i64b,dU,cmpV,mU,bU,fU,leF,ltF,tU,nu,mS,ltAt,mS',tM,tC,tP,pP,pC,a0,a1,a2,a3,a4,a5,a6] at hf hi ⊢
 all_goals
  obtain ⟨g0,g1,g2,g3,g4,g5,g6,g7⟩:=hi
 all_goals
  (repeat' (with_reducible apply And.intro))<;>first
  | omega
  | assumption
  | (unfold inM;omega)
  | (rw [ss_go (by omega) (by omega) (by omega) (by first | exact hf.1 | exact hf.2.1 | exact hf.2.2.1 | exact hf.2.2.2.1 | exact hf.2.2.2.2.1 | exact hf.2.2.2.2.2.1 | exact hf.2.2.2.2.2.2.1 | exact hf.2.2.2.2.2.2.2.1 | exact hf.2.2.2.2.2.2.2.2.1 | exact hf.2.2.2.2.2.2.2.2.2.1 | exact hf.2.2.2.2.2.2.2.2.2.2.1 | exact hf.2.2.2.2.2.2.2.2.2.2.2.1 | exact hf.2.2.2.2.2.2.2.2.2.2.2.2.1 | exact hf.2.2.2.2.2.2.2.2.2.2.2.2.2.1)] at g7;exact g7)
  | (rw [ss_past (by omega) (by omega)] at g7;unfold pinU;rw [pin_fin1 g6 (by omega) g7.symm (by omega) (by omega) (by omega)];first | done | rfl | (exact rows6 rfl))
  | (rw [ss_no (by omega) (by omega) (by omega) (by first | exact hf.1 | exact hf.2.1 | exact hf.2.2.1 | exact hf.2.2.2.1 | exact hf.2.2.2.2.1 | exact hf.2.2.2.2.2.1 | exact hf.2.2.2.2.2.2.1 | exact hf.2.2.2.2.2.2.2.1 | exact hf.2.2.2.2.2.2.2.2.1 | exact hf.2.2.2.2.2.2.2.2.2.1 | exact hf.2.2.2.2.2.2.2.2.2.2.1 | exact hf.2.2.2.2.2.2.2.2.2.2.2.1 | exact hf.2.2.2.2.2.2.2.2.2.2.2.2.1 | exact hf.2.2.2.2.2.2.2.2.2.2.2.2.2.1)] at g7;unfold pinU;rw [pin_fin2 g6 (by omega) g7.symm (by omega) (by omega) (by omega) (by omega)];first | done | rfl | (exact Bool.false_ne_true) | (exact rows6 rfl))
  | (rw [ss_no (by omega) (by omega) (by omega) (by first | exact hf.1 | exact hf.2.1 | exact hf.2.2.1 | exact hf.2.2.2.1 | exact hf.2.2.2.2.1 | exact hf.2.2.2.2.2.1 | exact hf.2.2.2.2.2.2.1 | exact hf.2.2.2.2.2.2.2.1 | exact hf.2.2.2.2.2.2.2.2.1 | exact hf.2.2.2.2.2.2.2.2.2.1 | exact hf.2.2.2.2.2.2.2.2.2.2.1 | exact hf.2.2.2.2.2.2.2.2.2.2.2.1 | exact hf.2.2.2.2.2.2.2.2.2.2.2.2.1 | exact hf.2.2.2.2.2.2.2.2.2.2.2.2.2.1)] at g7;rw [swp12 (by omega) (by omega) (by omega) (by omega)];exact pin_D g6 (by omega) g7.symm (by omega) (by omega) (by omega) (by omega) (by omega))
  | (rw [ss_no (by omega) (by omega) (by omega) (by first | exact hf.1 | exact hf.2.1 | exact hf.2.2.1 | exact hf.2.2.2.1 | exact hf.2.2.2.2.1 | exact hf.2.2.2.2.2.1 | exact hf.2.2.2.2.2.2.1 | exact hf.2.2.2.2.2.2.2.1 | exact hf.2.2.2.2.2.2.2.2.1 | exact hf.2.2.2.2.2.2.2.2.2.1 | exact hf.2.2.2.2.2.2.2.2.2.2.1 | exact hf.2.2.2.2.2.2.2.2.2.2.2.1 | exact hf.2.2.2.2.2.2.2.2.2.2.2.2.1 | exact hf.2.2.2.2.2.2.2.2.2.2.2.2.2.1)] at g7;rw [swp12 (by omega) (by omega) (by omega) (by omega),← upIf_yes (by omega)];exact pin_U g6 (by omega) g7.symm (by omega) (by omega) (by omega) (by omega) (by omega))
  | (rw [ss_no (by omega) (by omega) (by omega) (by first | exact hf.1 | exact hf.2.1 | exact hf.2.2.1 | exact hf.2.2.2.1 | exact hf.2.2.2.2.1 | exact hf.2.2.2.2.2.1 | exact hf.2.2.2.2.2.2.1 | exact hf.2.2.2.2.2.2.2.1 | exact hf.2.2.2.2.2.2.2.2.1 | exact hf.2.2.2.2.2.2.2.2.2.1 | exact hf.2.2.2.2.2.2.2.2.2.2.1 | exact hf.2.2.2.2.2.2.2.2.2.2.2.1 | exact hf.2.2.2.2.2.2.2.2.2.2.2.2.1 | exact hf.2.2.2.2.2.2.2.2.2.2.2.2.2.1)] at g7;have k:=pin_U g6 (by omega) g7.symm (by omega) (by omega) (by omega) (by omega) (by omega);rw [upIf_no (by omega)] at k;rw [swp12 (by omega) (by omega) (by omega) (by omega),show (5 - (iv 51+1)).toNat=(4 - iv 51).toNat by omega];exact k)
theorem uPin_o3:uPin_ob 3 uPin_L3:=by
 intro kv iv0 bv0 hin hF iv bv ha hi
 unfold uPin_L3
 refine List.forall_mem_cons.2 ⟨?_,List.forall_mem_cons.2 ⟨?_,List.forall_mem_cons.2 ⟨?_,List.forall_mem_cons.2 ⟨?_,List.forall_mem_cons.2 ⟨?_,List.forall_mem_cons.2 ⟨?_,List.forall_mem_nil _⟩⟩⟩⟩⟩⟩
 all_goals
  intro δ hf
 all_goals
  obtain ⟨b1,b4⟩:=uPin_b hin
 all_goals
  have a0:=ha.1 0 (by omega)
  have a1:=ha.1 1 (by omega)
  have a2:=ha.1 2 (by omega)
  have a3:=ha.1 3 (by omega)
  have a4:=ha.1 4 (by omega)
  have a5:=ha.1 5 (by omega)
  have a6:=ha.1 6 (by omega)
 all_goals
  simp only [FT,TP,SB.tp,SI.tv,sta,IB.eval,and_true,true_and,ObsT,Ob.Tv,rowT,kix,In.tiv,↓tbvT,In.tbv,get_cons,get_nil,reduceIte,Nat.reduceEqDiff,Int.reduceToNat,Int.reduceAdd,Int.reduceSub,Int.reduceLE,Int.reduceLT,Int.reduceEq,ne_eq,Bool.false_eq_true,not_true_eq_false,not_false_eq_true,true_iff,false_iff,iff_true,iff_false,false_implies,implies_true,decT,decide_true,decide_false,Bool.decide_eq_true,ap2,pb2,FI_3,FI_8,FI_9,FI_3g,FI_8m,Int.toNat_natCast,Int.toNat_zero,FI_40,FI_48,FB_48,uPin_inv,uPin_mu,uPin,o1,othT,kU,ints,i64s,lmap,i64b,dU,cmpV,mU,bU,fU,leF,ltF,tU,nu,mS,ltAt,mS',tM,tC,tP,pP,pC,a0,a1,a2,a3,a4,a5,a6] at hf hi ⊢
 all_goals
  obtain ⟨g0,g1,g2,g3,g4,g5,g6,g7⟩:=hi
 all_goals
  (repeat' (with_reducible apply And.intro))<;>first
  | omega
  | assumption
  | (unfold inM;omega)
  | (rw [shd_go (by omega) (by omega) (by first | exact hf.1 | exact hf.2.1 | exact hf.2.2.1 | exact hf.2.2.2.1 | exact hf.2.2.2.2.1 | exact hf.2.2.2.2.2.1 | exact hf.2.2.2.2.2.2.1 | exact hf.2.2.2.2.2.2.2.1 | exact hf.2.2.2.2.2.2.2.2.1 | exact hf.2.2.2.2.2.2.2.2.2.1 | exact hf.2.2.2.2.2.2.2.2.2.2.1 | exact hf.2.2.2.2.2.2.2.2.2.2.2.1 | exact hf.2.2.2.2.2.2.2.2.2.2.2.2.1 | exact hf.2.2.2.2.2.2.2.2.2.2.2.2.2.1)] at g7;rw [swp12 (by omega) (by omega) (by omega) (by omega)];exact g7)
  | (rw [shd_no (by omega) (by omega) (by first | exact hf.1 | exact hf.2.1 | exact hf.2.2.1 | exact hf.2.2.2.1 | exact hf.2.2.2.2.1 | exact hf.2.2.2.2.2.1 | exact hf.2.2.2.2.2.2.1 | exact hf.2.2.2.2.2.2.2.1 | exact hf.2.2.2.2.2.2.2.2.1 | exact hf.2.2.2.2.2.2.2.2.2.1 | exact hf.2.2.2.2.2.2.2.2.2.2.1 | exact hf.2.2.2.2.2.2.2.2.2.2.2.1 | exact hf.2.2.2.2.2.2.2.2.2.2.2.2.1 | exact hf.2.2.2.2.2.2.2.2.2.2.2.2.2.1),upIf_no (by omega)] at g7;rw [show (5 - (iv 51+1)).toNat=(4 - iv 51).toNat by omega];exact g7)
  | (rw [shd_0 (by omega),upIf_no (by omega)] at g7;rw [show (5 - (iv 51+1)).toNat=(4 - iv 51).toNat by omega];exact g7)
  | (rw [shd_no (by omega) (by omega) (by first | exact hf.1 | exact hf.2.1 | exact hf.2.2.1 | exact hf.2.2.2.1 | exact hf.2.2.2.2.1 | exact hf.2.2.2.2.2.1 | exact hf.2.2.2.2.2.2.1 | exact hf.2.2.2.2.2.2.2.1 | exact hf.2.2.2.2.2.2.2.2.1 | exact hf.2.2.2.2.2.2.2.2.2.1 | exact hf.2.2.2.2.2.2.2.2.2.2.1 | exact hf.2.2.2.2.2.2.2.2.2.2.2.1 | exact hf.2.2.2.2.2.2.2.2.2.2.2.2.1 | exact hf.2.2.2.2.2.2.2.2.2.2.2.2.2.1),upIf_yes (by omega)] at g7;exact g7)
  | (rw [shd_0 (by omega),upIf_yes (by omega)] at g7;exact g7)
theorem uPin_o4:uPin_ob 4 uPin_L4:=by
 intro kv iv0 bv0 hin hF iv bv ha hi
 unfold uPin_L4
 refine List.forall_mem_cons.2 ⟨?_,List.forall_mem_cons.2 ⟨?_,List.forall_mem_cons.2 ⟨?_,List.forall_mem_cons.2 ⟨?_,List.forall_mem_nil _⟩⟩⟩⟩
 all_goals
  intro δ hf
 all_goals
  obtain ⟨b1,b4⟩:=uPin_b hin
 all_goals
  have a0:=ha.1 0 (by omega)
  have a1:=ha.1 1 (by omega)
  have a2:=ha.1 2 (by omega)
  have a3:=ha.1 3 (by omega)
  have a4:=ha.1 4 (by omega)
  have a5:=ha.1 5 (by omega)
  have a6:=ha.1 6 (by omega)
 all_goals
  simp only [FT,TP,SB.tp,SI.tv,sta,IB.eval,and_true,true_and,ObsT,Ob.Tv,rowT,kix,In.tiv,↓tbvT,In.tbv,get_cons,get_nil,reduceIte,Nat.reduceEqDiff,Int.reduceToNat,Int.reduceAdd,Int.reduceSub,Int.reduceLE,Int.reduceLT,Int.reduceEq,ne_eq,Bool.false_eq_true,not_true_eq_false,not_false_eq_true,true_iff,false_iff,iff_true,iff_false,false_implies,implies_true,decT,decide_true,decide_false,Bool.decide_eq_true,ap2,pb2,FI_3,FI_8,FI_9,FI_3g,FI_8m,Int.toNat_natCast,Int.toNat_zero,FI_40,FI_48,FB_48,uPin_inv,uPin_mu,uPin,o1,othT,kU,ints,i64s,lmap,i64b,dU,cmpV,mU,bU,fU,leF,ltF,tU,nu,mS,ltAt,mS',tM,tC,tP,pP,pC,a0,a1,a2,a3,a4,a5,a6] at hf hi ⊢
 all_goals
  obtain ⟨g0,g1,g2,g3,g4,g5,g6,g7⟩:=hi
 all_goals
  (repeat' (with_reducible apply And.intro))<;>first
  | omega
  | assumption
  | (unfold inM;omega)
  | (rw [shu_go (by omega) (by omega) (by omega) (by first | exact hf.1 | exact hf.2.1 | exact hf.2.2.1 | exact hf.2.2.2.1 | exact hf.2.2.2.2.1 | exact hf.2.2.2.2.2.1 | exact hf.2.2.2.2.2.2.1 | exact hf.2.2.2.2.2.2.2.1 | exact hf.2.2.2.2.2.2.2.2.1 | exact hf.2.2.2.2.2.2.2.2.2.1 | exact hf.2.2.2.2.2.2.2.2.2.2.1 | exact hf.2.2.2.2.2.2.2.2.2.2.2.1 | exact hf.2.2.2.2.2.2.2.2.2.2.2.2.1 | exact hf.2.2.2.2.2.2.2.2.2.2.2.2.2.1)] at g7;rw [swp12 (by omega) (by omega) (by omega) (by omega)];exact g7)
  | (rw [shu_no (by omega) (by omega) (by omega) (by first | exact hf.1 | exact hf.2.1 | exact hf.2.2.1 | exact hf.2.2.2.1 | exact hf.2.2.2.2.1 | exact hf.2.2.2.2.2.1 | exact hf.2.2.2.2.2.2.1 | exact hf.2.2.2.2.2.2.2.1 | exact hf.2.2.2.2.2.2.2.2.1 | exact hf.2.2.2.2.2.2.2.2.2.1 | exact hf.2.2.2.2.2.2.2.2.2.2.1 | exact hf.2.2.2.2.2.2.2.2.2.2.2.1 | exact hf.2.2.2.2.2.2.2.2.2.2.2.2.1 | exact hf.2.2.2.2.2.2.2.2.2.2.2.2.2.1)] at g7;rw [show (5 - (iv 51+1)).toNat=(4 - iv 51).toNat by omega];exact g7)
  | (rw [shu_past (by omega) (by omega)] at g7;rw [show (5 - (iv 51+1)).toNat=(4 - iv 51).toNat by omega];exact g7)
theorem uPin_c:LsCM 1 ((tmM uPin Try.f162 (Try.f162.body.getD .skip))::[uPin_T1,uPin_T2,uPin_T3,uPin_T4]) uPin.os [uPin_L0,uPin_L1,uPin_L2,uPin_L3,uPin_L4]:=by
 unfold uPin_L0 uPin_L1 uPin_L2 uPin_L3 uPin_L4
 exact ⟨List.forall_mem_cons.2 ⟨⟨⟨⟨_,rfl,rfl⟩,by kernel_rfl⟩,by kernel_rfl⟩,List.forall_mem_nil _⟩,List.forall_mem_cons.2 ⟨⟨⟨⟨_,rfl,rfl⟩,by kernel_rfl⟩,by kernel_rfl⟩,List.forall_mem_cons.2 ⟨⟨⟨⟨_,rfl,rfl⟩,by kernel_rfl⟩,by kernel_rfl⟩,List.forall_mem_nil _⟩⟩,List.forall_mem_cons.2 ⟨⟨⟨⟨_,rfl,rfl⟩,by kernel_rfl⟩,by kernel_rfl⟩,List.forall_mem_cons.2 ⟨⟨⟨⟨_,rfl,rfl⟩,by kernel_rfl⟩,by kernel_rfl⟩,List.forall_mem_cons.2 ⟨⟨⟨⟨_,rfl,rfl⟩,by kernel_rfl⟩,by kernel_rfl⟩,List.forall_mem_cons.2 ⟨⟨⟨⟨_,rfl,rfl⟩,by kernel_rfl⟩,by kernel_rfl⟩,List.forall_mem_cons.2 ⟨⟨trivial,rfl⟩,List.forall_mem_cons.2 ⟨⟨⟨⟨_,rfl,rfl⟩,by kernel_rfl⟩,by kernel_rfl⟩,List.forall_mem_cons.2 ⟨⟨⟨⟨_,rfl,rfl⟩,by kernel_rfl⟩,by kernel_rfl⟩,List.forall_mem_cons.2 ⟨⟨⟨⟨_,rfl,rfl⟩,by kernel_rfl⟩,by kernel_rfl⟩,List.forall_mem_cons.2 ⟨⟨trivial,rfl⟩,List.forall_mem_cons.2 ⟨⟨trivial,rfl⟩,List.forall_mem_nil _⟩⟩⟩⟩⟩⟩⟩⟩⟩⟩,List.forall_mem_cons.2 ⟨⟨⟨⟨_,rfl,rfl⟩,by kernel_rfl⟩,by kernel_rfl⟩,List.forall_mem_cons.2 ⟨⟨⟨⟨_,rfl,rfl⟩,by kernel_rfl⟩,by kernel_rfl⟩,List.forall_mem_cons.2 ⟨⟨⟨⟨_,rfl,rfl⟩,by kernel_rfl⟩,by kernel_rfl⟩,List.forall_mem_cons.2 ⟨⟨trivial,rfl⟩,List.forall_mem_cons.2 ⟨⟨⟨⟨_,rfl,rfl⟩,by kernel_rfl⟩,by kernel_rfl⟩,List.forall_mem_cons.2 ⟨⟨⟨⟨_,rfl,rfl⟩,by kernel_rfl⟩,by kernel_rfl⟩,List.forall_mem_nil _⟩⟩⟩⟩⟩⟩,List.forall_mem_cons.2 ⟨⟨⟨⟨_,rfl,rfl⟩,by kernel_rfl⟩,by kernel_rfl⟩,List.forall_mem_cons.2 ⟨⟨⟨⟨_,rfl,rfl⟩,by kernel_rfl⟩,by kernel_rfl⟩,List.forall_mem_cons.2 ⟨⟨trivial,rfl⟩,List.forall_mem_cons.2 ⟨⟨⟨⟨_,rfl,rfl⟩,by kernel_rfl⟩,by kernel_rfl⟩,List.forall_mem_nil _⟩⟩⟩⟩,trivial⟩
theorem uPin_ok:uPin.Ok Try.prog FI FB:=
 Com.of_plain (body:=Try.f162.body.getD .skip) pok fiok (EntsFor.cons uCmp_ok EntsFor.nil) uPin Try.func162 (by kernel_rfl) 7 [uPin_T1,uPin_T2,uPin_T3,uPin_T4] (by kernel_rfl) [uPin_L0,uPin_L1,uPin_L2,uPin_L3,uPin_L4] ⟨uPin_h0,uPin_h1,uPin_h2,uPin_h3,uPin_h4,trivial⟩ uPin_c
  uPin_inv uPin_mu (fun _ _ _=>trivial) fun kv iv0 bv0 hin hF k l iv bv hk ha hi=>match k,hk,hi with
  | 0,hk,hi=>by
    cases hk
    exact uPin_o0 kv iv0 bv0 hin hF iv bv ha hi
  | 1,hk,hi=>by
    cases hk
    exact uPin_o1 kv iv0 bv0 hin hF iv bv ha hi
  | 2,hk,hi=>by
    cases hk
    exact uPin_o2 kv iv0 bv0 hin hF iv bv ha hi
  | 3,hk,hi=>by
    cases hk
    exact uPin_o3 kv iv0 bv0 hin hF iv bv ha hi
  | 4,hk,hi=>by
    cases hk
    exact uPin_o4 kv iv0 bv0 hin hF iv bv ha hi
  | k+5,hk,_=>by simp at hk
end
end Go.Sx.Mhw
