/- Sorting: sizes, pdqsort's round by codes. -/
import Derived.Test.YtfgdpkceoadgjaaSoC
import Derived.Test.YtfgdpkceoadgjaaSoD
namespace Go.Sx.Mhw
set_option linter.unusedVariables false
set_option linter.unusedSimpArgs false
set_option linter.unusedSectionVars false
noncomputable section
open Go Go.Sx Go.Proofs
section
variable (lt:Rw→Rw→Bool)
theorem size_insInner (a:Nat):∀ (j:Nat) (d:Array Rw),(Sort.insInner lt a j d).size=d.size
 | 0,_=>rfl
 | j+1,d=>by
   rw [Sort.insInner];split
   ·rw [size_insInner a j,Sort.swp_size]
   ·rfl
theorem size_insOuter (a b i:Nat) (d:Array Rw):(Sort.insOuter lt a b i d).size=d.size:=by
 fun_induction Sort.insOuter lt a b i d<;>simp_all [size_insInner]
theorem size_ins (a b:Nat) (d:Array Rw):(Sort.insertionSort lt d a b).size=d.size:=size_insOuter lt _ _ _ _
theorem size_heapBuild (hi first:Nat):∀ (k:Nat) (d:Array Rw),(Sort.heapBuild lt hi first k d).size=d.size
 | 0,_=>rfl
 | k+1,d=>by rw [Sort.heapBuild,size_heapBuild hi first k,size_sif]
theorem size_heapPop (first:Nat):∀ (k:Nat) (d:Array Rw),(Sort.heapPop lt first k d).size=d.size
 | 0,_=>rfl
 | k+1,d=>by rw [Sort.heapPop,size_heapPop first k,size_sif,Sort.swp_size]
theorem size_hea (a b:Nat) (d:Array Rw):(Sort.heapSort lt d a b).size=d.size:=by rw [Sort.heapSort,size_heapPop,size_heapBuild]
theorem size_partLoop (a i j:Nat) (d:Array Rw):(Sort.partLoop lt a i j d).2.size=d.size:=by
 fun_induction Sort.partLoop lt a i j d<;>simp_all [Sort.swp_size]
theorem size_par (a b p:Nat) (d:Array Rw):(Sort.partition lt d a b p).2.2.size=d.size:=by
 unfold Sort.partition;dsimp only;split<;>simp [Sort.swp_size,size_partLoop]
theorem size_partEqLoop (a i j:Nat) (d:Array Rw):(Sort.partEqLoop lt a i j d).2.size=d.size:=by
 fun_induction Sort.partEqLoop lt a i j d<;>simp_all [Sort.swp_size]
theorem size_peq (a b p:Nat) (d:Array Rw):(Sort.partitionEqual lt d a b p).2.size=d.size:=by
 rw [Sort.partitionEqual,size_partEqLoop,Sort.swp_size]
theorem size_shiftDown:∀ (j:Nat) (d:Array Rw),(Sort.shiftDown lt j d).size=d.size
 | 0,_=>rfl
 | j+1,d=>by
   rw [Sort.shiftDown];split
   ·rfl
   ·rw [size_shiftDown j,Sort.swp_size]
theorem size_shiftUp (b j:Nat) (d:Array Rw):(Sort.shiftUp lt b j d).size=d.size:=by
 fun_induction Sort.shiftUp lt b j d<;>simp_all [Sort.swp_size]
theorem size_partialIns (a b:Nat):∀ (s i:Nat) (d:Array Rw),(Sort.partialIns lt a b s i d).1.size=d.size
 | 0,_,_=>rfl
 | s+1,i,d=>by
   rw [Sort.partialIns];dsimp only
   split
   ·rfl
   ·split
    ·rfl
    ·rw [size_partialIns a b s]
     split<;>split<;>simp [size_shiftUp,size_shiftDown,Sort.swp_size]
theorem size_pin (a b:Nat) (d:Array Rw):(Sort.partialInsertionSort lt d a b).1.size=d.size:=size_partialIns lt _ _ _ _ _
end
theorem size_reverse (i j:Nat) (d:Array Rw):(Sort.reverseLoop i j d).size=d.size:=by
 fun_induction Sort.reverseLoop i j d<;>simp_all [Sort.swp_size]
theorem size_rev (a b:Nat) (d:Array Rw):(Sort.reverseRange d a b).size=d.size:=size_reverse _ _ _
theorem size_brk (a b:Nat) (d:Array Rw):(Sort.breakPatterns d a b).size=d.size:=by
 unfold Sort.breakPatterns;dsimp only
 split
 ·simp [Sort.breakStep,Sort.swp_size]
 ·rfl
theorem size_pdq (lt:Rw→Rw→Bool) (d:Array Rw) (a b l:Nat) (wb wp:Bool):(Sort.pdq lt d a b l wb wp).size=d.size:=by
 have hp:∀ (d:Array Rw) (a b p:Nat) (m:Nat) (d':Array Rw),Sort.partitionEqual lt d a b p=(m,d')→d'.size=d.size:=fun d a b p m d' h=>by have:=size_peq lt a b p d;rw [h] at this;exact this
 have hq:∀ (d:Array Rw) (a b p:Nat) (m:Nat) (z:Bool) (d':Array Rw),Sort.partition lt d a b p=(m,z,d')→d'.size=d.size:=fun d a b p m z d' h=>by have:=size_par lt a b p d;rw [h] at this;exact this
 have h3:∀ (p:Prop) [Decidable p] (d:Array Rw) (a b:Nat),(if _:p then Sort.partialInsertionSort lt d a b else (d,false)).1.size=d.size:=fun p _ d a b=>by split<;>simp [size_pin]
 have h4:∀ (p:Prop) [Decidable p] (d:Array Rw) (a b:Nat),(if _:p then Sort.reverseRange d a b else d).size=d.size:=fun h _ d a b=>by split<;>simp [size_rev]
 have h5:∀ (p:Prop) [Decidable p] (d:Array Rw) (a b:Nat),(if _:p then Sort.breakPatterns d a b else d).size=d.size:=fun h _ d a b=>by split<;>simp [size_brk]
 fun_induction Sort.pdq lt d a b l wb wp
 all_goals first
  | exact size_ins ..
  | exact size_hea ..
  | exact (h3 ..).trans ((h4 ..).trans (h5 ..))
  | exact (hp _ _ _ _ _ _ (by assumption)).trans ((h3 ..).trans ((h4 ..).trans (h5 ..)))
  | exact (hq _ _ _ _ _ _ _ (by assumption)).trans ((h3 ..).trans ((h4 ..).trans (h5 ..)))
  | (refine Eq.trans (by assumption) ?_;exact (hp _ _ _ _ _ _ (by assumption)).trans ((h3 ..).trans ((h4 ..).trans (h5 ..))))
  | (refine Eq.trans (by assumption) (Eq.trans (by assumption) ?_);exact (hq _ _ _ _ _ _ _ (by assumption)).trans ((h3 ..).trans ((h4 ..).trans (h5 ..))))
section
variable {c n a b l pv lim:Int} {wb wp:Bool}
theorem arr_ins:arrOf (insU c n a b lim) n=Sort.insertionSort (ltU lim) (arrOf c n) a.toNat b.toNat:=arrOf_codeOf (by rw [size_ins,size_arrOf])
theorem arr_hea:arrOf (heaU c n a b lim) n=Sort.heapSort (ltU lim) (arrOf c n) a.toNat b.toNat:=arrOf_codeOf (by rw [size_hea,size_arrOf])
theorem arr_brk:arrOf (brkU c n a b) n=Sort.breakPatterns (arrOf c n) a.toNat b.toNat:=arrOf_codeOf (by rw [size_brk,size_arrOf])
theorem arr_rev:arrOf (revU c n a b) n=Sort.reverseRange (arrOf c n) a.toNat b.toNat:=arrOf_codeOf (by rw [size_rev,size_arrOf])
theorem arr_pin:arrOf (codeOf (pinU c n a b lim).1) n=(pinU c n a b lim).1:=arrOf_codeOf (by unfold pinU;rw [size_pin,size_arrOf])
theorem arr_par:arrOf (codeOf (parU c n a b pv lim).2.2) n=(parU c n a b pv lim).2.2:=arrOf_codeOf (by unfold parU;rw [size_par,size_arrOf])
theorem arr_peq:arrOf (codeOf (peqU c n a b pv lim).2) n=(peqU c n a b pv lim).2:=arrOf_codeOf (by unfold peqU;rw [size_peq,size_arrOf])
def pdqS (lim n c a b l:Int) (wb wp:Bool):Array Rw:=Sort.pdq (ltU lim) (arrOf c n) a.toNat b.toNat l.toNat wb wp
theorem arr_pdq:arrOf (pdqU c n a b l lim) n=Sort.pdq (ltU lim) (arrOf c n) a.toNat b.toNat l.toNat true true:=arrOf_codeOf (by rw [size_pdq,size_arrOf])
def n4 (lt:Rw→Rw→Bool) (d3:Array Rw) (a b limit pivot:Nat) (wasBalanced wasPartitioned:Bool):Array Rw:=
 if a > 0 && !lt d3[a - 1]! d3[pivot]! then
  match Sort.partitionEqual lt d3 a b pivot with
  | (mid,d4)=>if _h:a < mid∧mid≤b then Sort.pdq lt d4 mid b limit wasBalanced wasPartitioned else d4
 else
  match Sort.partition lt d3 a b pivot with
  | (mid,alreadyPartitioned,d4)=>
    if _h:a≤mid∧mid < b then
     if mid - a < b - mid then
      Sort.pdq lt (Sort.pdq lt d4 a mid limit true true) (mid+1) b limit (decide (mid - a ≥ (b - a) / 8)) alreadyPartitioned
     else
      Sort.pdq lt (Sort.pdq lt d4 (mid+1) b limit true true) a mid limit (decide (b - mid ≥ (b - a) / 8)) alreadyPartitioned
    else d4
def n3 (lt:Rw→Rw→Bool) (d2:Array Rw) (a b limit pivot:Nat) (wb wp:Bool) (hint:Sort.Hint):Array Rw:=
 let pi:=if wb && wp && hint=.increasing then Sort.partialInsertionSort lt d2 a b else (d2,false)
 if pi.2 then pi.1 else n4 lt pi.1 a b limit pivot wb wp
def n2 (lt:Rw→Rw→Bool) (d1:Array Rw) (a b limit:Nat) (wb wp:Bool):Array Rw:=
 let c:=Sort.choosePivot lt d1 a b
 n3 lt (if c.2=.decreasing then Sort.reverseRange d1 a b else d1) a b limit (if c.2=.decreasing then (b - 1) - (c.1 - a) else c.1) wb wp (if c.2=.decreasing then .increasing else c.2)
theorem pdq_n {lt:Rw→Rw→Bool} {d:Array Rw} {a b limit:Nat} {wb wp:Bool} (h:¬ b - a≤12) (hl:¬ limit=0):Sort.pdq lt d a b limit wb wp=n2 lt (if !wb then Sort.breakPatterns d a b else d) a b (if !wb then limit - 1 else limit) wb wp:=by
 rw [Sort.pdq,if_neg h,if_neg hl];rfl
def P4 (lim n c a b l pv:Int) (wb wp:Bool):Array Rw:=n4 (ltU lim) (arrOf c n) a.toNat b.toNat l.toNat pv.toNat wb wp
def P3 (lim n c a b l pv:Int) (wb wp:Bool) (h:Sort.Hint):Array Rw:=n3 (ltU lim) (arrOf c n) a.toNat b.toNat l.toNat pv.toNat wb wp h
def P2 (lim n c a b l:Int) (wb wp:Bool):Array Rw:=n2 (ltU lim) (arrOf c n) a.toNat b.toNat l.toNat wb wp
theorem S0_ins (h:b - a≤12):pdqS lim n c a b l wb wp=arrOf (insU c n a b lim) n:=by
 rw [pdqS,Sort.pdq,if_pos (by omega),arr_ins]
theorem S0_hea (h:¬ b - a≤12) (h0:0≤a) (hl:l=0):pdqS lim n c a b l wb wp=arrOf (heaU c n a b lim) n:=by
 subst hl
 rw [pdqS,Sort.pdq,if_neg (by omega),if_pos (show Int.toNat 0=0 from rfl),arr_hea]
theorem S0_bal (h:¬ b - a≤12) (h0:0≤a) (hl:0 < l) (hw:wb=true):pdqS lim n c a b l wb wp=P2 lim n c a b l wb wp:=by
 subst hw
 rw [pdqS,pdq_n (by omega) (by omega)];rfl
theorem S0_brk (h:¬ b - a≤12) (h0:0≤a) (hl:0 < l) (hw:¬ wb=true):pdqS lim n c a b l wb wp=P2 lim n (brkU c n a b) a b (l+-1) wb wp:=by
 have hw:wb=false:=by simpa using hw
 subst hw
 rw [pdqS,pdq_n (by omega) (by omega),P2,arr_brk,show (l+-1).toNat=l.toNat - 1 by omega];rfl
theorem hint2 {h:Sort.Hint}:hintN h=2↔h=.decreasing:=by cases h<;>decide
theorem hint1 {h:Sort.Hint}:hintN h=1↔h=.increasing:=by cases h<;>decide
theorem P2_dec (h0:0≤a) (hm:a≤((min (chsU c n a b lim).1 1000:Nat):Int)) (hm2:((min (chsU c n a b lim).1 1000:Nat):Int) < b) (hb:b≤1000) (h:hintN (chsU c n a b lim).2=2) :
  P2 lim n c a b l wb wp=P3 lim n (revU c n a b) a b l (b+-1 - (((min (chsU c n a b lim).1 1000:Nat):Int) - a)) wb wp .increasing:=by
 rw [hint2] at h
 have e:min (chsU c n a b lim).1 1000=(chsU c n a b lim).1:=by omega
 rw [P3,arr_rev,P2,n2];try dsimp only
 rw [e] at hm hm2 ⊢
 unfold chsU at h hm hm2 ⊢
 rw [if_pos h,if_pos h,if_pos h];congr 1;omega
theorem P2_no (hb:b≤1000) (hm2:((min (chsU c n a b lim).1 1000:Nat):Int) < b) (h:¬ hintN (chsU c n a b lim).2=2) :
  P2 lim n c a b l wb wp=P3 lim n c a b l ((min (chsU c n a b lim).1 1000:Nat):Int) wb wp (chsU c n a b lim).2:=by
 rw [hint2] at h
 have e:min (chsU c n a b lim).1 1000=(chsU c n a b lim).1:=by omega
 rw [P3,P2,n2];try dsimp only
 rw [e]
 unfold chsU at h ⊢
 rw [if_neg h,if_neg h,if_neg h];rfl
section
variable {h:Sort.Hint}
theorem P3_done (hh:hintN h=1) (h1:wb=true) (h2:wp=true) (h3:(pinU c n a b lim).2=true):P3 lim n c a b l pv wb wp h=arrOf (codeOf (pinU c n a b lim).1) n:=by
 rw [hint1] at hh
 subst h1 h2 hh
 rw [P3,n3,arr_pin];unfold pinU at h3 ⊢;simp [h3]
theorem P3_go (hh:hintN h=1) (h1:wb=true) (h2:wp=true) (h3:¬ (pinU c n a b lim).2=true):P3 lim n c a b l pv wb wp h=P4 lim n (codeOf (pinU c n a b lim).1) a b l pv wb wp:=by
 rw [hint1] at hh
 subst h1 h2 hh
 rw [P3,n3,P4,arr_pin];unfold pinU at h3 ⊢;simp [h3]
theorem P3_wb (h1:¬ wb=true):P3 lim n c a b l pv wb wp h=P4 lim n c a b l pv wb wp:=by
 rw [P3,n3,P4];simp [h1]
theorem P3_wp (h1:¬ wp=true):P3 lim n c a b l pv wb wp h=P4 lim n c a b l pv wb wp:=by
 rw [P3,n3,P4];simp [h1]
theorem P3_unk (hh:¬ hintN h=1):P3 lim n c a b l pv wb wp h=P4 lim n c a b l pv wb wp:=by
 rw [hint1] at hh
 rw [P3,n3,P4];simp [hh]
end
section
variable (h0:0≤a) (hab:a < b) (hbn:b≤n) (hb:b≤1000) (hp:a≤pv) (hp2:pv < b)
include h0 hab hbn hb hp hp2
theorem P4_eq (ha:0 < a) (h:¬ ltC c lim (a+-1) pv) (hm:a < ((min (peqU c n a b pv lim).1 2000:Nat):Int)) (hm2:((min (peqU c n a b pv lim).1 2000:Nat):Int)≤b) :
  P4 lim n c a b l pv wb wp=pdqS lim n (codeOf (peqU c n a b pv lim).2) ((min (peqU c n a b pv lim).1 2000:Nat):Int) b l wb wp:=by
 have hl:=ltC_at (c:=c) (n:=n) (lim:=lim) (i:=a+-1) (j:=pv) (by omega) (by omega) (by omega) (by omega)
 rw [decide_eq_false h,show (a+-1).toNat=a.toNat - 1 by omega] at hl
 have e:min (peqU c n a b pv lim).1 2000=(peqU c n a b pv lim).1:=by omega
 rw [e] at hm hm2 ⊢
 rw [pdqS,arr_peq,P4,n4,hl,if_pos (by simp;omega)]
 unfold peqU at hm hm2 ⊢
 dsimp only
 rw [dif_pos (by omega)];rfl
theorem P4_no (h:¬ 0 < a∨ltC c lim (a+-1) pv) (hm:a≤((min (parU c n a b pv lim).1 1000:Nat):Int)) (hm2:((min (parU c n a b pv lim).1 1000:Nat):Int) < b) {m:Int} (e:m=((min (parU c n a b pv lim).1 1000:Nat):Int)) :
  P4 lim n c a b l pv wb wp=if m - a < b - m then pdqS lim n (pdqU (codeOf (parU c n a b pv lim).2.2) n a m l lim) (m+1) b l (decide ((b - a) / 8≤m - a)) (parU c n a b pv lim).2.1
   else pdqS lim n (pdqU (codeOf (parU c n a b pv lim).2.2) n (m+1) b l lim) a m l (decide ((b - a) / 8≤b - m)) (parU c n a b pv lim).2.1:=by
 have e':min (parU c n a b pv lim).1 1000=(parU c n a b pv lim).1:=by omega
 rw [e'] at hm hm2 e
 subst e
 have hl:¬ (decide (a.toNat > 0) && !ltU lim (arrOf c n)[a.toNat - 1]! (arrOf c n)[pv.toNat]!)=true:=by
  rcases h with h | h
  ·rw [show a.toNat=0 by omega];simp
  ·by_cases ha:0 < a
   ·have hl:=ltC_at (c:=c) (n:=n) (lim:=lim) (i:=a+-1) (j:=pv) (by omega) (by omega) (by omega) (by omega)
    rw [decide_eq_true h,show (a+-1).toNat=a.toNat - 1 by omega] at hl
    rw [hl];simp
   ·rw [show a.toNat=0 by omega];simp
 rw [P4,n4,if_neg hl]
 have es:((parU c n a b pv lim).1:Int).toNat=(parU c n a b pv lim).1:=Int.toNat_natCast _
 have es1:(((parU c n a b pv lim).1:Int)+1).toNat=(parU c n a b pv lim).1+1:=by omega
 rw [pdqS,pdqS,arr_pdq,arr_pdq,arr_par,es,es1]
 have d1:decide ((b - a) / 8≤((parU c n a b pv lim).1:Int) - a)=decide ((parU c n a b pv lim).1 - a.toNat ≥ (b.toNat - a.toNat) / 8):=by
  apply decide_eq_decide.2;omega
 have d2:decide ((b - a) / 8≤b - ((parU c n a b pv lim).1:Int))=decide (b.toNat - (parU c n a b pv lim).1 ≥ (b.toNat - a.toNat) / 8):=by
  apply decide_eq_decide.2;omega
 rw [d1,d2]
 have hk:(((parU c n a b pv lim).1:Int) - a < b - ((parU c n a b pv lim).1:Int))=((parU c n a b pv lim).1 - a.toNat < b.toNat - (parU c n a b pv lim).1):=by
  apply propext;omega
 simp only [hk]
 have hm':a.toNat≤(parU c n a b pv lim).1∧(parU c n a b pv lim).1 < b.toNat:=by omega
 unfold parU at hm' ⊢
 try dsimp only
 rw [dif_pos hm']
end
end
theorem dec_eq (b:Bool) (i:Decidable (b=true)):@decide (b=true) i=b:=by cases b<;>simp
end
end Go.Sx.Mhw
