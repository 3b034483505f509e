/- Slots: those that are late, plain. -/
import Derived.Test.YtobmggabgicpgaaGreatSlS
namespace Go.Sx.Sl
set_option linter.unusedSimpArgs false
set_option linter.unusedVariables false
open Go Go.Sx Go.Sx.Ti
def armI (c v i:Int):Prop:=lenC v≤i∧∀ x,(hasC v x=true↔0≤x∧x < i∧fl c x.toNat 1=1∧0 < fl c x.toNat 4)∧(hasC v x=true→mg v x=fl c x.toNat 4)
theorem arm_0 (c:Int):armI c 0 0:=by
 have e:∀ x,hasC 0 x=false:=hasC_zero
 refine ⟨?_,fun x=>⟨⟨fun h=>(by rw [e] at h;cases h),fun h=>(by omega)⟩,fun h=>(by rw [e] at h;cases h)⟩⟩
 have:=@len0 0 (fun y h=>h);omega
theorem arm_skip {c v i:Int} (h:armI c v i) (h0:0≤i) (hn:¬ (fl c i.toNat 1=1∧0 < fl c i.toNat 4)):armI c v (i+1):=by
 refine ⟨by have:=h.1;omega,fun x=>⟨?_,(h.2 x).2⟩⟩
 rw [(h.2 x).1]
 constructor
 ·rintro ⟨h1,h2,h3⟩;exact ⟨h1,by omega,h3⟩
 ·rintro ⟨h1,h2,h3⟩
  refine ⟨h1,?_,h3⟩
  have:x≠i:=fun e=>hn (e ▸ h3)
  omega
theorem arm_set {c v i:Int} (h:armI c v i) (h0:0≤i) (hs:fl c i.toNat 1=1) (hd:0 < fl c i.toNat 4):armI c (setM v i (fl c i.toNat 4)) (i+1):=by
 refine ⟨?_,fun x=>?_⟩
 ·rw [lenC_setM];have:=h.1;split<;>omega
 ·rw [hasC_setM,mg_set x (fl_has c i.toNat 4)]
  by_cases e:x=i
  ·subst e;rw [if_pos rfl,if_pos rfl];exact ⟨⟨fun _=>⟨h0,by omega,hs,hd⟩,fun _=>rfl⟩,fun _=>rfl⟩
  ·rw [if_neg e,if_neg e]
   refine ⟨?_,(h.2 x).2⟩
   rw [(h.2 x).1]
   constructor
   ·rintro ⟨h1,h2,h3⟩;exact ⟨h1,by omega,h3⟩
   ·rintro ⟨h1,h2,h3⟩;exact ⟨h1,by omega,h3⟩
theorem arm_kin {c v i:Int} (h:armI c v i) (hi:i≤64):kinC v:=fun x hx=>by
 have:=((h.2 x).1).1 hx;unfold in64;omega
theorem arm_no {c v i:Int} (h:armI c v i):¬ hasC v i=true:=fun hx=>by have:=((h.2 i).1).1 hx;omega
theorem arm_key {c v n:Int} (h:armI c v n) {j:Nat} (hj:(j:Int) < lenC v):0≤kL v j∧kL v j < n∧fl c (kL v j).toNat 1=1∧0 < fl c (kL v j).toNat 4∧mg v (kL v j)=fl c (kL v j).toNat 4:=by
 have hk:=kL_has hj
 have h1:=((h.2 _).1).1 hk
 exact ⟨h1.1,h1.2.1,h1.2.2.1,h1.2.2.2,(h.2 _).2 hk⟩
theorem late_take {c v n now j:Int} (h:armI c v n) (hn:n≤64) (hd:∀ k:Nat,(k:Int) < n→fl c k 1=1→0≤fl c k 4) (h0:0≤j) (hj:j≤lenC v) (hb:∀ t:Nat,(t:Int) < j→mg v (kL v t)≤now) (he:j < lenC v→¬ mg v (kL v j.toNat)≤now):lateL c (min n 64) now=(KL v).take j.toNat:=by
 rw [Int.min_eq_left hn]
 have hlen:=KL_len v
 have hget:∀ t:Nat,(t:Int) < j→(KL v)[t]? = some (kL v t):=fun t ht=>by
  have:t < (KL v).length:=by omega
  unfold kL;rw [List.getElem?_eq_getElem this];rfl
 have hmem:∀ x,x∈(KL v).take j.toNat↔∃ t:Nat,(t:Int) < j∧kL v t=x:=fun x=>by
  rw [List.mem_iff_getElem?]
  constructor
  ·rintro ⟨t,ht⟩
   rw [List.getElem?_take] at ht
   split at ht
   ·rename_i hlt
    refine ⟨t,by omega,?_⟩
    rw [hget t (by omega)] at ht;exact Option.some.inj ht
   ·cases ht
  ·rintro ⟨t,ht,e⟩
   refine ⟨t,?_⟩
   rw [List.getElem?_take,if_pos (by omega),hget t ht,e]
 refine (lateL_uniq (l:=(KL v).take j.toNat) ?_ fun x=>?_).symm
 ·refine ((KL_pw v).sublist (List.take_sublist ..)).imp_of_mem fun {x y} hx hy hl=>?_
  obtain ⟨t,ht,rfl⟩:=(hmem x).1 hx
  obtain ⟨u,hu,rfl⟩:=(hmem y).1 hy
  have k1:=(arm_key h (j:=t) (by omega)).2.2.2.2
  have k2:=(arm_key h (j:=u) (by omega)).2.2.2.2
  unfold ltK at hl;unfold ltL;rw [← k1,← k2];exact hl
 ·rw [hmem]
  constructor
  ·rintro ⟨t,ht,rfl⟩
   obtain ⟨k1,k2,k3,k4,k5⟩:=arm_key h (j:=t) (by omega)
   have:=hb t ht
   exact ⟨k1,k2,k3,by omega,by omega⟩
  ·rintro ⟨h1,h2,h3,h4,h5⟩
   have h6:=hd x.toNat (by omega) h3
   have hx:hasC v x=true:=((h.2 x).1).2 ⟨h1,h2,h3,by omega⟩
   obtain ⟨t,ht,rfl⟩:=kL_of hx
   refine ⟨t,?_,rfl⟩
   refine Int.lt_of_not_ge fun hge=>?_
   have hlt:j < lenC v:=by omega
   have:=he hlt
   have hle:mg v (kL v j.toNat)≤mg v (kL v t):=by
    by_cases e:j.toNat=t
    ·rw [e];exact Int.le_refl _
    ·have:=kL_lt (c:=v) (i:=j.toNat) (j:=t) (by omega) ht
     unfold ltK at this;omega
   have:=(h.2 _).2 hx
   omega
theorem late_N {c v n now j:Int} (h:armI c v n) (hn:n≤64) (hd:∀ k:Nat,(k:Int) < n→fl c k 1=1→0≤fl c k 4) (h0:0≤j) (hj:j≤lenC v) (hb:∀ t:Nat,(t:Int) < j→mg v (kL v t)≤now) (he:j < lenC v→¬ mg v (kL v j.toNat)≤now):latN c n now=j∧(∀ t:Nat,(t:Int) < j→lateI c n now t=kL v t):=by
 have e:=late_take h hn hd h0 hj hb he
 have hlen:=KL_len v
 refine ⟨?_,fun t ht=>?_⟩
 ·unfold latN;rw [e,List.length_take];omega
 ·unfold lateI;rw [e,List.getElem?_take,if_pos (by omega)];rfl
theorem late_iff {c n now:Int} (hn:n≤64) {k:Nat} (hk:(k:Int) < n):lateP c now k↔∃ t:Nat,(t:Int) < latN c n now∧lateI c n now t=k:=by
 have:=@mem_lateL c (min n 64) now k
 constructor
 ·intro h
  have h1:=this.2 ⟨by omega,by omega,by simpa using h⟩
  obtain ⟨t,ht⟩:=List.mem_iff_getElem?.1 h1
  have:=(List.getElem?_eq_some_iff.1 ht).1
  exact ⟨t,by unfold latN;omega,by unfold lateI;rw [ht];rfl⟩
 ·rintro ⟨t,ht,e⟩
  have h1:=lateI_mem ht
  rw [e] at h1
  simpa using (this.1 h1).2.2
noncomputable def latS (o i u:Int):Int:=setC (setC (setC (setC (setC (setC (setC (setC o i 0 u) i 1 5) i 2 0) i 3 0) i 4 0) i 5 0) i 6 0) i 7 0
theorem fl_latS {o i u:Int} (hu:in64 u) (k:Nat) {f:Nat} (hf:f < 7):fl (latS o i u) k f=if k=i.toNat then (if f=0 then u else if f=1 then 5 else 0) else fl o k f:=by
 unfold latS
 rw [fl_set,fl_set,fl_set,fl_set,fl_set,fl_set,fl_set,fl_set]
 have w0:IntKind.i64.wrap 0=0:=by decide
 have w5:IntKind.i64.wrap 5=5:=by decide
 have wu:=w64_eq hu
 have t:∀ n:Nat,((n:Nat):Int).toNat=n:=fun n=>by omega
 by_cases e:k=i.toNat
 ·simp only [e,true_and,if_true]
  match f,hf with
  | 0,_=>simp [wu]
  | 1,_=>simp [w5]
  | 2,_=>simp [w0]
  | 3,_=>simp [w0]
  | 4,_=>simp [w0]
  | 5,_=>simp [w0]
  | 6,_=>simp [w0]
  | f+7,h=>omega
 ·simp only [e,false_and,if_false]
theorem flu_latS {o i u:Int} (k:Nat):flu (latS o i u) k 7=if k=i.toNat then 0 else flu o k 7:=by
 unfold latS
 rw [flu_set,flu_set,flu_set,flu_set,flu_set,flu_set,flu_set,flu_set]
 have w0:IntKind.u64.wrap 0=0:=by decide
 by_cases e:k=i.toNat
 ·simp [e,w0]
 ·simp only [e,false_and,if_false]
def outI (c o:Int) (g:Nat→Int) (j:Int):Prop:=∀ k:Nat,(∀ f:Nat,f < 7→fl o k f=@ite _ (∃ t:Nat,(t:Int) < j∧g t=k) (Classical.propDecidable _) (if f=0 then fl c k 0 else if f=1 then 5 else 0) (fl c k f))∧flu o k 7=@ite _ (∃ t:Nat,(t:Int) < j∧g t=k) (Classical.propDecidable _) 0 (flu c k 7)
theorem out_0 (c:Int) (g:Nat→Int):outI c c g 0:=fun k=>by
 have:¬ ∃ t:Nat,(t:Int) < 0∧g t=k:=by rintro ⟨t,h,_⟩;omega
 exact ⟨fun f _=>by rw [if_neg this],by rw [if_neg this]⟩
theorem out_suc {c o j:Int} {g:Nat→Int} (h:outI c o g j) (h0:0≤j) {x u:Int} (hx:x=g j.toNat) (hx0:0≤x) (hu:u=fl c x.toNat 0):outI c (latS o x u) g (j+1):=fun k=>by
 have hin:in64 u:=by rw [hu];exact fl_has _ _ _
 have hk:(∃ t:Nat,(t:Int) < j+1∧g t=k)↔k=x.toNat∨∃ t:Nat,(t:Int) < j∧g t=k:=by
  constructor
  ·rintro ⟨t,h1,h2⟩
   by_cases e:(t:Int) < j
   ·exact .inr ⟨t,e,h2⟩
   ·have:t=j.toNat:=by omega
    subst this;left;omega
  ·rintro (e | ⟨t,h1,h2⟩)
   ·exact ⟨j.toNat,by omega,by omega⟩
   ·exact ⟨t,by omega,h2⟩
 refine ⟨fun f hf=>?_,?_⟩
 ·rw [fl_latS hin k hf,(h k).1 f hf]
  by_cases e:k=x.toNat
  ·rw [if_pos e,if_pos (hk.2 (.inl e)),hu,e]
  ·rw [if_neg e]
   by_cases e2:∃ t:Nat,(t:Int) < j∧g t=k
   ·rw [if_pos e2,if_pos (hk.2 (.inr e2))]
   ·rw [if_neg e2,if_neg (fun hh=>(hk.1 hh).elim e e2)]
 ·rw [flu_latS,(h k).2]
  by_cases e:k=x.toNat
  ·rw [if_pos e,if_pos (hk.2 (.inl e))]
  ·rw [if_neg e]
   by_cases e2:∃ t:Nat,(t:Int) < j∧g t=k
   ·rw [if_pos e2,if_pos (hk.2 (.inr e2))]
   ·rw [if_neg e2,if_neg (fun hh=>(hk.1 hh).elim e e2)]
theorem out_end {c o n now:Int} {g:Nat→Int} (hn:n≤64) (h:outI c o g (latN c n now)) (hg:∀ t:Nat,(t:Int) < latN c n now→lateI c n now t=g t):eqR (latC c n now) o n:=fun k hk=>by
 have e:lateP c now k↔∃ t:Nat,(t:Int) < latN c n now∧g t=k:=by
  rw [late_iff hn hk]
  constructor
  ·rintro ⟨t,h1,h2⟩;exact ⟨t,h1,by rw [← hg t h1];exact h2⟩
  ·rintro ⟨t,h1,h2⟩;exact ⟨t,h1,by rw [hg t h1];exact h2⟩
 refine ⟨fun f hf=>?_,?_⟩
 ·rw [fl_latC hk hf,(h k).1 f hf]
  by_cases hp:lateP c now k
  ·rw [if_pos hp,if_pos (e.1 hp)]
  ·rw [if_neg hp,if_neg (fun hh=>hp (e.2 hh))]
 ·rw [flu_latC hk,(h k).2]
  by_cases hp:lateP c now k
  ·rw [if_pos hp,if_pos (e.1 hp)]
  ·rw [if_neg hp,if_neg (fun hh=>hp (e.2 hh))]
def rowL (c o i now:Int):Prop:=∀ k:Nat,(∀ f:Nat,f < 7→fl o k f=@ite _ ((k:Int) < i∧lateP c now k) (Classical.propDecidable _) (if f=0 then fl c k 0 else if f=1 then 5 else 0) (fl c k f))∧flu o k 7=@ite _ ((k:Int) < i∧lateP c now k) (Classical.propDecidable _) 0 (flu c k 7)
end Go.Sx.Sl
