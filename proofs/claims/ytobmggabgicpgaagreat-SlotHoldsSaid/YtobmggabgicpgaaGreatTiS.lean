/- Timers, as plain mathematics: a map's keys in the order in which they fire. -/
import Derived.Test.YtobmggabgicpgaaGreatSxCn
import Derived.Sort.AssemblyPlain
namespace Go.Sx.Ti
noncomputable section
set_option linter.unusedSimpArgs false
set_option linter.unusedVariables false
open Go Go.Sx
def fl (c:Int) (i f:Nat):Int:=IntKind.i64.wrap (gt c i f)
theorem fl_has (c:Int) (j f:Nat):-9223372036854775808≤fl c j f∧fl c j f≤9223372036854775807:=wrap_has .i64 _
def in64 (x:Int):Prop:=-9223372036854775808≤x∧x≤9223372036854775807
theorem fl_arr {n F:Nat} {g:Nat→Nat→Int} {j f:Nat} (hj:j < n) (hf:f < F) (h:in64 (g j f)):fl (arrC n F g) j f=g j f:=by
 unfold fl
 rw [gt_arrC,if_pos ⟨hj,hf⟩,wrap_in .i64 _ h.1 h.2]
theorem fl_set (c j f x:Int) (j' f':Nat):fl (setC c j f x) j' f'=if j'=j.toNat∧f'=f.toNat then IntKind.i64.wrap x else fl c j' f':=by
 unfold fl;rw [gt_setI];split<;>rfl
def mg (c x:Int):Int:=IntKind.i64.wrap (gt c (zig x) 0)
theorem mg_set {c x y:Int} (x':Int) (h:in64 y):mg (setM c x y) x'=if x'=x then y else mg c x':=by
 unfold mg;rw [gt_setM]
 by_cases hx:x'=x
 ·subst hx;rw [if_pos ⟨rfl,rfl⟩,if_pos rfl];exact wrap_in .i64 _ h.1 h.2
 ·rw [if_neg (fun hh=>hx (zig_inj hh.1)),if_neg hx];simp
def ltK (c x y:Int):Prop:=mg c x < mg c y∨(mg c x=mg c y∧x < y)
instance (c x y:Int):Decidable (ltK c x y):=by unfold ltK;infer_instance
def ltB (c x y:Int):Bool:=decide (ltK c x y)
theorem strict_eq {R:Int→Int→Prop} (ha:∀ x y,R x y→R y x→False):∀ {l l':List Int},l.Pairwise R→l'.Pairwise R→(∀ x,x∈l↔x∈l')→l=l'
 | [],[],_,_,_=>rfl
 | [],b::l',_,_,h=>absurd ((h b).2 (List.mem_cons_self ..)) (by simp)
 | a::l,[],_,_,h=>absurd ((h a).1 (List.mem_cons_self ..)) (by simp)
 | a::l,b::l',h1,h2,h=>by
   rw [List.pairwise_cons] at h1 h2
   have e:a=b:=by
    rcases List.mem_cons.1 ((h a).1 (List.mem_cons_self ..)) with e | h3
    ·exact e
    ·rcases List.mem_cons.1 ((h b).2 (List.mem_cons_self ..)) with e | h4
     ·exact e.symm
     ·exact (ha _ _ (h1.1 b h4) (h2.1 a h3)).elim
   subst e
   rw [strict_eq ha h1.2 h2.2 fun x=>?_]
   constructor
   ·intro hx
    rcases List.mem_cons.1 ((h x).1 (List.mem_cons_of_mem _ hx)) with e | h3
    ·subst e;exact (ha _ _ (h1.1 x hx) (h1.1 x hx)).elim
    ·exact h3
   ·intro hx
    rcases List.mem_cons.1 ((h x).2 (List.mem_cons_of_mem _ hx)) with e | h3
    ·subst e;exact (ha _ _ (h2.1 x hx) (h2.1 x hx)).elim
    ·exact h3
theorem ltK_asym {c x y:Int} (h1:ltK c x y) (h2:ltK c y x):False:=by unfold ltK at h1 h2;omega
theorem ltK_tot {c x y:Int} (h:x≠y):ltK c x y∨ltK c y x:=by unfold ltK;omega
theorem ltB_t {c x y:Int}:ltB c x y=true↔(mg c x < mg c y∨(mg c x=mg c y∧x < y)):=by unfold ltB;rw [decide_eq_true_eq];rfl
theorem ltB_f {c x y:Int}:ltB c x y=false↔¬ (mg c x < mg c y∨(mg c x=mg c y∧x < y)):=by unfold ltB;rw [decide_eq_false_iff_not];rfl
theorem ltB_swo (c:Int):Sort.SWO (ltB c) where
 irrefl x:=by rw [ltB_f];omega
 trans x y z h1 h2:=by rw [ltB_t] at *;omega
 ntrans x y z h1 h2:=by rw [ltB_f] at *;omega
def keysI (c:Int):List Int:=(keysN c).map uz
theorem mem_keysI {c x:Int}:x∈keysI c↔hasC c x=true:=by
 unfold keysI
 rw [List.mem_map]
 constructor
 ·rintro ⟨j,hj,rfl⟩
  unfold keysN at hj
  rw [List.mem_filter] at hj
  unfold hasC;rw [zig_uz];exact hj.2
 ·intro h
  refine ⟨zig x,?_,uz_zig x⟩
  unfold keysN
  rw [List.mem_filter,List.mem_range]
  refine ⟨Nat.lt_of_not_le fun hle=>?_,h⟩
  have h':prs c (zig x)=true:=h
  unfold prs at h'
  rw [gt_bd 1 hle] at h'
  cases h'
theorem keysI_nodup (c:Int):(keysI c).Nodup:=by
 unfold keysI
 refine List.Pairwise.map uz (fun a b h e=>h ?_) (List.Pairwise.filter _ List.nodup_range)
 rw [← zig_uz a,← zig_uz b,e]
theorem keysI_len (c:Int):((keysI c).length:Int)=lenC c:=by unfold keysI lenC;rw [List.length_map]
def KL (c:Int):List Int:=(keysI c).mergeSort fun x y=>!ltB c y x
theorem KL_perm (c:Int):(KL c).Perm (keysI c):=List.mergeSort_perm ..
theorem mem_KL {c x:Int}:x∈KL c↔hasC c x=true:=by rw [(KL_perm c).mem_iff,mem_keysI]
theorem KL_len (c:Int):((KL c).length:Int)=lenC c:=by rw [(KL_perm c).length_eq,keysI_len]
theorem KL_nodup (c:Int):(KL c).Nodup:=by rw [(KL_perm c).nodup_iff];exact keysI_nodup c
theorem KL_pw (c:Int):(KL c).Pairwise (ltK c):=by
 have h:=List.pairwise_mergeSort (le:=fun x y=>!ltB c y x) (fun x y z h1 h2=>by
  rw [Bool.not_eq_true',ltB_f] at *;omega) (fun x y=>by
  rw [Bool.or_eq_true,Bool.not_eq_true',Bool.not_eq_true',ltB_f,ltB_f];omega) (keysI c)
 have h2:=(KL_nodup c)
 refine (List.Pairwise.and h h2).imp fun {x y} ⟨h3,h4⟩=>?_
 simp only [ltB,Bool.not_eq_true',decide_eq_false_iff_not] at h3
 rcases ltK_tot (c:=c) h4 with h5 | h5
 ·exact h5
 ·exact absurd h5 h3
theorem KL_uniq {c:Int} {l:List Int} (h1:l.Pairwise (ltK c)) (h2:∀ x,x∈l↔hasC c x=true):l=KL c:=
 strict_eq (R:=ltK c) (fun _ _=>ltK_asym) h1 (KL_pw c) fun x=>by rw [h2,mem_KL]
def kinC (c:Int):Prop:=∀ x,hasC c x=true→in64 x
instance (c:Int):Decidable (kinC c):=Classical.propDecidable _
def kL (c:Int) (j:Nat):Int:=(KL c)[j]?.getD 0
def KS (c:Int):Int:=arrC (lenC c).toNat 1 fun j _=>kL c j
theorem kL_has {c:Int} {j:Nat} (h:(j:Int) < lenC c):hasC c (kL c j)=true:=by
 rw [← KL_len] at h
 have:j < (KL c).length:=by omega
 rw [← mem_KL];unfold kL;rw [List.getElem?_eq_getElem this];exact List.getElem_mem _
theorem kL_of {c x:Int} (h:hasC c x=true):∃ j:Nat,(j:Int) < lenC c∧kL c j=x:=by
 obtain ⟨j,hj⟩:=List.mem_iff_getElem?.1 (mem_KL.2 h)
 have:=(List.getElem?_eq_some_iff.1 hj).1
 exact ⟨j,by rw [← KL_len];omega,by unfold kL;rw [hj];rfl⟩
theorem kL_lt {c:Int} {i j:Nat} (hij:i < j) (h:(j:Int) < lenC c):ltK c (kL c i) (kL c j):=by
 rw [← KL_len] at h
 have h1:j < (KL c).length:=by omega
 have h2:i < (KL c).length:=by omega
 have:=(List.pairwise_iff_getElem.1 (KL_pw c)) i j h2 h1 hij
 unfold kL;rw [List.getElem?_eq_getElem h1,List.getElem?_eq_getElem h2];exact this
theorem fl_KS {c:Int} (hk:kinC c) {j:Nat} (h:(j:Int) < lenC c):fl (KS c) j 0=kL c j:=by
 unfold KS;rw [fl_arr (by omega) (by omega)];exact hk _ (kL_has h)
theorem lenC_nn (c:Int):0≤lenC c:=by unfold lenC;omega
def lst (a n:Int):List Int:=(List.range n.toNat).map fun j=>fl a j 0
def arrI (a n:Int):Array Int:=(lst a n).toArray
def srtI (a n c:Int):Array Int:=Sort.pdq (ltB c) (arrI a n) 0 n.toNat (Sort.bitsLen n.toNat) true true
def RS (a n c:Int):Int:=arrC n.toNat 1 fun j _=>(srtI a n c)[j]!
theorem lst_len (a n:Int):(lst a n).length=n.toNat:=by simp [lst]
theorem srtI_spec (a n c:Int):(srtI a n c).size=n.toNat∧(srtI a n c).toList.Perm (lst a n)∧Sort.SortedIn (ltB c) 0 n.toNat (srtI a n c):=by
 have hs:(arrI a n).size=n.toNat:=by simp [arrI,lst]
 obtain ⟨⟨h1,h2,h3⟩,h4⟩:=Sort.pdq_sorts (ltB c) (ltB_swo c) (arrI a n) 0 n.toNat (Sort.bitsLen n.toNat) true true (Nat.zero_le _) (by rw [hs];omega) (.inl rfl)
 rw [hs] at h1
 have h1:(srtI a n c).size=n.toNat:=h1
 refine ⟨h1,?_,h4⟩
 have e1:(srtI a n c).extract 0 n.toNat=srtI a n c:=by rw [← h1];exact Array.extract_size
 have e2:(arrI a n).extract 0 n.toNat=arrI a n:=by rw [← hs];exact Array.extract_size
 have h3:((srtI a n c).extract 0 n.toNat).toList.Perm ((arrI a n).extract 0 n.toNat).toList:=h3
 rw [e1,e2] at h3
 simpa [arrI] using h3
theorem RS_KS {a n c:Int} (hn:0≤n) (hd:∀ i j:Nat,i < j→(j:Int) < n→fl a i 0≠fl a j 0) (hm:∀ x,hasC c x=true↔∃ j:Nat,(j:Int) < n∧fl a j 0=x):n=lenC c∧∀ j:Nat,(j:Int) < n→fl (RS a n c) j 0=kL c j:=by
 obtain ⟨h1,h2,h3⟩:=srtI_spec a n c
 have hml:∀ x,x∈lst a n↔hasC c x=true:=fun x=>by
  rw [hm,lst,List.mem_map]
  constructor
  ·rintro ⟨j,hj,e⟩;rw [List.mem_range] at hj;exact ⟨j,by omega,e⟩
  ·rintro ⟨j,hj,e⟩;exact ⟨j,by rw [List.mem_range];omega,e⟩
 have hnd:(lst a n).Nodup:=by
  rw [List.Nodup,List.pairwise_iff_getElem]
  intro i j hi hj hij
  rw [lst_len] at hi hj
  simp only [lst,List.getElem_map,List.getElem_range]
  exact hd i j hij (by omega)
 have hpw:(srtI a n c).toList.Pairwise (ltK c):=by
  have hnd2:(srtI a n c).toList.Nodup:=by rw [h2.nodup_iff];exact hnd
  rw [List.Nodup] at hnd2
  rw [List.pairwise_iff_getElem] at hnd2 ⊢
  intro i j hi hj hij
  have hj':j < (srtI a n c).size:=by simpa using hj
  have hi':i < (srtI a n c).size:=by simpa using hi
  have h4:=h3 i j (Nat.zero_le _) hij (by omega)
  rw [getElem!_pos (srtI a n c) i hi',getElem!_pos (srtI a n c) j hj'] at h4
  have h5:=hnd2 i j hi hj hij
  simp only [Array.getElem_toList] at h5 ⊢
  simp only [ltB,decide_eq_false_iff_not] at h4
  rcases ltK_tot (c:=c) h5 with h6 | h6
  ·exact h6
  ·exact absurd h6 h4
 have hK:(srtI a n c).toList=KL c:=KL_uniq hpw fun x=>by rw [h2.mem_iff,hml]
 refine ⟨?_,fun j hj=>?_⟩
 ·rw [← KL_len,← hK];simp [h1];omega
 ·have hj':j < (srtI a n c).size:=by omega
  have hv:(srtI a n c)[j]! = kL c j:=by
   unfold kL;rw [← hK,getElem!_pos (srtI a n c) j hj'];simp [hj']
  unfold RS
  rw [fl_arr (by omega) (by omega) ?_]
  ·exact hv
  ·have:(srtI a n c)[j]! ∈ lst a n:=by
    rw [← h2.mem_iff,getElem!_pos (srtI a n c) j hj'];simp
   rw [lst,List.mem_map] at this
   obtain ⟨k,_,e⟩:=this
   rw [← e];exact fl_has a k 0
def fstR (P:Nat→Prop):Nat→Int
 | 0=>-1
 | n+1=>if 0≤fstR P n then fstR P n else @ite _ (P n) (Classical.propDecidable _) (n:Int) (-1)
theorem fstR_spec (P:Nat→Prop):∀ n:Nat,(fstR P n=-1∧∀ j,j < n→¬ P j)∨(∃ k:Nat,fstR P n=k∧k < n∧P k∧∀ j,j < k→¬ P j)
 | 0=>.inl ⟨rfl,fun j hj=>by omega⟩
 | n+1=>by
   rcases fstR_spec P n with ⟨h,hn⟩ | ⟨k,h,hk,hp,hn⟩
   ·unfold fstR
    rw [h,if_neg (by omega)]
    by_cases hp:P n
    ·rw [if_pos hp];exact .inr ⟨n,rfl,by omega,hp,hn⟩
    ·rw [if_neg hp]
     refine .inl ⟨rfl,fun j hj=>?_⟩
     by_cases e:j=n
     ·rw [e];exact hp
     ·exact hn j (by omega)
   ·unfold fstR
    rw [h,if_pos (by omega)]
    exact .inr ⟨k,rfl,by omega,hp,hn⟩
def fstI (P:Nat→Prop) (n:Int):Int:=fstR P n.toNat
theorem fstI_some {P:Nat→Prop} {n k:Int} (h0:0≤k) (hk:k < n) (hp:P k.toNat) (h:∀ j:Nat,(j:Int) < k→¬ P j):fstI P n=k:=by
 unfold fstI
 rcases fstR_spec P n.toNat with ⟨e,hn⟩ | ⟨i,e,hi,hpi,hn⟩
 ·exact absurd hp (hn k.toNat (by omega))
 ·rw [e]
  by_cases h1:(i:Int) < k
  ·exact absurd hpi (h i h1)
  ·by_cases h2:k < (i:Int)
   ·exact absurd hp (hn k.toNat (by omega))
   ·omega
theorem fstI_none {P:Nat→Prop} {n:Int} (h:∀ j:Nat,(j:Int) < n→¬ P j):fstI P n=-1:=by
 unfold fstI
 rcases fstR_spec P n.toNat with ⟨e,hn⟩ | ⟨i,e,hi,hpi,hn⟩
 ·exact e
 ·exact absurd hpi (h i (by omega))
theorem fstI_cases (P:Nat→Prop) (n:Int):(fstI P n=-1∧∀ j:Nat,(j:Int) < n→¬ P j)∨(0≤fstI P n∧fstI P n < n∧P (fstI P n).toNat∧∀ j:Nat,(j:Int) < fstI P n→¬ P j):=by
 unfold fstI
 rcases fstR_spec P n.toNat with ⟨e,hn⟩ | ⟨i,e,hi,hpi,hn⟩
 ·exact .inl ⟨e,fun j hj=>hn j (by omega)⟩
 ·rw [e];exact .inr ⟨by omega,by omega,by simpa using hpi,fun j hj=>hn j (by omega)⟩
def relO (c d o n:Int):Prop:=kinC c∧n=lenC c∧∀ j:Nat,(j:Int) < n→fl d (o.toNat+j) 0=kL c j∧fl d (o.toNat+j) 1=mg c (kL c j)
instance (c d o n:Int):Decidable (relO c d o n):=Classical.propDecidable _
def eqMC (c d:Int):Prop:=lenC c=lenC d∧∀ x,hasC c x=true→hasC d x=true∧mg c x=mg d x
instance (c d:Int):Decidable (eqMC c d):=Classical.propDecidable _
def sameI (a n b m:Int):Prop:=n=m∧∀ j:Nat,(j:Int) < n→fl a j 0=fl b j 0
instance (a n b m:Int):Decidable (sameI a n b m):=Classical.propDecidable _
theorem nodup_le:∀ {l l':List Int},l.Nodup→(∀ x∈l,x∈l')→l.length≤l'.length
 | [],_,_,_=>Nat.zero_le _
 | a::l,l',hn,hs=>by
   rw [List.nodup_cons] at hn
   have ha:=hs a (List.mem_cons_self ..)
   have ih:=nodup_le (l:=l) (l':=l'.erase a) hn.2 fun x hx=>by
    have hne:x≠a:=fun e=>hn.1 (e ▸ hx)
    exact (List.mem_erase_of_ne hne).2 (hs x (List.mem_cons_of_mem _ hx))
   rw [List.length_erase_of_mem ha] at ih
   have:=List.length_pos_of_mem ha
   simp only [List.length_cons];omega
def seenI (c s a n:Int):Prop:=(∀ x,hasC s x=true↔∃ j:Nat,(j:Int) < n∧fl a j 0=x)∧(∀ i j:Nat,i < j→(j:Int) < n→fl a i 0≠fl a j 0)∧∀ j:Nat,(j:Int) < n→hasC c (fl a j 0)=true
theorem seen_le {c s a n:Int} (h:seenI c s a n):n≤lenC c:=by
 obtain ⟨h1,h2,h3⟩:=h
 have hl:(lst a n).Nodup:=by
  rw [List.Nodup,List.pairwise_iff_getElem]
  intro i j hi hj hij
  rw [lst_len] at hi hj
  simp only [lst,List.getElem_map,List.getElem_range]
  exact h2 i j hij (by omega)
 have:=nodup_le (l':=KL c) hl fun x hx=>by
  rw [lst,List.mem_map] at hx
  obtain ⟨j,hj,e⟩:=hx
  rw [List.mem_range] at hj
  rw [mem_KL,← e];exact h3 j (by omega)
 rw [lst_len] at this
 rw [← KL_len];omega
theorem len0 {c:Int} (h:∀ y,hasC c y=true→hasC 0 y=true):lenC c=0:=by
 rw [← KL_len]
 cases e:KL c with
 | nil=>rfl
 | cons a l=>
   have:hasC c a=true:=by rw [← mem_KL,e];exact List.mem_cons_self ..
   have:=h a this
   rw [hasC_zero] at this;cases this
theorem w64_in (x:Int):in64 (IntKind.i64.wrap x):=wrap_has .i64 x
theorem w64_eq {x:Int} (h:in64 x):IntKind.i64.wrap x=x:=wrap_in .i64 x h.1 h.2
theorem fl_set0 (a j x:Int) (hx:in64 x) (j':Nat):fl (setC a j 0 x) j' 0=if j'=j.toNat then x else fl a j' 0:=by
 rw [fl_set]
 by_cases h:j'=j.toNat
 ·rw [if_pos ⟨h,rfl⟩,if_pos h,w64_eq hx]
 ·rw [if_neg (fun hh=>h hh.1),if_neg h]
theorem seen_1 {c k:Int} (hk:in64 k) (h:hasC c k=true):seenI c (setM 0 k 0) (setC 0 0 0 k) 1:=by
 refine ⟨fun x=>?_,fun i j hij hj=>by omega,fun j hj=>?_⟩
 ·rw [hasC_setM,hasC_zero]
  constructor
  ·intro hx
   by_cases e:x=k
   ·subst e;exact ⟨0,by omega,by rw [fl_set0 _ _ _ hk,if_pos (by simp)]⟩
   ·rw [if_neg e] at hx;cases hx
  ·rintro ⟨j,hj,e⟩
   have:j=0:=by omega
   subst this
   rw [fl_set0 _ _ _ hk,if_pos (by simp)] at e
   rw [if_pos e.symm]
 ·have:j=0:=by omega
  subst this
  rw [fl_set0 _ _ _ hk,if_pos (by simp)];exact h
theorem seen_suc {c s a n k:Int} (h:seenI c s a n) (h0:0≤n) (hk:in64 k) (hc:hasC c k=true) (hs:¬ hasC s k=true):seenI c (setM s k 0) (setC a n 0 k) (n+1):=by
 obtain ⟨h1,h2,h3⟩:=h
 have hr:∀ j:Nat,(j:Int) < n→fl (setC a n 0 k) j 0=fl a j 0:=fun j hj=>by rw [fl_set0 _ _ _ hk,if_neg (by omega)]
 have hl:fl (setC a n 0 k) n.toNat 0=k:=by rw [fl_set0 _ _ _ hk,if_pos rfl]
 refine ⟨fun x=>?_,fun i j hij hj=>?_,fun j hj=>?_⟩
 ·rw [hasC_setM]
  by_cases e:x=k
  ·subst e;rw [if_pos rfl];exact ⟨fun _=>⟨n.toNat,by omega,hl⟩,fun _=>rfl⟩
  ·rw [if_neg e,h1]
   constructor
   ·rintro ⟨j,hj,e2⟩;exact ⟨j,by omega,by rw [hr j hj];exact e2⟩
   ·rintro ⟨j,hj,e2⟩
    by_cases hjn:(j:Int) < n
    ·exact ⟨j,hjn,by rw [← hr j hjn];exact e2⟩
    ·have:j=n.toNat:=by omega
     subst this;rw [hl] at e2;exact absurd e2.symm e
 ·by_cases hjn:(j:Int) < n
  ·rw [hr i (by omega),hr j hjn];exact h2 i j hij hjn
  ·have:j=n.toNat:=by omega
   subst this
   rw [hr i (by omega),hl]
   exact fun e=>hs ((h1 k).2 ⟨i,by omega,e⟩)
 ·by_cases hjn:(j:Int) < n
  ·rw [hr j hjn];exact h3 j hjn
  ·have:j=n.toNat:=by omega
   subst this;rw [hl];exact hc
theorem seen_end {c s a n:Int} (h:seenI c s a n) (h0:0≤n) (hk:kinC c) (ha:∀ y,hasC c y=true→hasC s y=true):n=lenC c∧∀ j:Nat,(j:Int) < n→fl (RS a n c) j 0=fl (KS c) j 0:=by
 obtain ⟨h1,h2,h3⟩:=h
 obtain ⟨e1,e2⟩:=RS_KS (c:=c) h0 h2 fun x=>⟨fun hx=>(h1 x).1 (ha x hx),fun ⟨j,hj,e⟩=>e ▸ h3 j hj⟩
 exact ⟨e1,fun j hj=>by rw [e2 j hj,fl_KS hk (by omega)]⟩
def frdI (c a i now:Int):Prop:=∀ j:Nat,(j:Int) < i→fl a j 0=kL c j∧mg c (kL c j)≤now
theorem frd_1 {c x now:Int} (hx:in64 x) (e:x=kL c 0) (h:mg c x≤now):frdI c (setC 0 0 0 x) 1 now:=fun j hj=>by
 have:j=0:=by omega
 subst this
 rw [fl_set0 _ _ _ hx,if_pos (by simp),← e];exact ⟨rfl,h⟩
theorem frd_suc {c a i x now:Int} (h:frdI c a i now) (h0:0≤i) (hx:in64 x) (e:x=kL c i.toNat) (hd:mg c x≤now):frdI c (setC a i 0 x) (i+1) now:=fun j hj=>by
 rw [fl_set0 _ _ _ hx]
 by_cases hj':(j:Int) < i
 ·rw [if_neg (by omega)];exact h j hj'
 ·have:j=i.toNat:=by omega
  subst this;rw [if_pos rfl,← e];exact ⟨rfl,hd⟩
end
end Go.Sx.Ti
