/- Slots, as plain mathematics. -/
import Derived.Test.YtobmggabgicpgaaGreatTiS
namespace Go.Sx.Sl
noncomputable section
set_option linter.unusedSimpArgs false
set_option linter.unusedVariables false
open Go Go.Sx Go.Sx.Ti
def flu (c:Int) (i f:Nat):Int:=IntKind.u64.wrap (gt c i f)
theorem flu_has (c:Int) (j f:Nat):0≤flu c j f∧flu c j f≤18446744073709551615:=wrap_has .u64 _
theorem flu_set (c j f x:Int) (j' f':Nat):flu (setC c j f x) j' f'=if j'=j.toNat∧f'=f.toNat then IntKind.u64.wrap x else flu c j' f':=by
 unfold flu;rw [gt_setI];split<;>rfl
def mayA (u k m p d:Int):Prop:=0≤u∧u≤1099511627776∧0≤k∧k≤5∧(k=0↔u=0)∧(k=1∨k=2→1≤m∧m≤5∧0≤p∧p≤3)∧(¬ (k=1∨k=2)→m=0∧p=0)∧(k=1→0≤d∧d≤1099511627776)∧(k≠1→d=0)
def mayB (k v f w:Int):Prop:=(k=2→f≤v∧w≤4611686018427387904)∧(k≠2→v=0∧f=0∧w=0)
instance (u k m p d:Int):Decidable (mayA u k m p d):=Classical.propDecidable _
instance (k v f w:Int):Decidable (mayB k v f w):=Classical.propDecidable _
def mayR (c:Int) (j:Nat):Prop:=mayA (fl c j 0) (fl c j 1) (fl c j 2) (fl c j 3) (fl c j 4)∧mayB (fl c j 1) (fl c j 5) (fl c j 6) (flu c j 7)
def badI (c n:Int):Int:=fstI (fun j=>¬ mayR c j) (min n 64)
def freI (c n:Int):Int:=fstI (fun j=>fl c j 1≠1∧fl c j 1≠2∧fl c j 0 < 1099511627776) (min n 64)
def shpS (a b d:Int):Prop:=1≤a∧a≤64∧1≤b∧b≤8∧1≤d∧d≤4
instance (a b d:Int):Decidable (shpS a b d):=Classical.propDecidable _
def rgtS (c n:Int):Prop:=∀ j:Nat,(j:Int) < n→mayR c j
instance (c n:Int):Decidable (rgtS c n):=Classical.propDecidable _
theorem fst_in (P:Nat→Prop) (n:Int) (h:n≤64):-1≤fstI P n∧fstI P n≤63:=by
 rcases fstI_cases P n with ⟨e,_⟩ | ⟨e1,e2,_⟩<;>omega
theorem badI_in (c n:Int):-1≤badI c n∧badI c n≤63:=fst_in _ _ (by omega)
theorem freI_in (c n:Int):-1≤freI c n∧freI c n≤63:=fst_in _ _ (by omega)
def chkI (c n a b d:Int):Int:=@ite _ (shpS a b d∧n=d∧badI c n < 0) (Classical.propDecidable _) 0 2
theorem bad_some {c n i:Int} (hn:n≤64) (h0:0≤i) (hi:i < n) (hp:¬ mayR c i.toNat) (h:∀ j:Nat,(j:Int) < i→mayR c j):badI c n=i:=by
 unfold badI;rw [Int.min_eq_left hn];exact fstI_some h0 hi hp (fun j hj hh=>hh (h j hj))
theorem bad_none {c n:Int} (hn:n≤64) (h:∀ j:Nat,(j:Int) < n→mayR c j):badI c n=-1:=by
 unfold badI;rw [Int.min_eq_left hn];exact fstI_none (fun j hj hh=>hh (h j hj))
theorem may_suc {c i:Int} (h:∀ j:Nat,(j:Int) < i→mayR c j) (h0:0≤i) (e:mayR c i.toNat):∀ j:Nat,(j:Int) < i+1→mayR c j:=fun j hj=>by
 by_cases hj':(j:Int) < i
 ·exact h j hj'
 ·have:j=i.toNat:=by omega
  subst this;exact e
theorem chk_0 {c n a b d:Int} (h1:shpS a b d) (h2:n=d) (h3:badI c n < 0):chkI c n a b d=0:=by unfold chkI;rw [if_pos ⟨h1,h2,h3⟩]
theorem chk_2 {c n a b d:Int} (h:¬ (shpS a b d∧n=d∧badI c n < 0)):chkI c n a b d=2:=by unfold chkI;rw [if_neg h]
def sameS (c n d m:Int):Prop:=n=m∧∀ j:Nat,(j:Int) < n→(∀ f:Nat,f < 7→fl c j f=fl d j f)∧flu c j 7=flu d j 7
instance (c n d m:Int):Decidable (sameS c n d m):=Classical.propDecidable _
def eqR (c d n:Int):Prop:=∀ j:Nat,(j:Int) < n→(∀ f:Nat,f < 7→fl c j f=fl d j f)∧flu c j 7=flu d j 7
def lateP (c now:Int) (j:Nat):Prop:=fl c j 1=1∧fl c j 4≠0∧fl c j 4≤now
instance (c now:Int) (j:Nat):Decidable (lateP c now j):=Classical.propDecidable _
def ltL (c x y:Int):Prop:=fl c x.toNat 4 < fl c y.toNat 4∨(fl c x.toNat 4=fl c y.toNat 4∧x < y)
instance (c x y:Int):Decidable (ltL c x y):=by unfold ltL;infer_instance
theorem ltL_asym {c x y:Int} (h1:ltL c x y) (h2:ltL c y x):False:=by unfold ltL at h1 h2;omega
theorem ltL_tot {c x y:Int} (h:x≠y):ltL c x y∨ltL c y x:=by unfold ltL;omega
def lateM (c n now:Int):List Int:=(((List.range n.toNat).filter fun j=>decide (lateP c now j)).map Int.ofNat)
def lateL (c n now:Int):List Int:=(lateM c n now).mergeSort fun x y=>!decide (ltL c y x)
theorem mem_lateM {c n now x:Int}:x∈lateM c n now↔0≤x∧x < n∧lateP c now x.toNat:=by
 unfold lateM
 simp only [List.mem_map,List.mem_filter,List.mem_range,decide_eq_true_eq]
 constructor
 ·rintro ⟨j,⟨h1,h2⟩,rfl⟩
  simp only [Int.ofNat_eq_natCast,Int.toNat_natCast]
  exact ⟨by omega,by omega,h2⟩
 ·rintro ⟨h1,h2,h3⟩
  exact ⟨x.toNat,⟨by omega,h3⟩,by simp;omega⟩
theorem lateM_nodup (c n now:Int):(lateM c n now).Nodup:=by
 unfold lateM
 exact List.Pairwise.map Int.ofNat (fun a b h e=>h (Int.ofNat.inj e)) (List.Pairwise.filter _ List.nodup_range)
theorem lateM_len (c n now:Int):(lateM c n now).length≤n.toNat:=by
 unfold lateM
 rw [List.length_map]
 exact Nat.le_trans (List.length_filter_le ..) (by simp)
theorem lateL_perm (c n now:Int):(lateL c n now).Perm (lateM c n now):=List.mergeSort_perm ..
theorem mem_lateL {c n now x:Int}:x∈lateL c n now↔0≤x∧x < n∧lateP c now x.toNat:=by rw [(lateL_perm c n now).mem_iff,mem_lateM]
theorem lateL_pw (c n now:Int):(lateL c n now).Pairwise (ltL c):=by
 have h:=List.pairwise_mergeSort (le:=fun x y=>!decide (ltL c y x)) (fun x y z h1 h2=>by
  simp only [Bool.not_eq_true',decide_eq_false_iff_not] at *;unfold ltL at *;omega) (fun x y=>by
  simp only [Bool.or_eq_true,Bool.not_eq_true',decide_eq_false_iff_not];unfold ltL;omega) (lateM c n now)
 have h2:(lateL c n now).Nodup:=by rw [(lateL_perm c n now).nodup_iff];exact lateM_nodup c n now
 refine (List.Pairwise.and h h2).imp fun {x y} ⟨h3,h4⟩=>?_
 simp only [Bool.not_eq_true',decide_eq_false_iff_not] at h3
 rcases ltL_tot (c:=c) h4 with h5 | h5
 ·exact h5
 ·exact absurd h5 h3
theorem lateL_uniq {c n now:Int} {l:List Int} (h1:l.Pairwise (ltL c)) (h2:∀ x,x∈l↔0≤x∧x < n∧lateP c now x.toNat):l=lateL c n now:=
 strict_eq (R:=ltL c) (fun _ _=>ltL_asym) h1 (lateL_pw c n now) fun x=>by rw [h2,mem_lateL]
def latN (c n now:Int):Int:=(lateL c (min n 64) now).length
theorem latN_in (c n now:Int):0≤latN c n now∧latN c n now≤64:=by
 unfold latN
 have h1:=(lateL_perm c (min n 64) now).length_eq
 have h2:=lateM_len c (min n 64) now
 omega
def lateI (c n now:Int) (j:Nat):Int:=(lateL c (min n 64) now)[j]?.getD 0
def latW (c n now:Int):Int:=arrC (latN c n now).toNat 1 fun j _=>lateI c n now j
def latG (c n now:Int) (j f:Nat):Int:=if lateP c now j then (if f=0 then fl c j 0 else if f=1 then 5 else 0) else if f=7 then flu c j 7 else fl c j f
def latC (c n now:Int):Int:=arrC n.toNat 8 (latG c n now)
theorem lateI_mem {c n now:Int} {j:Nat} (h:(j:Int) < latN c n now):lateI c n now j∈lateL c (min n 64) now:=by
 have h':j < (lateL c (min n 64) now).length:=by unfold latN at h;omega
 unfold lateI;rw [List.getElem?_eq_getElem h'];exact List.getElem_mem _
theorem lateI_spec {c n now:Int} {j:Nat} (h:(j:Int) < latN c n now):0≤lateI c n now j∧lateI c n now j < min n 64∧lateP c now (lateI c n now j).toNat:=mem_lateL.1 (lateI_mem h)
theorem fl_latW {c n now:Int} {j:Nat} (h:(j:Int) < latN c n now):fl (latW c n now) j 0=lateI c n now j:=by
 have:=lateI_spec h
 unfold latW;rw [fl_arr (by omega) (by omega)];unfold in64;omega
theorem fl_latC {c n now:Int} {j f:Nat} (h:(j:Int) < n) (hf:f < 7):fl (latC c n now) j f=if lateP c now j then (if f=0 then fl c j 0 else if f=1 then 5 else 0) else fl c j f:=by
 unfold latC
 have h0:=fl_has c j 0
 have h1:=fl_has c j f
 rw [fl_arr (by omega) (by omega)]
 ·unfold latG;rw [if_neg (show ¬ f=7 by omega)]
 ·unfold latG in64;rw [if_neg (show ¬ f=7 by omega)];repeat' split
  all_goals omega
theorem flu_latC {c n now:Int} {j:Nat} (h:(j:Int) < n):flu (latC c n now) j 7=if lateP c now j then 0 else flu c j 7:=by
 unfold latC
 conv=>lhs;unfold flu
 rw [gt_arrC,if_pos ⟨by omega,by omega⟩]
 unfold latG
 have h0:=flu_has c j 7
 split
 ·simp only [if_neg (show ¬ (7:Nat)=0 by decide),if_neg (show ¬ (7:Nat)=1 by decide)];exact wrap_in .u64 _ (by decide) (by decide)
 ·rw [if_pos rfl];exact wrap_in .u64 _ h0.1 h0.2
end
end Go.Sx.Sl
