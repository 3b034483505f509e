/- Timers, as plain mathematics: the map and the document's list go together. -/
import Derived.Test.YtkhklaomjcgjcaaTiT
namespace Go.Sx.Ti
set_option linter.unusedSimpArgs false
set_option linter.unusedVariables false
open Go Go.Sx
theorem KL_fn {c:Int} {n:Nat} (g:Nat→Int) (h1:∀ i j,i < j→j < n→ltK c (g i) (g j)) (h2:∀ x,hasC c x=true↔∃ j,j < n∧g j=x):lenC c=n∧∀ j,j < n→kL c j=g j:=by
 have hl:(List.range n).map g=KL c:=KL_uniq (by
  rw [List.pairwise_iff_getElem]
  intro i j hi hj hij
  simp only [List.length_map,List.length_range] at hi hj
  simp only [List.getElem_map,List.getElem_range]
  exact h1 i j hij hj) (fun x=>by
  rw [h2,List.mem_map]
  constructor
  ·rintro ⟨j,hj,e⟩;exact ⟨j,List.mem_range.1 hj,e⟩
  ·rintro ⟨j,hj,e⟩;exact ⟨j,List.mem_range.2 hj,e⟩)
 refine ⟨?_,fun j hj=>?_⟩
 ·rw [← KL_len,← hl];simp
 ·unfold kL;rw [← hl];simp [hj]
def relE (c e n:Int):Prop:=kinC c∧n=lenC c∧∀ j:Nat,(j:Int) < n→fl e j 0=kL c j∧fl e j 1=mg c (kL c j)
theorem relO_0 {c e n:Int}:relO c e 0 n↔relE c e n:=by
 unfold relO relE
 simp only [Int.toNat_zero,Nat.zero_add]
theorem kL_inj {c:Int} {i j:Nat} (hi:(i:Int) < lenC c) (hj:(j:Int) < lenC c) (e:kL c i=kL c j):i=j:=by
 rcases Nat.lt_trichotomy i j with h | h | h
 ·have:=kL_lt h hj;rw [e] at this;exact (ltK_asym this this).elim
 ·exact h
 ·have:=kL_lt h hi;rw [e] at this;exact (ltK_asym this this).elim
theorem rm_spec {c:Int}:∀ m:Nat,(m:Int)≤lenC c→(∀ x,hasC (rmN c m) x=true↔hasC c x=true∧∀ j:Nat,j < m→kL c j≠x)∧∀ x,(∀ j:Nat,j < m→kL c j≠x)→mg (rmN c m) x=mg c x
 | 0,_=>by
   refine ⟨fun x=>?_,fun x _=>rfl⟩
   constructor
   ·intro h
    exact ⟨h,fun j hj=>absurd hj (Nat.not_lt_zero _)⟩
   ·intro h
    exact h.1
 | m+1,hm=>by
   obtain ⟨i1,i2⟩:=rm_spec (c:=c) m (by omega)
   refine ⟨fun x=>?_,fun x hx=>?_⟩
   ·show hasC (delM (rmN c m) (kL c m)) x=true↔_
    rw [hasC_delM]
    by_cases e:x=kL c m
    ·rw [if_pos e];exact ⟨fun h=>(by cases h),fun h=>absurd e.symm (h.2 m (by omega))⟩
    ·rw [if_neg e,i1]
     refine ⟨fun h=>⟨h.1,fun j hj=>?_⟩,fun h=>⟨h.1,fun j hj=>h.2 j (by omega)⟩⟩
     by_cases ej:j=m
     ·subst ej;exact fun h=>e h.symm
     ·exact h.2 j (by omega)
   ·show mg (delM (rmN c m) (kL c m)) x=_
    rw [mg_del,if_neg (fun e=>hx m (by omega) e.symm)]
    exact i2 x fun j hj=>hx j (by omega)
theorem relO_tick {c d o n m o':Int} (h:relO c d o n) (ho:0≤o) (h0:0≤m) (hm:m≤n) (ho':m < n→o'=o+m):relO (rmC c m) d o' (n - m):=by
 obtain ⟨h1,h2,h3⟩:=h
 obtain ⟨r1,r2⟩:=rm_spec (c:=c) m.toNat (by omega)
 have hne:∀ i:Nat,m≤(i:Int)→(i:Int) < n→∀ j:Nat,j < m.toNat→kL c j≠kL c i:=fun i hi hin j hj e=>by
  have:=kL_inj (by omega) (by omega) e;omega
 have hK:=KL_fn (c:=rmN c m.toNat) (n:=(n - m).toNat) (fun j=>kL c (m.toNat+j)) (fun i j hij hj=>by
  have:=kL_lt (c:=c) (i:=m.toNat+i) (j:=m.toNat+j) (by omega) (by omega)
  unfold ltK at *
  rw [r2 _ (hne _ (by omega) (by omega)),r2 _ (hne _ (by omega) (by omega))];exact this)
  (fun x=>by
   rw [r1]
   constructor
   ·rintro ⟨hx,hx2⟩
    obtain ⟨j,hj,e⟩:=kL_of hx
    have:¬ j < m.toNat:=fun hh=>hx2 j hh e
    exact ⟨j - m.toNat,by omega,by rw [← e];congr 1;omega⟩
   ·rintro ⟨j,hj,e⟩
    rw [← e];exact ⟨kL_has (by omega),hne _ (by omega) (by omega)⟩)
 refine ⟨fun x hx=>h1 x ((r1 x).1 hx).1,?_,fun j hj=>?_⟩
 ·unfold rmC;rw [hK.1];omega
 ·unfold rmC
  rw [hK.2 j (by omega),r2 _ (hne _ (by omega) (by omega)),ho' (by omega),show (o+m).toNat+j=o.toNat+(m.toNat+j) by omega]
  exact h3 _ (by omega)
end Go.Sx.Ti
