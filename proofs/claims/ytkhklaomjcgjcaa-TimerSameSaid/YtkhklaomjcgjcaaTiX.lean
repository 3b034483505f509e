/- Timers, as plain mathematics: the map and the document's list go together. -/
import Derived.Test.YtkhklaomjcgjcaaTiT
namespace Go.Sx.Ti
set_option linter.unusedSimpArgs false
set_option linter.unusedVariables false
open Go Go.Sx
theorem KL_fn {c:Int} {n:Nat} (g:Nat→Int) (h1:∀ i j,i < j→j < n→ltK c (g i) (g j)) (h2:∀ x,hasC c x=true↔∃ j,j < n∧g j=x):lenC c=n∧∀ j,j < n→kL c j=g j:=by
 have hl:(List.range n).map g=KL c:=KL_uniq (by
  rw [List.pairwise_iff_getElem]
  intro i j hi hj hij
  simp only [List.length_map,List.length_range] at hi hj
  simp only [List.getElem_map,List.getElem_range]
  exact h1 i j hij hj) (fun x=>by
  rw [h2,List.mem_map]
  constructor
  ·rintro ⟨j,hj,e⟩;exact ⟨j,List.mem_range.1 hj,e⟩
  ·rintro ⟨j,hj,e⟩;exact ⟨j,List.mem_range.2 hj,e⟩)
 refine ⟨?_,fun j hj=>?_⟩
 ·rw [← KL_len,← hl];simp
 ·unfold kL;rw [← hl];simp [hj]
def relE (c e n:Int):Prop:=kinC c∧n=lenC c∧∀ j:Nat,(j:Int) < n→fl e j 0=kL c j∧fl e j 1=mg c (kL c j)
theorem relO_0 {c e n:Int}:relO c e 0 n↔relE c e n:=by
 unfold relO relE
 simp only [Int.toNat_zero,Nat.zero_add]
theorem fl_view {d o n:Int} {j f:Nat} (hj:(j:Int) < n):fl (blitC 0 0 d o n) j f=fl d (o.toNat+j) f:=by
 rw [fl_blit,if_pos (by simp;omega)];simp
theorem relO_v {c d o n:Int} (h:relO c d o n):relE c (blitC 0 0 d o n) n:=by
 obtain ⟨h1,h2,h3⟩:=h
 exact ⟨h1,h2,fun j hj=>by rw [fl_view hj,fl_view hj];exact h3 j hj⟩
theorem relE_has {c e n x:Int} (h:relE c e n):hasC c x=true↔∃ j:Nat,(j:Int) < n∧fl e j 0=x:=by
 obtain ⟨h1,h2,h3⟩:=h
 constructor
 ·intro hx
  obtain ⟨j,hj,e⟩:=kL_of hx
  exact ⟨j,by omega,by rw [(h3 j (by omega)).1,e]⟩
 ·rintro ⟨j,hj,e⟩
  rw [← e,(h3 j hj).1];exact kL_has (by omega)
theorem relE_nn {c e n:Int} (h:relE c e n):0≤n:=by rw [h.2.1];exact lenC_nn c
theorem fnd_has {c e n k:Int} (h:relE c e n) (hn:n≤4096):(0≤fndT e n k↔hasC c k=true)∧(0≤fndT e n k→fl e (fndT e n k).toNat 1=mg c k):=by
 rcases fnd_cases e k hn with ⟨f1,f2⟩ | ⟨f1,f2,f3,f4⟩
 ·refine ⟨⟨fun hh=>by omega,fun hh=>?_⟩,fun hh=>by omega⟩
  obtain ⟨j,hj,e⟩:=(relE_has h).1 hh
  exact absurd e (f2 j hj)
 ·refine ⟨⟨fun _=>(relE_has h).2 ⟨_,by omega,f3⟩,fun _=>f1⟩,fun _=>?_⟩
  have:=h.2.2 (fndT e n k).toNat (by omega)
  rw [this.2,← this.1,f3]
theorem ltK_set {c k a x y:Int} (ha:in64 a) (hx:x≠k) (hy:y≠k) (h:ltK c x y):ltK (setM c k a) x y:=by
 unfold ltK at *
 rw [mg_set x ha,mg_set y ha,if_neg hx,if_neg hy];exact h
theorem relE_ins {c e n k a:Int} (h:relE c e n) (hn:n≤4096) (hk:in64 k) (ha:in64 a) (hc:¬ hasC c k=true):relE (setM c k a) (insT e n (posT e n k a) k a) (n+1):=by
 have h0:=relE_nn h
 obtain ⟨p1,p2,p3,p4⟩:=pos_spec (d:=e) (k:=k) (a:=a) h0 hn
 obtain ⟨p,hp⟩:∃ p,p=posT e n k a:=⟨_,rfl⟩
 rw [← hp] at p1 p2 p3 p4 ⊢
 have hr:=h.2.2
 have hne:∀ j:Nat,(j:Int) < n→kL c j≠k:=fun j hj e=>hc (by rw [← e];exact kL_has (by rw [← h.2.1];exact hj))
 have hlt:∀ i j:Nat,i < j→(j:Int) < n→ltK c (kL c i) (kL c j):=fun i j hij hj=>kL_lt hij (by rw [← h.2.1];exact hj)
 have mgk:mg (setM c k a) k=a:=by rw [mg_set k ha,if_pos rfl]
 have mgo:∀ x,x≠k→mg (setM c k a) x=mg c x:=fun x hx=>by rw [mg_set x ha,if_neg hx]
 have before:∀ j:Nat,(j:Int) < p→ltK (setM c k a) (kL c j) k:=fun j hj=>by
  have hb:=p3 j hj
  unfold bfr at hb
  rw [(hr j (by omega)).1,(hr j (by omega)).2] at hb
  unfold ltK;rw [mgk,mgo _ (hne j (by omega))];exact hb
 have after:∀ j:Nat,p≤(j:Int)→(j:Int) < n→ltK (setM c k a) k (kL c j):=fun j hj hjn=>by
  have hb:=p4 (by omega)
  have e0:=hr p.toNat (by omega)
  unfold bfr at hb
  rw [e0.1,e0.2] at hb
  have hnp:=hne p.toNat (by omega)
  have hnj:=hne j hjn
  unfold ltK;rw [mgk,mgo _ hnj]
  by_cases hjp:j=p.toNat
  ·subst hjp;omega
  ·have:=hlt p.toNat j (by omega) hjn
   unfold ltK at this;omega
 obtain ⟨g,hg⟩:∃ g:Nat→Int,g=fun (j:Nat)=>if (j:Int) < p then kL c j else if (j:Int)=p then k else kL c (j - 1):=⟨_,rfl⟩
 have g1:∀ j:Nat,(j:Int) < p→g j=kL c j:=fun j hj=>by rw [hg];simp only [if_pos hj]
 have g2:g p.toNat=k:=by rw [hg];simp only [if_neg (show ¬ ((p.toNat:Nat):Int) < p by omega),if_pos (show ((p.toNat:Nat):Int)=p by omega)]
 have g3:∀ j:Nat,p < (j:Int)→g j=kL c (j - 1):=fun j hj=>by rw [hg];simp only [if_neg (show ¬ (j:Int) < p by omega),if_neg (show ¬ (j:Int)=p by omega)]
 have hK:=KL_fn (c:=setM c k a) (n:=(n+1).toNat) g (fun i j hij hj=>by
  by_cases i1:(i:Int) < p
  ·rw [g1 i i1]
   by_cases j1:(j:Int) < p
   ·rw [g1 j j1];exact ltK_set ha (hne i (by omega)) (hne j (by omega)) (hlt i j hij (by omega))
   ·by_cases j2:j=p.toNat
    ·subst j2;rw [g2];exact before i i1
    ·rw [g3 j (by omega)];exact ltK_set ha (hne i (by omega)) (hne _ (by omega)) (hlt i (j - 1) (by omega) (by omega))
  ·by_cases i2:i=p.toNat
   ·subst i2;rw [g2,g3 j (by omega)];exact after (j - 1) (by omega) (by omega)
   ·rw [g3 i (by omega),g3 j (by omega)];exact ltK_set ha (hne _ (by omega)) (hne _ (by omega)) (hlt (i - 1) (j - 1) (by omega) (by omega)))
  (fun x=>by
   rw [hasC_setM]
   constructor
   ·intro hx
    by_cases e1:x=k
    ·exact ⟨p.toNat,by omega,by rw [g2,e1]⟩
    ·rw [if_neg e1] at hx
     obtain ⟨j,hj,e2⟩:=kL_of hx
     rw [← h.2.1] at hj
     by_cases j1:(j:Int) < p
     ·exact ⟨j,by omega,by rw [g1 j j1,e2]⟩
     ·exact ⟨j+1,by omega,by rw [g3 (j+1) (by omega),Nat.add_sub_cancel,e2]⟩
   ·rintro ⟨j,hj,e2⟩
    by_cases e1:x=k
    ·rw [if_pos e1]
    ·rw [if_neg e1]
     by_cases j1:(j:Int) < p
     ·rw [← e2,g1 j j1];exact kL_has (by rw [← h.2.1];omega)
     ·by_cases j2:j=p.toNat
      ·subst j2;rw [g2] at e2;exact absurd e2.symm e1
      ·rw [← e2,g3 j (by omega)];exact kL_has (by rw [← h.2.1];omega))
 refine ⟨fun x hx=>?_,by rw [hK.1];omega,fun j hj=>?_⟩
 ·rw [hasC_setM] at hx
  by_cases e1:x=k
  ·rw [e1];exact hk
  ·rw [if_neg e1] at hx;exact h.1 x hx
 ·rw [hK.2 j (by omega),fl_ins hk ha hj (by omega),fl_ins hk ha hj (by omega)]
  by_cases j1:(j:Int) < p
  ·rw [if_pos j1,if_pos j1,g1 j j1,mgo _ (hne j (by omega))];exact hr j (by omega)
  ·rw [if_neg j1,if_neg j1]
   by_cases j2:(j:Int)=p
   ·have:j=p.toNat:=by omega
    subst this
    rw [if_pos j2,if_pos j2,g2,mgk];exact ⟨rfl,rfl⟩
   ·rw [if_neg j2,if_neg j2,g3 j (by omega),mgo _ (hne _ (by omega))];exact hr (j - 1) (by omega)
theorem kL_inj {c:Int} {i j:Nat} (hi:(i:Int) < lenC c) (hj:(j:Int) < lenC c) (e:kL c i=kL c j):i=j:=by
 rcases Nat.lt_trichotomy i j with h | h | h
 ·have:=kL_lt h hj;rw [e] at this;exact (ltK_asym this this).elim
 ·exact h
 ·have:=kL_lt h hi;rw [e] at this;exact (ltK_asym this this).elim
theorem relE_del {c e n k:Int} (h:relE c e n) (hn:n≤4096) (hc:hasC c k=true):relE (delM c k) (delT e n (fndT e n k)) (n+-1):=by
 have h0:=relE_nn h
 have hr:=h.2.2
 obtain ⟨f1,f2⟩:=fnd_has (k:=k) h hn
 have p1:=f1.2 hc
 rcases fnd_cases e k hn with ⟨q1,q2⟩ | ⟨q1,q2,q3,q4⟩
 ·omega
 obtain ⟨p,hp⟩:∃ p,p=fndT e n k:=⟨_,rfl⟩
 rw [← hp] at p1 q1 q2 q3 q4 ⊢
 have hkp:kL c p.toNat=k:=by rw [← (hr p.toNat (by omega)).1];exact q3
 have hne:∀ j:Nat,(j:Int) < n→(j:Int)≠p→kL c j≠k:=fun j hj hjp e=>hjp (by
  have:=kL_inj (by rw [← h.2.1];exact hj) (by rw [← h.2.1];omega) (e.trans hkp.symm);omega)
 have hlt:∀ i j:Nat,i < j→(j:Int) < n→ltK c (kL c i) (kL c j):=fun i j hij hj=>kL_lt hij (by rw [← h.2.1];exact hj)
 have mgo:∀ x,x≠k→mg (delM c k) x=mg c x:=fun x hx=>by rw [mg_del,if_neg hx]
 have lto:∀ x y,x≠k→y≠k→ltK c x y→ltK (delM c k) x y:=fun x y hx hy hh=>by unfold ltK at *;rw [mgo x hx,mgo y hy];exact hh
 have hK:=KL_fn (c:=delM c k) (n:=(n - 1).toNat) (fun j=>kL c (if (j:Int) < p then j else j+1)) (fun i j hij hj=>by
  refine lto _ _ (hne _ (by split<;>omega) (by split<;>omega)) (hne _ (by split<;>omega) (by split<;>omega)) (hlt _ _ ?_ (by split<;>omega))
  split<;>split<;>omega)
  (fun x=>by
   rw [hasC_delM]
   constructor
   ·intro hx
    by_cases e1:x=k
    ·rw [if_pos e1] at hx;cases hx
    ·rw [if_neg e1] at hx
     obtain ⟨j,hj,e2⟩:=kL_of hx
     rw [← h.2.1] at hj
     have hjp:(j:Int)≠p:=fun e3=>e1 (by rw [← e2,← hkp];congr 1;omega)
     by_cases j1:(j:Int) < p
     ·exact ⟨j,by omega,by simp only [if_pos j1];exact e2⟩
     ·exact ⟨j - 1,by omega,by simp only [if_neg (show ¬ ((j - 1:Nat):Int) < p by omega)];rw [Nat.sub_add_cancel (by omega)];exact e2⟩
   ·rintro ⟨j,hj,e2⟩
    have hb:kL c (if (j:Int) < p then j else j+1)≠k:=hne _ (by split<;>omega) (by split<;>omega)
    rw [e2] at hb
    rw [if_neg hb,← e2];exact kL_has (by rw [← h.2.1];split<;>omega))
 refine ⟨fun x hx=>?_,by rw [hK.1];omega,fun j hj=>?_⟩
 ·rw [hasC_delM] at hx
  by_cases e1:x=k
  ·rw [if_pos e1] at hx;cases hx
  ·rw [if_neg e1] at hx;exact h.1 x hx
 ·rw [hK.2 j (by omega),fl_del (by omega) (by omega),fl_del (by omega) (by omega),mgo _ (hne _ (by split<;>omega) (by split<;>omega))]
  exact hr _ (by split<;>omega)
theorem rm_spec {c:Int}:∀ m:Nat,(m:Int)≤lenC c→(∀ x,hasC (rmN c m) x=true↔hasC c x=true∧∀ j:Nat,j < m→kL c j≠x)∧∀ x,(∀ j:Nat,j < m→kL c j≠x)→mg (rmN c m) x=mg c x
 | 0,_=>by
   refine ⟨fun x=>?_,fun x _=>rfl⟩
   constructor
   ·intro h
    exact ⟨h,fun j hj=>absurd hj (Nat.not_lt_zero _)⟩
   ·intro h
    exact h.1
 | m+1,hm=>by
   obtain ⟨i1,i2⟩:=rm_spec (c:=c) m (by omega)
   refine ⟨fun x=>?_,fun x hx=>?_⟩
   ·show hasC (delM (rmN c m) (kL c m)) x=true↔_
    rw [hasC_delM]
    by_cases e:x=kL c m
    ·rw [if_pos e];exact ⟨fun h=>(by cases h),fun h=>absurd e.symm (h.2 m (by omega))⟩
    ·rw [if_neg e,i1]
     refine ⟨fun h=>⟨h.1,fun j hj=>?_⟩,fun h=>⟨h.1,fun j hj=>h.2 j (by omega)⟩⟩
     by_cases ej:j=m
     ·subst ej;exact fun h=>e h.symm
     ·exact h.2 j (by omega)
   ·show mg (delM (rmN c m) (kL c m)) x=_
    rw [mg_del,if_neg (fun e=>hx m (by omega) e.symm)]
    exact i2 x fun j hj=>hx j (by omega)
theorem dueE {c e n now:Int} (h:relE c e n) (hn:n≤4096):dueC c now=dueT e n now:=by
 have h0:=relE_nn h
 obtain ⟨d1,d2,d3,d4⟩:=dueT_spec (d:=e) (now:=now) h0 hn
 refine dueC_eq d1 (by rw [← h.2.1];exact d2) (by rw [← h.2.1];exact hn) (fun j hj=>?_) (fun hh=>?_)
 ·rw [← (h.2.2 j (by omega)).2];exact d3 j hj
 ·rw [← h.2.1] at hh
  rw [← (h.2.2 _ (by omega)).2];exact d4 hh
theorem relO_tick {c d o n m o':Int} (h:relO c d o n) (ho:0≤o) (h0:0≤m) (hm:m≤n) (ho':m < n→o'=o+m):relO (rmC c m) d o' (n - m):=by
 obtain ⟨h1,h2,h3⟩:=h
 obtain ⟨r1,r2⟩:=rm_spec (c:=c) m.toNat (by omega)
 have hne:∀ i:Nat,m≤(i:Int)→(i:Int) < n→∀ j:Nat,j < m.toNat→kL c j≠kL c i:=fun i hi hin j hj e=>by
  have:=kL_inj (by omega) (by omega) e;omega
 have hK:=KL_fn (c:=rmN c m.toNat) (n:=(n - m).toNat) (fun j=>kL c (m.toNat+j)) (fun i j hij hj=>by
  have:=kL_lt (c:=c) (i:=m.toNat+i) (j:=m.toNat+j) (by omega) (by omega)
  unfold ltK at *
  rw [r2 _ (hne _ (by omega) (by omega)),r2 _ (hne _ (by omega) (by omega))];exact this)
  (fun x=>by
   rw [r1]
   constructor
   ·rintro ⟨hx,hx2⟩
    obtain ⟨j,hj,e⟩:=kL_of hx
    have:¬ j < m.toNat:=fun hh=>hx2 j hh e
    exact ⟨j - m.toNat,by omega,by rw [← e];congr 1;omega⟩
   ·rintro ⟨j,hj,e⟩
    rw [← e];exact ⟨kL_has (by omega),hne _ (by omega) (by omega)⟩)
 refine ⟨fun x hx=>h1 x ((r1 x).1 hx).1,?_,fun j hj=>?_⟩
 ·unfold rmC;rw [hK.1];omega
 ·unfold rmC
  rw [hK.2 j (by omega),r2 _ (hne _ (by omega) (by omega)),ho' (by omega),show (o+m).toNat+j=o.toNat+(m.toNat+j) by omega]
  exact h3 _ (by omega)
theorem same_tick {c e n m:Int} (h:relE c e n) (hm:m≤n) (h0:0≤m):sameI (colT e m) m (KS c) m:=⟨rfl,fun j hj=>by
 rw [fl_col hj,fl_KS h.1 (by rw [← h.2.1];omega)]
 exact (h.2.2 j (by omega)).1⟩
theorem relE_ins0 {c k a:Int} (hK:kinC c) (hl:lenC c=0) (hk:in64 k) (ha:in64 a):relE (setM c k a) (insT 0 0 0 k a) 1:=by
 have h:relE c 0 0:=⟨hK,hl.symm,fun j hj=>by omega⟩
 have hc:¬ hasC c k=true:=fun hh=>by have:=len_pos hh;omega
 have hp:posT 0 0 k a=0:=by
  have:=pos_spec (d:=0) (n:=0) (k:=k) (a:=a) (by omega) (by omega);omega
 have:=relE_ins h (by omega) hk ha hc
 rw [hp] at this;exact this
theorem relE_has0 {c k:Int} (hl:lenC c=0):¬ hasC c k=true:=fun hh=>by have:=len_pos hh;omega
def zC (c:Int):Prop:=∀ x,¬ hasC c x=true→mg c x=0
theorem zC_zero:zC 0:=fun x _=>mg_zero x
theorem zC_set {c k a:Int} (h:zC c) (ha:in64 a):zC (setM c k a):=fun x hx=>by
 rw [hasC_setM] at hx
 by_cases e:x=k
 ·rw [if_pos e] at hx;exact absurd rfl hx
 ·rw [if_neg e] at hx;rw [mg_set x ha,if_neg e];exact h x hx
theorem zC_del {c k:Int} (h:zC c):zC (delM c k):=fun x hx=>by
 rw [hasC_delM] at hx
 rw [mg_del]
 by_cases e:x=k
 ·rw [if_pos e]
 ·rw [if_neg e] at hx;rw [if_neg e];exact h x hx
theorem zC_rmN {c:Int} (h:zC c):∀ m:Nat,zC (rmN c m)
 | 0=>h
 | m+1=>zC_del (zC_rmN h m)
theorem zC_rm {c m:Int} (h:zC c):zC (rmC c m):=zC_rmN h m.toNat
theorem fnd_view {c d o n k:Int} (h:relO c d o n) (hn:n≤4096) (ho:0≤o) (h0:0≤fndT (blitC 0 0 d o n) n k):fl d (o+fndT (blitC 0 0 d o n) n k).toNat 1=mg c k:=by
 have hV:=relO_v h
 have:=(fnd_has (k:=k) hV hn).2 h0
 rcases fnd_cases (blitC 0 0 d o n) k hn with ⟨q1,q2⟩ | ⟨q1,q2,q3,q4⟩
 ·omega
 ·rw [fl_view (by omega)] at this
  rw [← this];congr 1;omega
end Go.Sx.Ti
