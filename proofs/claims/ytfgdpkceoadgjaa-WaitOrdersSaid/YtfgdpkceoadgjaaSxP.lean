/- A symbolic executor: regions that draw their order: what holds on the way. -/
import Derived.Test.YtfgdpkceoadgjaaSxO
namespace Go.Sx
set_option linter.unusedSectionVars false
set_option linter.unusedVariables false
set_option linter.unusedSimpArgs false
open Go.RowKit
section
variable {cc:Cc} {E:Ents} {nst:Fr→Hp→Nr} {nt:Nat} {T0:List (Nat×SV)} {H0:Hp} {ops:Array Oper} {C:Ct} {hc:Nat→Option Obj} {w0:World}
structure KK (C:Ct) (hc:Nat→Option Obj) (w0:World) (nt:Nat) (T0:List (Nat×SV)) (H0:Hp) (rvF:Rv) (nF:Cn) (ρ0:Dyn) (W0:World) (D:Nat→Bool) (ρ:Dyn) (tmps:Array Value) (w:World):Prop where
 size:tmps.size=nt
 tm:∀ t z c,get (lgC D T0 (cnOf H0) tmF rvF) t=some (z,c)→z.Is C.σ (ρ.cut c) (tmps.getD t undef)
 hp:∀ id bk c,get (lgC D H0.heap (cnOf H0) (fun r=>r.dh) rvF) id=some (bk,c)→bk.live=true→∃ b o,ρ.bl id=some b∧w.heap[b]? = some o∧bk.Is C.σ (ρ.cut c) o
 inj:∀ id id' bk bk' b,get (hpD D H0.heap rvF) id=some bk→bk.live=true→get (hpD D H0.heap rvF) id'=some bk'→bk'.live=true→ρ.bl id=some b→ρ.bl id'=some b→id=id'
 fc0:∀ f∈H0.facts,f.1.den C.σ (ρ.cut (cnOf H0))=some f.2
 fc:∀ j r,(j,r)∈rvF→D j=true→∀ f∈r.dq,f.1.den C.σ (ρ.cut r.n1)=some f.2
 ph0:∀ p∈H0.phis,C.phi p (ρ.cut (cnOf H0)) (Un hc ρ (hpD D H0.heap rvF) w)
 ph:∀ j r,(j,r)∈rvF→D j=true→∀ p∈r.dp,C.phi p (ρ.cut r.n1) (Un hc ρ (hpD D H0.heap rvF) w)
 bd:∀ i a b,(i,a,b)∈H0.bd→InR a b (C.σ.iv i)
 un:∀ j r,(j,r)∈rvF→D j=false→(∀ i,r.n0.b≤i→i < r.n1.b→ρ.bl i=none)∧(∀ i,r.n0.d≤i→i < r.n1.d→ρ.di i=none)∧(∀ i,r.n0.v≤i→i < r.n1.v→ρ.dv i=none)
 fin:(∀ i,nF.b≤i→ρ.bl i=none)∧(∀ i,nF.d≤i→ρ.di i=none)∧(∀ i,nF.v≤i→ρ.dv i=none)
 lt:∀ i b,ρ.bl i=some b→b < w.heap.size
 hid:∀ b o,hc b=some o→w.heap[b]? = some o
 nh:∀ b,Own ρ (hpD D H0.heap rvF) b→hc b=none
 os:w.os=w0.os
 tape:w.tape=w0.tape
 output:w.output=w0.output
 size0:w0.heap.size≤w.heap.size
 sizeW:W0.heap.size≤w.heap.size
 ag:Dyn.Ag H0 ρ0 ρ
 new:∀ id b,ρ.bl id=some b→ρ0.bl id=some b∨W0.heap.size≤b∨∃ id',ρ0.bl id'=some b∧get (hpD D [] rvF) id'≠none
 same:∀ b,b < W0.heap.size→(∀ id,ρ0.bl id=some b→get (hpD D [] rvF) id=none)→w.heap[b]? = W0.heap[b]?
theorem Dyn.cut_base {ρ:Dyn} {H:Hp} {w:World} (h:HpRel C hc w0 ρ H w):ρ.cut (cnOf H)=ρ:=by
 have e1:(ρ.cut (cnOf H)).bl=ρ.bl:=by
  funext i
  show (if i < H.nb then ρ.bl i else none)=ρ.bl i
  by_cases hi:i < H.nb
  ·rw [if_pos hi]
  ·rw [if_neg hi];exact (h.fb i (by omega)).symm
 have e2:(ρ.cut (cnOf H)).di=ρ.di:=by
  funext i
  show (if i < H.nd then ρ.di i else none)=ρ.di i
  by_cases hi:i < H.nd
  ·rw [if_pos hi]
  ·rw [if_neg hi];exact (h.fd i (by omega)).symm
 have e3:(ρ.cut (cnOf H)).dv=ρ.dv:=by
  funext i
  show (if i < H.nv then ρ.dv i else none)=ρ.dv i
  by_cases hi:i < H.nv
  ·rw [if_pos hi]
  ·rw [if_neg hi];exact (h.fv i (by omega)).symm
 cases ρ
 simp only [Dyn.cut] at e1 e2 e3 ⊢
 rw [e1,e2,e3]
theorem hpD_no (D:Nat→Bool) (hD:∀ j,D j=false) (h0:List (Nat×Bk)) (rv:Rv):hpD D h0 rv=h0:=by
 have:=lg_none (D:=D) (h0:=h0) (f:=fun r=>r.dh) (l:=rv) (rv:=[]) (fun j _ _=>hD j)
 rw [List.append_nil] at this
 exact this
theorem KK.start {ρ0:Dyn} {w:World} {tmps:Array Value} {rvF:Rv} {nF:Cn} (h:HpRel C hc w0 ρ0 H0 w) (ht:TmRel C.σ ρ0 nt T0 tmps) (hg:Good cc E nst nt T0 H0 ops rvF nF):KK C hc w0 nt T0 H0 rvF nF ρ0 w (fun _=>false) ρ0 tmps w:=by
 have hcut:=Dyn.cut_base h
 have hno:hpD (fun _=>false) H0.heap rvF=H0.heap:=hpD_no _ (fun _=>rfl) _ _
 have hbase:=hg.base
 refine ⟨ht.size,?_,?_,?_,?_,?_,?_,?_,h.bd,?_,?_,h.lt,h.hid,?_,h.os,h.tape,h.output,h.size,Nat.le_refl _,Dyn.Ag.refl H0 ρ0,fun _ _ e=>.inl e,fun _ _ _=>rfl⟩
 ·intro t z c hx
  rcases lgC_from hx with ⟨h1,rfl⟩ | ⟨_,_,_,h2,_⟩
  ·rw [hcut];exact ht.get t z h1
  ·cases h2
 ·intro id bk c hx hl
  rcases lgC_from hx with ⟨h1,rfl⟩ | ⟨_,_,_,h2,_⟩
  ·rw [hcut];exact h.blk id bk h1 hl
  ·cases h2
 ·rw [hno];exact h.inj
 ·rw [hcut];exact h.facts
 ·intro _ _ _ h2;cases h2
 ·rw [hno,hcut];exact h.phis
 ·intro _ _ _ h2;cases h2
 ·intro j r hj _
  obtain ⟨_,_,_,_,h2,h3,_⟩:=hg.split hj
  have:=h2.base
  rw [h3.n0]
  exact ⟨fun i h1 _=>h.fb i (Nat.le_trans this.1 h1),fun i h1 _=>h.fd i (Nat.le_trans this.2.1 h1),fun i h1 _=>h.fv i (Nat.le_trans this.2.2 h1)⟩
 ·exact ⟨fun i h1=>h.fb i (Nat.le_trans hbase.1 h1),fun i h1=>h.fd i (Nat.le_trans hbase.2.1 h1),fun i h1=>h.fv i (Nat.le_trans hbase.2.2 h1)⟩
 ·rw [hno];exact h.nh
theorem KK.finish {ρ0 ρ:Dyn} {W0 w:World} {tmps:Array Value} {rvF:Rv} {nF:Cn} (hb:∀ id bk,get H0.heap id=some bk→id < H0.nb) (hg:Good cc E nst nt T0 H0 ops rvF nF) (k:KK C hc w0 nt T0 H0 rvF nF ρ0 W0 (fun _=>true) ρ tmps w) :
  Tn ρ0 H0 W0 ρ { heap:=hpD (fun _=>true) H0.heap rvF,nb:=nF.b,nd:=nF.d,nv:=nF.v,facts:=fcD (fun _=>true) H0.facts rvF,phis:=phD (fun _=>true) H0.phis rvF,bd:=H0.bd } w∧
  TmRel C.σ ρ nt (tmD (fun _=>true) T0 rvF) tmps∧
  HpRel C hc w0 ρ { heap:=hpD (fun _=>true) H0.heap rvF,nb:=nF.b,nd:=nF.d,nv:=nF.v,facts:=fcD (fun _=>true) H0.facts rvF,phis:=phD (fun _=>true) H0.phis rvF,bd:=H0.bd } w:=by
 have ext:∀ (rv:Rv),∃ l,hpD (fun _=>true) H0.heap rv=l++H0.heap∧l=hpD (fun _=>true) [] rv:=by
  intro rv
  induction rv with
  | nil=>exact ⟨[],rfl,rfl⟩
  | cons e rv ih=>
    obtain ⟨l,h1,h2⟩:=ih
    obtain ⟨j,r⟩:=e
    refine ⟨r.dh++l,?_,?_⟩
    ·unfold hpD at h1 ⊢;rw [lg_cons,if_pos rfl,h1,List.append_assoc]
    ·unfold hpD at h2 ⊢;rw [lg_cons,if_pos rfl,h2]
 have extp:∀ (rv:Rv),∃ l,phD (fun _=>true) H0.phis rv=l++H0.phis:=by
  intro rv
  induction rv with
  | nil=>exact ⟨[],rfl⟩
  | cons e rv ih=>
    obtain ⟨l,h1⟩:=ih
    obtain ⟨j,r⟩:=e
    exact ⟨r.dp++l,by rw [phD_cons,if_pos rfl,h1,List.append_assoc]⟩
 have extf:∀ (rv:Rv),∃ l,fcD (fun _=>true) H0.facts rv=l++H0.facts:=by
  intro rv
  induction rv with
  | nil=>exact ⟨[],rfl⟩
  | cons e rv ih=>
    obtain ⟨l,h1⟩:=ih
    obtain ⟨j,r⟩:=e
    exact ⟨r.dq++l,by rw [fcD_cons,if_pos rfl,h1,List.append_assoc]⟩
 obtain ⟨l,hl1,hl2⟩:=ext rvF
 refine ⟨⟨k.ag,⟨⟨l,hl1⟩,hg.base.1,hg.base.2.1,hg.base.2.2,extf rvF,extp rvF⟩,k.sizeW,?_,?_⟩,⟨k.size,?_⟩,?_⟩
 ·intro l' hl' id b e
  have:l'=l:=List.append_cancel_right (by rw [← hl'];exact hl1)
  rcases k.new id b e with h | h | ⟨id',h1,h2⟩
  ·exact .inl h
  ·exact .inr (.inl h)
  ·exact .inr (.inr ⟨id',h1,by rw [this,hl2];exact h2⟩)
 ·intro l' hl' b hb' hid
  refine k.same b hb' fun id e=>?_
  have:l'=l:=List.append_cancel_right (by rw [← hl'];exact hl1)
  rw [← hl2,← this]
  exact hid id e
 ·intro t z h
  obtain ⟨c,hx⟩:=lgC_of (c0:=cnOf H0) h
  exact SV.is_mono (Dyn.cut_le ρ c) z _ (k.tm t z c hx)
 ·refine ⟨?_,k.inj,k.fin.1,k.fin.2.1,k.fin.2.2,k.lt,?_,k.hid,k.nh,?_,k.bd,?_,k.os,k.tape,k.output,k.size0⟩
  ·intro id bk h hlv
   have h':get (lg (fun _=>true) H0.heap (fun r=>r.dh) rvF) id=some bk:=h
   obtain ⟨c,hx⟩:=lgC_of (c0:=cnOf H0) h'
   obtain ⟨b,o,h1,h2,h3⟩:=k.hp id bk c hx hlv
   exact ⟨b,o,h1,h2,Bk.is_mono (Dyn.cut_le ρ c) h3⟩
  ·intro id bk h
   have h':get (lg (fun _=>true) H0.heap (fun r=>r.dh) rvF) id=some bk:=h
   rcases lg_from h' with h | ⟨j,r,hj,_,hr⟩
   ·exact Nat.lt_of_lt_of_le (hb id bk h) hg.base.1
   ·obtain ⟨_,_,_,_,_,h3,_,_,h6⟩:=hg.split hj
    exact Nat.lt_of_lt_of_le (h3.ids id bk hr).1 h6.1
  ·intro f hf
   have hf':f∈fcD (fun _=>true) H0.facts rvF:=hf
   rcases mem_fcD.1 hf' with hf | ⟨j,r,h1,h2,h3⟩
   ·exact SB.den_mono (Dyn.cut_le ρ _) _ _ (k.fc0 f hf)
   ·exact SB.den_mono (Dyn.cut_le ρ _) _ _ (k.fc j r h1 h2 f h3)
  ·intro p hp
   have hp':p∈phD (fun _=>true) H0.phis rvF:=hp
   rcases mem_phD.1 hp' with hp | ⟨j,r,h1,h2,h3⟩
   ·exact C.mono p _ ρ _ _ (Dyn.cut_le ρ _) (fun _ _ h=>h) (k.ph0 p hp)
   ·exact C.mono p _ ρ _ _ (Dyn.cut_le ρ _) (fun _ _ h=>h) (k.ph j r h1 h2 p h3)
theorem KK.know {ρ0 ρ:Dyn} {W0 w:World} {tmps:Array Value} {D:Nat→Bool} (hb:∀ id bk,get H0.heap id=some bk→id < H0.nb) {rvF:Rv} {nF:Cn} (hg:Good cc E nst nt T0 H0 ops rvF nF) (k:KK C hc w0 nt T0 H0 rvF nF ρ0 W0 D ρ tmps w)
  {l rv:Rv} {n:Cn} {i:Nat} {r:Rec} (e1:rvF=l++(i,r)::rv) (e2:Good cc E nst nt T0 H0 ops rv n) (e3:GoodRec cc E nst nt T0 H0 ops rv n r) (e4:rv.length=i) (e5:∀ j s,(j,s)∈l→i < j)
  (hcl:Closed D rvF) (hi:D i=false) (hpr:∀ k∈r.pr,D k=true) :
  (∀ id bk,get (hiOf H0 rv n r.vis r.pr).heap id=some bk→id < n.b∧∃ c,get (lgC D H0.heap (cnOf H0) (fun r=>r.dh) rvF) id=some (bk,c)∧c.Le n)∧
  ∃ hc':Nat→Option Obj,(∀ b o,hc' b=some o→w.heap[b]? = some o)∧(∀ b,hc' b=none↔(hc b=none∧(Own ρ (hpD D H0.heap rvF) b→Own (ρ.cut n) (hiOf H0 rv n r.vis r.pr).heap b)))∧
    HpRel C hc' w0 (ρ.cut n) (hiOf H0 rv n r.vis r.pr) w∧TmRel C.σ (ρ.cut n) nt (tlOf T0 rv r.pr r.lk) tmps:=by
 have hsub:∀ j s,(j,s)∈rv→(j,s)∈rvF:=fun j s hm=>by rw [e1];exact List.mem_append_right _ (List.mem_cons_of_mem _ hm)
 have hk:∀ id bk,get (hiOf H0 rv n r.vis r.pr).heap id=some bk→id < n.b∧∃ c,get (lgC D H0.heap (cnOf H0) (fun r=>r.dh) rvF) id=some (bk,c)∧c.Le n:=by
  intro id bk h
  obtain ⟨hsee,h⟩:=visH_get h
  obtain ⟨c,hx⟩:=lgC_of (c0:=cnOf H0) h
  refine ⟨?_,c,agree_hp hb hg e1 e3 e4 e5 hcl hi hpr hsee hx,?_⟩
  ·rcases lg_from h with h | ⟨j,s,hj,_,hs⟩
   ·exact Nat.lt_of_lt_of_le (hb id bk h) e2.base.1
   ·obtain ⟨_,_,_,_,_,h3,_,_,h6⟩:=e2.split hj
    exact Nat.lt_of_lt_of_le (h3.ids id bk hs).1 h6.1
  ·rcases lgC_from hx with ⟨_,rfl⟩ | ⟨j,s,hj,_,_,rfl⟩
   ·exact e2.base
   ·exact e2.mono hj
 refine ⟨hk,?_⟩
 have hown:∀ b,Own (ρ.cut n) (hiOf H0 rv n r.vis r.pr).heap b→Own ρ (hpD D H0.heap rvF) b:=by
  rintro b ⟨id,bk,h1,h2,h3⟩
  obtain ⟨_,c,h4,_⟩:=hk id bk h1
  exact ⟨id,bk,lgC_to h4,h2,(Dyn.cut_le ρ n).bl _ _ h3⟩
 open Classical in
 let hc':Nat→Option Obj:=fun b=>if Own ρ (hpD D H0.heap rvF) b∧¬ Own (ρ.cut n) (hiOf H0 rv n r.vis r.pr).heap b then w.heap[b]? else hc b
 have hcn:∀ b,hc' b=none↔(hc b=none∧(Own ρ (hpD D H0.heap rvF) b→Own (ρ.cut n) (hiOf H0 rv n r.vis r.pr).heap b)):=by
  intro b
  show (if Own ρ (hpD D H0.heap rvF) b∧¬ Own (ρ.cut n) (hiOf H0 rv n r.vis r.pr).heap b then w.heap[b]? else hc b)=none↔_
  split
  ·rename_i hc
   obtain ⟨id,bk,h1,h2,h3⟩:=hc.1
   have:=k.lt id b h3
   constructor
   ·intro h;rw [Array.getElem?_eq_getElem this] at h;cases h
   ·rintro ⟨_,h⟩;exact absurd (h hc.1) hc.2
  ·rename_i hc
   constructor
   ·intro h
    refine ⟨h,fun ho=>?_⟩
    by_cases hh:Own (ρ.cut n) (hiOf H0 rv n r.vis r.pr).heap b
    ·exact hh
    ·exact absurd ⟨ho,hh⟩ hc
   ·exact fun h=>h.1
 have hU:∀ b o,Un hc ρ (hpD D H0.heap rvF) w b o→Un hc' (ρ.cut n) (hiOf H0 rv n r.vis r.pr).heap w b o:=by
  rintro b o ⟨h1,h2,h3⟩
  exact ⟨h1,(hcn b).2 ⟨h2,fun h=>absurd h h3⟩,fun h=>h3 (hown b h)⟩
 refine ⟨hc',?_,hcn,?_,?_⟩
 ·intro b o h
  have h':(if Own ρ (hpD D H0.heap rvF) b∧¬ Own (ρ.cut n) (hiOf H0 rv n r.vis r.pr).heap b then w.heap[b]? else hc b)=some o:=h
  split at h'
  ·exact h'
  ·exact k.hid b o h'
 ·refine ⟨?_,?_,?_,?_,?_,?_,?_,?_,?_,?_,k.bd,?_,k.os,k.tape,k.output,k.size0⟩
  ·intro id bk h hlv
   obtain ⟨h1,c,h2,h3⟩:=hk id bk h
   obtain ⟨b,o,h4,h5,h6⟩:=k.hp id bk c h2 hlv
   exact ⟨b,o,by simp only [Dyn.cut];rw [if_pos h1];exact h4,h5,Bk.is_mono (Dyn.cut_mono (Dyn.Le.refl ρ) h3) h6⟩
  ·intro id id' bk bk' b g1 l1 g2 l2 q1 q2
   obtain ⟨_,c,h2,_⟩:=hk id bk g1
   obtain ⟨_,c',h2',_⟩:=hk id' bk' g2
   exact k.inj id id' bk bk' b (lgC_to h2) l1 (lgC_to h2') l2 ((Dyn.cut_le ρ n).bl _ _ q1) ((Dyn.cut_le ρ n).bl _ _ q2)
  ·intro j hj;simp only [Dyn.cut];rw [if_neg (by have:n.b≤j:=hj;omega)]
  ·intro j hj;simp only [Dyn.cut];rw [if_neg (by have:n.d≤j:=hj;omega)]
  ·intro j hj;simp only [Dyn.cut];rw [if_neg (by have:n.v≤j:=hj;omega)]
  ·intro j b h;exact k.lt j b ((Dyn.cut_le ρ n).bl _ _ h)
  ·intro id bk h;exact (hk id bk h).1
  ·intro b o h
   have h':(if Own ρ (hpD D H0.heap rvF) b∧¬ Own (ρ.cut n) (hiOf H0 rv n r.vis r.pr).heap b then w.heap[b]? else hc b)=some o:=h
   split at h'
   ·exact h'
   ·exact k.hid b o h'
  ·intro b h;exact (hcn b).2 ⟨k.nh b (hown b h),fun _=>h⟩
  ·intro f hf
   rcases mem_fcD.1 hf with hf | ⟨j,s,h1,h2,h3⟩
   ·exact SB.den_mono (Dyn.cut_mono (Dyn.Le.refl ρ) e2.base) _ _ (k.fc0 f hf)
   ·exact SB.den_mono (Dyn.cut_mono (Dyn.Le.refl ρ) (e2.mono h1)) _ _ (k.fc j s (hsub j s h1) (hpr j (lmem_iff.1 h2)) f h3)
  ·intro p hp
   rcases mem_phD.1 hp with hp | ⟨j,s,h1,h2,h3⟩
   ·exact C.mono p _ _ _ _ (Dyn.cut_mono (Dyn.Le.refl ρ) e2.base) hU (k.ph0 p hp)
   ·exact C.mono p _ _ _ _ (Dyn.cut_mono (Dyn.Le.refl ρ) (e2.mono h1)) hU (k.ph j s (hsub j s h1) (hpr j (lmem_iff.1 h2)) p h3)
 ·refine ⟨k.size,fun t z h=>?_⟩
  obtain ⟨h1,h2⟩:=tlOf_get h
  obtain ⟨c,hx⟩:=lgC_of (c0:=cnOf H0) h2
  have:=k.tm t z c (agree_tm hg e1 e3 e4 e5 hcl hi hpr h1 hx)
  refine SV.is_mono (Dyn.cut_mono (Dyn.Le.refl ρ) ?_) z _ this
  rcases lgC_from hx with ⟨_,rfl⟩ | ⟨j,s,hj,_,_,rfl⟩
  ·exact e2.base
  ·exact e2.mono hj
end
end Go.Sx
