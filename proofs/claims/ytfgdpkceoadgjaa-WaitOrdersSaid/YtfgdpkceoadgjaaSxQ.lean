/- A symbolic executor: regions that draw their order: one operation more keeps what holds on the way. -/
import Derived.Test.YtfgdpkceoadgjaaSxP
namespace Go.Sx
set_option linter.unusedSectionVars false
set_option linter.unusedVariables false
set_option linter.unusedSimpArgs false
open Go.RowKit
def addD (D:Nat→Bool) (i:Nat):Nat→Bool:=fun j=>D j || Nat.beq j i
theorem addD_self (D:Nat→Bool) (i:Nat):addD D i i=true:=by simp [addD]
theorem addD_of {D:Nat→Bool} {i j:Nat} (h:D j=true):addD D i j=true:=by simp [addD,h]
theorem addD_ne {D:Nat→Bool} {i j:Nat} (h:j≠i):addD D i j=D j:=by
 have:Nat.beq j i=false:=by
  cases e:Nat.beq j i with
  | false=>rfl
  | true=>exact absurd (Nat.eq_of_beq_eq_true e) h
 simp [addD,this]
theorem lg_all {α:Type} {D:Nat→Bool} {h0:List (Nat×α)} {f:Rec→List (Nat×α)} {id:Nat}:∀ {rv:Rv},get (lg D h0 f rv) id=none→∀ j r,(j,r)∈rv→D j=true→get (f r) id=none
 | [],_,_,_,hm,_=>by cases hm
 | (i,s)::rv,h,j,r,hm,hD=>by
   rw [lg_cons] at h
   rcases List.mem_cons.1 hm with e | hm
   ·cases e
    rw [if_pos hD,get_append] at h
    cases hg:get (f s) id with
    | none=>rfl
    | some a=>rw [hg] at h;cases h
   ·refine lg_all (h0:=h0) (rv:=rv) ?_ j r hm hD
    split at h
    ·rw [get_append] at h
     cases hg:get (f s) id with
     | none=>rw [hg] at h;exact h
     | some a=>rw [hg] at h;cases h
    ·exact h
theorem lg_top {α:Type} {D:Nat→Bool} {h0:List (Nat×α)} {f:Rec→List (Nat×α)} {id:Nat} {i:Nat} {r:Rec} {rv:Rv} {a:α} (hD:D i=true) (hr:get (f r) id=some a) :
  ∀ {l:Rv},(∀ j s,(j,s)∈l→D j=true→get (f s) id=none)→get (lg D h0 f (l++(i,r)::rv)) id=some a
 | [],_=>by rw [List.nil_append,lg_cons,if_pos hD,get_append,hr]
 | (j,s)::l,h=>by
   rw [List.cons_append,lg_cons]
   have ih:=lg_top (h0:=h0) (rv:=rv) hD hr (l:=l) fun j s hm=>h j s (List.mem_cons_of_mem _ hm)
   split
   ·rename_i hj
    rw [get_append,h j s (by simp) hj]
    exact ih
   ·exact ih
section
variable {cc:Cc} {E:Ents} {nst:Fr→Hp→Nr} {nt:Nat} {T0:List (Nat×SV)} {H0:Hp} {ops:Array Oper} {C:Ct} {hc:Nat→Option Obj} {w0:World}
def mixN {α:Type} (a b:Nat) (f g:Nat→Option α):Nat→Option α:=fun i=>if a≤i∧i < b then f i else g i
theorem mixN_in {α:Type} {a b i:Nat} {f g:Nat→Option α} (h1:a≤i) (h2:i < b):mixN a b f g i=f i:=if_pos ⟨h1,h2⟩
theorem mixN_out {α:Type} {a b i:Nat} {f g:Nat→Option α} (h:i < a∨b≤i):mixN a b f g i=g i:=if_neg (by omega)
theorem mixN_cut {α:Type} {a b:Nat} (_:a≤b) {f g:Nat→Option α} (h1:∀ i,i < a→f i=g i) (h2:∀ i,b≤i→f i=none):(fun i=>if i < b then mixN a b f g i else none)=f:=by
 funext i
 by_cases hi:i < b
 ·rw [if_pos hi]
  by_cases ha:a≤i
  ·exact mixN_in ha hi
  ·rw [mixN_out (.inl (by omega))];exact (h1 i (by omega)).symm
 ·rw [if_neg hi];exact (h2 i (by omega)).symm
theorem mixN_le {α:Type} {a b:Nat} {f g:Nat→Option α} (h:∀ i,a≤i→i < b→g i=none) (i:Nat) (x:α) (e:g i=some x):mixN a b f g i=some x:=by
 by_cases hi:a≤i∧i < b
 ·rw [h i hi.1 hi.2] at e;cases e
 ·rw [mixN_out (by omega)];exact e
theorem Tn.of_lrnO {ρ ρ':Dyn} {H H':Hp} {w w':World} {ex:Option (SB×Bool)} (h:Tn ρ (H.lrnO ex) w ρ' H' w'):Tn ρ H w ρ' H' w':=by
 cases ex with
 | none=>exact h
 | some f=>
   obtain ⟨l,hl⟩:=h.ext.facts
   exact ⟨⟨h.ag.bl,h.ag.di,h.ag.dv⟩,⟨h.ext.heap,h.ext.nb,h.ext.nd,h.ext.nv,⟨l++[f],by rw [hl];show l++(f.1,f.2)::H.facts=_;simp⟩,h.ext.phis⟩,h.size,h.new,h.same⟩
theorem KK.step (hcc:cc.Ok C) (hE:EntsOk cc C E) (hn:NstOk cc C nst) {ρ0 ρ:Dyn} {W0 w:World} {tmps:Array Value} {D:Nat→Bool} (hb:∀ id bk,get H0.heap id=some bk→id < H0.nb) {rvF:Rv} {nF:Cn} (hg:Good cc E nst nt T0 H0 ops rvF nF) (k:KK C hc w0 nt T0 H0 rvF nF ρ0 W0 D ρ tmps w)
  {i:Nat} {r:Rec} (hir:(i,r)∈rvF) (hcl:Closed D rvF) (hi:D i=false) (hpr:∀ k∈r.pr,D k=true) (hx:∀ f,r.ex=some f→f.1.den C.σ (ρ.cut r.n0)=some f.2)
  {rest:List Nat} {kk:List Item} {df:List Deferred} {ro:Option Nat} {fn:FuncId} {cs:List Frame} :
  ∃ ρ' tmps' w',KK C hc w0 nt T0 H0 rvF nF ρ0 W0 (addD D i) ρ' tmps' w'∧
    Steps cc.P (lone ((bF fn ro).atR { tmps:=tmps,defers:=df } (.inRegion ops (i::rest)::kk)) cs w) (lone ((bF fn ro).atR { tmps:=tmps',defers:=df } (.inRegion ops rest::kk)) cs w'):=by
 obtain ⟨l,rv,n,e1,e2,e3,e4,e5,e6⟩:=hg.split hir
 obtain ⟨o,H',p1,p2,p3,p4,_,p5,p6,p7,p8,p9⟩:=e3.op
 obtain ⟨hk,hc',q1,q2,q3,q4⟩:=k.know hb hg e1 e2 e3 e4 e5 hcl hi hpr
 rw [e4] at p1
 have q3':HpRel C hc' w0 (ρ.cut n) ((hiOf H0 rv n r.vis r.pr).lrnO r.ex) w:=by
  cases hex:r.ex with
  | none=>exact q3
  | some f=>exact q3.fact (by rw [← e3.n0];exact hx f hex)
 obtain ⟨ρs,u,w',tn0,hz,hr',hst⟩:=doOp_ok hcc hE hn (ops:=ops) (o:=o) (i:=i) (rest:=rest) (k:=kk) (cs:=cs) (df:=df) (ro:=ro) (fn:=fn) q3' q4 p1 p5
 have tn:=tn0.of_lrnO
 have dh:H'.heap=r.dh++(hiOf H0 rv n r.vis r.pr).heap:=by
  obtain ⟨x,hx⟩:=tn.ext.heap;rw [p6,diff_eq hx];exact hx
 have dp:H'.phis=r.dp++(hiOf H0 rv n r.vis r.pr).phis:=by
  obtain ⟨x,hx⟩:=tn.ext.phis;rw [p7,diff_eq hx];exact hx
 have dq:H'.facts=r.dq++(hiOf H0 rv n r.vis r.pr).facts:=by
  obtain ⟨x,hx⟩:=tn.ext.facts;rw [p8,diff_eq hx];exact hx
 have hle:=e3.le
 have cb:r.n1.b=H'.nb:=by rw [p9];rfl
 have cd:r.n1.d=H'.nd:=by rw [p9];rfl
 have cv:r.n1.v=H'.nv:=by rw [p9];rfl
 obtain ⟨un1,un2,un3⟩:=k.un i r hir hi
 rw [e3.n0] at un1 un2 un3
 let ρn:Dyn:={ bl:=mixN n.b r.n1.b ρs.bl ρ.bl,di:=mixN n.d r.n1.d ρs.di ρ.di,dv:=mixN n.v r.n1.v ρs.dv ρ.dv }
 have hcutb:∀ x,x < n.b→(ρ.cut n).bl x=ρ.bl x:=fun x hx=>if_pos hx
 have hold:∀ x,x < n.b→ρs.bl x=ρ.bl x:=fun x hx=>(tn.ag.bl x hx).trans (hcutb x hx)
 have F1:ρn.cut r.n1=ρs:=by
  have a1:=mixN_cut (f:=ρs.bl) (g:=ρ.bl) hle.1 hold (fun x hx=>hr'.fb x (by rw [cb] at hx;exact hx))
  have a2:=mixN_cut (f:=ρs.di) (g:=ρ.di) hle.2.1 (fun x hx=>(tn.ag.di x hx).trans (if_pos hx)) (fun x hx=>hr'.fd x (by rw [cd] at hx;exact hx))
  have a3:=mixN_cut (f:=ρs.dv) (g:=ρ.dv) hle.2.2 (fun x hx=>(tn.ag.dv x hx).trans (if_pos hx)) (fun x hx=>hr'.fv x (by rw [cv] at hx;exact hx))
  simp only [Dyn.cut,ρn]
  rw [a1,a2,a3]
 have F2:ρ.Le ρn:=⟨fun x y=>mixN_le un1 x y,fun x y=>mixN_le un2 x y,fun x y=>mixN_le un3 x y⟩
 have F3:ρs.Le ρn:=by rw [← F1];exact Dyn.cut_le ρn _
 have Fin:∀ x,x < r.n1.b→ρn.bl x=ρs.bl x:=fun x hx=>by
  by_cases h:n.b≤x
  ·exact mixN_in h hx
  ·show mixN _ _ _ _ x=_
   rw [mixN_out (.inl (by omega))];exact (hold x (by omega)).symm
 have Flow:∀ x,x < n.b→ρn.bl x=ρ.bl x:=fun x hx=>mixN_out (.inl hx)
 have hdh:∀ id bk,get r.dh id=some bk→get H'.heap id=some bk:=fun id bk h=>by rw [dh,get_append,h]
 have hdn:∀ id,get r.dh id=none→get H'.heap id=get (hiOf H0 rv n r.vis r.pr).heap id:=fun id h=>by rw [dh,get_append,h]
 have hlater:∀ j s,(j,s)∈l→addD D i j=true→D j=true∧i ∉ s.pr∧∃ rvj nj,(i,r)∈rvj∧GoodRec cc E nst nt T0 H0 ops rvj nj s∧r.n1.Le nj:=by
  intro j s hs hD
  have hij:=e5 j s hs
  have hDj:D j=true:=by rw [addD_ne (by omega)] at hD;exact hD
  have hjm:(j,s)∈rvF:=by rw [e1];exact List.mem_append_left _ hs
  obtain ⟨lj,rvj,nj,f1,f2,f3,f4,f5,_⟩:=hg.split hjm
  refine ⟨hDj,fun hin=>?_,rvj,nj,?_,f3,?_⟩
  ·have:=hcl j s hjm hDj i hin;rw [hi] at this;cases this
  ·have hi':=hir
   rw [f1] at hi'
   rcases List.mem_append.1 hi' with hm | hm
   ·have:=f5 i r hm;omega
   ·rcases List.mem_cons.1 hm with e | hm
    ·cases e;omega
    ·exact hm
  ·have:=hg.two hir hjm hij;rw [f3.n0] at this;exact this
 have htop:∀ id bk,get r.dh id=some bk→∀ j s,(j,s)∈l→addD D i j=true→get s.dh id=none:=by
  intro id bk hbk j s hs hD
  obtain ⟨_,hin,rvj,nj,him,f3,hle2⟩:=hlater j s hs hD
  cases hgs:get s.dh id with
  | none=>rfl
  | some b2=>
    exfalso
    have h1:=(e3.ids id bk hbk).1
    have h2:=(f3.ids id b2 hgs).2 (Nat.lt_of_lt_of_le h1 hle2.1)
    have h4:=(f3.ap i r him hin).2.2.1 id h2.1
    by_cases hold:id < n.b
    ·obtain ⟨_,bk',h5,_⟩:=(e3.ids id bk hbk).2 hold
     rw [(visH_get h5).1] at h4;cases h4
    ·have hjm:(j,s)∈rvF:=by rw [e1];exact List.mem_append_left _ hs
     have hij:=e5 j s hs
     rcases hg.maker hb hir (by rw [e3.n0];omega) h1 j s b2 hjm hgs with h | h
     ·omega
     ·exact hin h
 have hcongr:∀ id,get r.dh id=none→get (lgC (addD D i) H0.heap (cnOf H0) (fun r=>r.dh) rvF) id=get (lgC D H0.heap (cnOf H0) (fun r=>r.dh) rvF) id:=by
  intro id hnone
  refine lgC_congr fun j s hs hne=>?_
  by_cases hji:j=i
  ·subst hji
   have:=hg.uniq hs hir
   subst this
   exact absurd hnone hne
  ·exact addD_ne hji
 have hnew:∀ id bk,get r.dh id=some bk→get (lgC (addD D i) H0.heap (cnOf H0) (fun r=>r.dh) rvF) id=some (bk,r.n1):=by
  intro id bk hbk
  rw [e1]
  exact lg_top (f:=fun r=>r.dh.map fun p=>(p.1,(p.2,r.n1))) (addD_self D i) (by rw [get_map (fun a=>(a,r.n1)),hbk];rfl) fun j s hs hD=>by rw [get_map (fun a=>(a,s.n1)),htop id bk hbk j s hs hD];rfl
 have hcase:∀ id bk c,get (lgC (addD D i) H0.heap (cnOf H0) (fun r=>r.dh) rvF) id=some (bk,c)→(get r.dh id=some bk∧c=r.n1)∨(get r.dh id=none∧get (lgC D H0.heap (cnOf H0) (fun r=>r.dh) rvF) id=some (bk,c)):=by
  intro id bk c hx
  cases hgr:get r.dh id with
  | none=>rw [hcongr id hgr] at hx;exact .inr ⟨rfl,hx⟩
  | some b2=>rw [hnew id b2 hgr] at hx;cases hx;exact .inl ⟨rfl,rfl⟩
 have hcase':∀ id bk,get (hpD (addD D i) H0.heap rvF) id=some bk→get r.dh id=some bk∨(get r.dh id=none∧get (hpD D H0.heap rvF) id=some bk):=by
  intro id bk hx
  obtain ⟨c,hx⟩:=lgC_of (c0:=cnOf H0) (f:=fun r=>r.dh) hx
  rcases hcase id bk c hx with ⟨h,_⟩ | ⟨h1,h2⟩
  ·exact .inl h
  ·exact .inr ⟨h1,lgC_to h2⟩
 have holdw:∀ id bk b,get r.dh id=some bk→ρn.bl id=some b→b < w.heap.size→∃ id' bk',get (hiOf H0 rv n r.vis r.pr).heap id'=some bk'∧bk'.live=true∧(ρ.cut n).bl id'=some b∧get r.dh id'≠none:=by
  intro id bk b h1 h2 h3
  have hlive:∀ id,id < n.b→get r.dh id≠none→∃ bk',get (hiOf H0 rv n r.vis r.pr).heap id=some bk'∧bk'.live=true:=by
   intro id h5 h6
   cases hg6:get r.dh id with
   | none=>exact absurd hg6 h6
   | some bk6=>exact ((e3.ids id bk6 hg6).2 h5).2
  have h4:=(e3.ids id bk h1).1
  by_cases h5:id < n.b
  ·obtain ⟨bk',h6,h7⟩:=hlive id h5 (by rw [h1];simp)
   exact ⟨id,bk',h6,h7,by rw [hcutb id h5,← Flow id h5];exact h2,by rw [h1];simp⟩
  ·rw [Fin id h4] at h2
   rcases tn.new r.dh dh id b h2 with h | h | ⟨id',h,h'⟩
   ·simp only [Dyn.cut] at h;rw [if_neg h5] at h;cases h
   ·omega
   ·have hid':id' < n.b:=by
     by_cases hc:id' < n.b
     ·exact hc
     ·simp only [Dyn.cut] at h;rw [if_neg hc] at h;cases h
    obtain ⟨bk',h6,h7⟩:=hlive id' hid' h'
    exact ⟨id',bk',h6,h7,h,h'⟩
 have hDbl:∀ id bk,get (hpD D H0.heap rvF) id=some bk→bk.live=true→∃ b o,ρ.bl id=some b∧ρn.bl id=some b∧w.heap[b]? = some o:=by
  intro id bk h hl
  obtain ⟨c,hx⟩:=lgC_of (c0:=cnOf H0) (f:=fun r=>r.dh) h
  obtain ⟨b,o,h1,h2,_⟩:=k.hp id bk c hx hl
  exact ⟨b,o,h1,F2.bl _ _ h1,h2⟩
 have hsz:∀ b (o:Obj),w.heap[b]? = some o→b < w.heap.size:=fun b o h=>(Array.getElem?_eq_some_iff.1 h).1
 have hsame:∀ b,b < w.heap.size→(∀ id bk,get r.dh id=some bk→(ρ.cut n).bl id=some b→False)→w'.heap[b]? = w.heap[b]? := by
  intro b hlt h
  refine tn.same r.dh dh b hlt fun id e=>?_
  cases hgr:get r.dh id with
  | none=>rfl
  | some bk=>exact (h id bk hgr e).elim
 have hUn:∀ b o,Un hc ρ (hpD D H0.heap rvF) w b o→Un hc ρn (hpD (addD D i) H0.heap rvF) w' b o:=by
  rintro b o ⟨h1,h2,h3⟩
  have hlt:=hsz b o h1
  have hno:∀ id bk,get r.dh id=some bk→ρn.bl id=some b→False:=by
   intro id bk h4 h5
   obtain ⟨id',bk',h6,h7,h8,_⟩:=holdw id bk b h4 h5 hlt
   obtain ⟨_,c,h9,_⟩:=hk id' bk' h6
   exact h3 ⟨id',bk',lgC_to h9,h7,(Dyn.cut_le ρ n).bl _ _ h8⟩
  refine ⟨?_,h2,?_⟩
  ·rw [hsame b hlt fun id bk h4 h5=>hno id bk h4 (F2.bl _ _ ((Dyn.cut_le ρ n).bl _ _ h5))]
   exact h1
  ·rintro ⟨id,bk,h4,h5,h6⟩
   rcases hcase' id bk h4 with h7 | ⟨_,h7⟩
   ·exact hno id bk h7 h6
   ·obtain ⟨b',o',h8,h9,_⟩:=hDbl id bk h7 h5
    rw [h6] at h9;cases h9
    exact h3 ⟨id,bk,h7,h5,h8⟩
 have hhid:∀ b o,hc' b=some o→w'.heap[b]? = w.heap[b]? := fun b o h=>by rw [hr'.hid b o h,q1 b o h]
 have htmF:∀ d,get (tmF r) d=none→o.dst≠some d:=by
  intro d h e
  unfold tmF at h
  rw [p3,e] at h
  simp [get_cons] at h
 refine ⟨ρn,(({ tmps:=tmps,defers:=df }:Act).put o.dst u).tmps,w',?_,?_⟩
 ·refine ⟨?_,?_,?_,?_,?_,?_,?_,?_,k.bd,?_,?_,?_,?_,?_,hr'.os,hr'.tape,hr'.output,hr'.size,Nat.le_trans k.sizeW tn.size,?_,?_,?_⟩
  ·
   cases hd:o.dst with
   | none=>exact k.size
   | some d=>show (tmps.setIfInBounds d u).size=nt;simp [k.size]
  ·
   intro t z c hx
   cases hgt:get (tmF r) t with
   | none=>
     have hx':get (lgC D T0 (cnOf H0) tmF rvF) t=some (z,c):=by
      rw [← hx]
      refine (lgC_congr fun j s hs hne=>?_).symm
      by_cases hji:j=i
      ·subst hji
       have:=hg.uniq hs hir
       subst this
       exact absurd hgt hne
      ·exact addD_ne hji
     have h1:=k.tm t z c hx'
     have h2:=htmF t hgt
     have h3:(({ tmps:=tmps,defers:=df }:Act).put o.dst u).tmps.getD t undef=tmps.getD t undef:=by
      cases hd:o.dst with
      | none=>rfl
      | some d=>
        have hdt:d≠t:=fun e=>h2 (by rw [hd,e])
        show (tmps.setIfInBounds d u).getD t undef=_
        simp [Array.getElem?_setIfInBounds_ne hdt]
     rw [h3]
     exact SV.is_mono (Dyn.cut_mono F2 (Cn.Le.refl c)) z _ h1
   | some z0=>
     have hd:r.dst=some t∧z0=r.z:=by
      unfold tmF at hgt
      split at hgt
      ·rename_i d hd
       rw [get_cons] at hgt
       split at hgt
       ·rename_i e;simp only at e;cases hgt;exact ⟨by rw [hd,e],rfl⟩
       ·cases hgt
      ·cases hgt
     have hx2:get (lgC (addD D i) T0 (cnOf H0) tmF rvF) t=some (z0,r.n1):=by
      rw [e1]
      refine lg_top (f:=fun r=>(tmF r).map fun p=>(p.1,(p.2,r.n1))) (addD_self D i) (by rw [get_map (fun a=>(a,r.n1)),hgt];rfl) fun j s hs hD=>?_
      obtain ⟨_,hin,rvj,nj,him,f3,_⟩:=hlater j s hs hD
      have:=((f3.ap i r him hin).1 t hd.1).2
      rw [get_map (fun a=>(a,s.n1))]
      have:get (tmF s) t=none:=by
       unfold tmF
       split
       ·rename_i d' hd'
        rw [get_cons,if_neg]
        ·rfl
        ·intro e;exact this (by rw [hd'];exact congrArg some e)
       ·rfl
      rw [this];rfl
     rw [hx2] at hx
     cases hx
     rw [F1,hd.2]
     have hlt:=e3.dstlt t hd.1
     have ho:o.dst=some t:=by rw [← p3];exact hd.1
     have:(({ tmps:=tmps,defers:=df }:Act).put o.dst u).tmps.getD t undef=u:=by
      rw [ho]
      show (tmps.setIfInBounds t u).getD t undef=u
      have:t < tmps.size:=by rw [k.size];exact hlt
      simp [this]
     rw [this];exact hz
  ·
   intro id bk c hx hl
   rcases hcase id bk c hx with ⟨h1,rfl⟩ | ⟨h1,h2⟩
   ·obtain ⟨b,ob,h3,h4,h5⟩:=hr'.blk id bk (hdh id bk h1) hl
    exact ⟨b,ob,F3.bl _ _ h3,h4,by rw [F1];exact h5⟩
   ·obtain ⟨b,ob,h3,h4,h5⟩:=k.hp id bk c h2 hl
    refine ⟨b,ob,F2.bl _ _ h3,?_,Bk.is_mono (Dyn.cut_mono F2 (Cn.Le.refl c)) h5⟩
    have hownD:Own ρ (hpD D H0.heap rvF) b:=⟨id,bk,lgC_to h2,hl,h3⟩
    cases hcb:hc' b with
    | some o2=>rw [hhid b o2 hcb];exact h4
    | none=>
      obtain ⟨id2,bk2,g1,g2,g3⟩:=((q2 b).1 hcb).2 hownD
      rw [hsame b (hsz b ob h4) fun id3 bk3 h6 h7=>?_]
      ·exact h4
      ·obtain ⟨id4,bk',h8,h9,h10,h12⟩:=holdw id3 bk3 b h6 (F2.bl _ _ ((Dyn.cut_le ρ n).bl _ _ h7)) (hsz b ob h4)
       obtain ⟨_,c3,h11,_⟩:=hk id4 bk' h8
       have:id4=id:=k.inj id4 id bk' bk b (lgC_to h11) h9 (lgC_to h2) hl ((Dyn.cut_le ρ n).bl _ _ h10) h3
       subst this
       exact h12 h1
  ·
   have mix:∀ id id' bk bk' b,get r.dh id=some bk→get r.dh id'=none→get (hpD D H0.heap rvF) id'=some bk'→bk'.live=true→ρn.bl id=some b→ρn.bl id'=some b→id=id':=by
    intro id id' bk bk' b g1 gn g2 l2 b1 b2
    obtain ⟨b',o',h1,h2,h3⟩:=hDbl id' bk' g2 l2
    rw [b2] at h2;cases h2
    obtain ⟨id4,bk2,h4,h5,h6,h8⟩:=holdw id bk b g1 b1 (hsz b o' h3)
    obtain ⟨_,c,h7,_⟩:=hk id4 bk2 h4
    have:id4=id':=k.inj id4 id' bk2 bk' b (lgC_to h7) h5 g2 l2 ((Dyn.cut_le ρ n).bl _ _ h6) h1
    subst this
    exact absurd gn h8
   intro id id' bk bk' b g1 l1 g2 l2 b1 b2
   rcases hcase' id bk g1 with h1 | ⟨h1,h1'⟩<;>rcases hcase' id' bk' g2 with h2 | ⟨h2,h2'⟩
   ·rw [Fin id (e3.ids id bk h1).1] at b1
    rw [Fin id' (e3.ids id' bk' h2).1] at b2
    exact hr'.inj id id' bk bk' b (hdh id bk h1) l1 (hdh id' bk' h2) l2 b1 b2
   ·exact mix id id' bk bk' b h1 h2 h2' l2 b1 b2
   ·exact (mix id' id bk' bk b h2 h1 h1' l1 b2 b1).symm
   ·obtain ⟨c1,_,h3,h4,_⟩:=hDbl id bk h1' l1
    obtain ⟨c2,_,h5,h6,_⟩:=hDbl id' bk' h2' l2
    rw [b1] at h4;cases h4
    rw [b2] at h6;cases h6
    exact k.inj id id' bk bk' b h1' l1 h2' l2 h3 h5
  ·
   exact fun f hf=>SB.den_mono (Dyn.cut_mono F2 (Cn.Le.refl _)) _ _ (k.fc0 f hf)
  ·
   intro j s hs hD f hf
   by_cases hji:j=i
   ·subst hji
    have:=hg.uniq hs hir
    subst this
    rw [F1]
    exact hr'.facts f (by rw [dq];exact List.mem_append_left _ hf)
   ·rw [addD_ne hji] at hD
    exact SB.den_mono (Dyn.cut_mono F2 (Cn.Le.refl _)) _ _ (k.fc j s hs hD f hf)
  ·
   exact fun p hp=>C.mono p _ _ _ _ (Dyn.cut_mono F2 (Cn.Le.refl _)) hUn (k.ph0 p hp)
  ·
   intro j s hs hD p hp
   by_cases hji:j=i
   ·subst hji
    have:=hg.uniq hs hir
    subst this
    rw [F1]
    refine C.mono p _ _ _ _ (Dyn.Le.refl _) ?_ (hr'.phis p (by rw [dp];exact List.mem_append_left _ hp))
    rintro b ob ⟨h1,h2,h3⟩
    refine ⟨h1,((q2 b).1 h2).1,?_⟩
    rintro ⟨id,bk,h4,h5,h6⟩
    rcases hcase' id bk h4 with h7 | ⟨h7,h8⟩
    ·rw [Fin id (e3.ids id bk h7).1] at h6
     exact h3 ⟨id,bk,hdh id bk h7,h5,h6⟩
    ·obtain ⟨b',o',h9,h10,_⟩:=hDbl id bk h8 h5
     rw [h6] at h10;cases h10
     obtain ⟨id2,bk2,g1,g2,g3⟩:=((q2 b).1 h2).2 ⟨id,bk,h8,h5,h9⟩
     obtain ⟨_,c,g4,_⟩:=hk id2 bk2 g1
     have:id2=id:=k.inj id2 id bk2 bk b (lgC_to g4) g2 h8 h5 ((Dyn.cut_le ρ n).bl _ _ g3) h9
     subst this
     refine h3 ⟨id2,bk2,by rw [hdn id2 h7];exact g1,g2,?_⟩
     exact (Dyn.Ag.le q3 tn.ag).bl _ _ g3
   ·rw [addD_ne hji] at hD
    exact C.mono p _ _ _ _ (Dyn.cut_mono F2 (Cn.Le.refl _)) hUn (k.ph j s hs hD p hp)
  ·
   intro j s hs hD
   have hji:j≠i:=fun e=>by subst e;rw [addD_self] at hD;cases hD
   rw [addD_ne hji] at hD
   obtain ⟨h1,h2,h3⟩:=k.un j s hs hD
   have hdis:s.n1.Le n∨r.n1.Le s.n0:=by
    rcases Nat.lt_or_ge j i with h | h
    ·have:=hg.two hs hir h;rw [e3.n0] at this;exact .inl this
    ·exact .inr (hg.two hir hs (by omega))
   refine ⟨fun x a b=>?_,fun x a b=>?_,fun x a b=>?_⟩
   ·show mixN _ _ _ _ x=none
    rw [mixN_out (by rcases hdis with h | h<;>have:=h.1<;>omega)];exact h1 x a b
   ·show mixN _ _ _ _ x=none
    rw [mixN_out (by rcases hdis with h | h<;>have:=h.2.1<;>omega)];exact h2 x a b
   ·show mixN _ _ _ _ x=none
    rw [mixN_out (by rcases hdis with h | h<;>have:=h.2.2<;>omega)];exact h3 x a b
  ·
   refine ⟨fun x a=>?_,fun x a=>?_,fun x a=>?_⟩
   ·show mixN _ _ _ _ x=none
    rw [mixN_out (.inr (by have:=e6.1;omega))];exact k.fin.1 x a
   ·show mixN _ _ _ _ x=none
    rw [mixN_out (.inr (by have:=e6.2.1;omega))];exact k.fin.2.1 x a
   ·show mixN _ _ _ _ x=none
    rw [mixN_out (.inr (by have:=e6.2.2;omega))];exact k.fin.2.2 x a
  ·
   intro x b e
   by_cases hx:n.b≤x∧x < r.n1.b
   ·rw [Fin x hx.2] at e;exact hr'.lt x b e
   ·have e':mixN n.b r.n1.b ρs.bl ρ.bl x=some b:=e
    rw [mixN_out (by omega)] at e'
    exact Nat.lt_of_lt_of_le (k.lt x b e') tn.size
  ·
   intro b ob h
   cases hcb:hc' b with
   | none=>have:=((q2 b).1 hcb).1;rw [h] at this;cases this
   | some o2=>rw [hhid b o2 hcb];exact k.hid b ob h
  ·
   rintro b ⟨id,bk,h1,h2,h3⟩
   rcases hcase' id bk h1 with h4 | ⟨_,h4⟩
   ·rw [Fin id (e3.ids id bk h4).1] at h3
    exact ((q2 b).1 (hr'.nh b ⟨id,bk,hdh id bk h4,h2,h3⟩)).1
   ·obtain ⟨b',_,h5,h6,_⟩:=hDbl id bk h4 h2
    rw [h3] at h6;cases h6
    exact k.nh b ⟨id,bk,h4,h2,h5⟩
  ·
   have hbs:=e2.base
   refine ⟨fun x hx=>?_,fun x hx=>?_,fun x hx=>?_⟩
   ·show mixN _ _ _ _ x=_
    have:H0.nb≤n.b:=hbs.1
    rw [mixN_out (.inl (by omega))];exact k.ag.bl x hx
   ·show mixN _ _ _ _ x=_
    have:H0.nd≤n.d:=hbs.2.1
    rw [mixN_out (.inl (by omega))];exact k.ag.di x hx
   ·show mixN _ _ _ _ x=_
    have:H0.nv≤n.v:=hbs.2.2
    rw [mixN_out (.inl (by omega))];exact k.ag.dv x hx
  ·
   have hup:∀ id,get (hpD D [] rvF) id≠none→get (hpD (addD D i) [] rvF) id≠none:=by
    intro id h h'
    cases hgx:get (hpD D [] rvF) id with
    | none=>exact h hgx
    | some bk=>
      rcases lg_from (f:=fun r=>r.dh) hgx with h | ⟨j,s,h1,h2,h3⟩
      ·cases h
      ·rw [lg_all (f:=fun r=>r.dh) h' j s h1 (addD_of h2)] at h3;cases h3
   have hold':∀ id b,ρ.bl id=some b→ρ0.bl id=some b∨W0.heap.size≤b∨∃ id',ρ0.bl id'=some b∧get (hpD (addD D i) [] rvF) id'≠none:=by
    intro id b e
    rcases k.new id b e with h | h | ⟨id',h1,h2⟩
    ·exact .inl h
    ·exact .inr (.inl h)
    ·exact .inr (.inr ⟨id',h1,hup id' h2⟩)
   intro id b e
   by_cases hx:n.b≤id∧id < r.n1.b
   ·rw [Fin id hx.2] at e
    rcases tn.new r.dh dh id b e with h | h | ⟨id',h,h'⟩
    ·simp only [Dyn.cut] at h;rw [if_neg (by omega)] at h;cases h
    ·exact .inr (.inl (Nat.le_trans k.sizeW h))
    ·rcases hold' id' b ((Dyn.cut_le ρ n).bl _ _ h) with h1 | h1 | h1
     ·exact .inr (.inr ⟨id',h1,fun hn=>h' (lg_all (f:=fun r=>r.dh) hn i r hir (addD_self D i))⟩)
     ·exact .inr (.inl h1)
     ·exact .inr (.inr h1)
   ·have e':mixN n.b r.n1.b ρs.bl ρ.bl id=some b:=e
    rw [mixN_out (by omega)] at e'
    exact hold' id b e'
  ·
   intro b hlt hno
   have hall:∀ id,ρ0.bl id=some b→∀ j s,(j,s)∈rvF→addD D i j=true→get s.dh id=none:=fun id e=>lg_all (f:=fun r=>r.dh) (hno id e)
   rw [hsame b (Nat.lt_of_lt_of_le hlt k.sizeW) fun id bk h1 h2=>?_]
   ·refine k.same b hlt fun id e=>?_
    cases hgx:get (hpD D [] rvF) id with
    | none=>rfl
    | some bk=>
      rcases lg_from (f:=fun r=>r.dh) hgx with h | ⟨j,s,h1,h2,h3⟩
      ·cases h
      ·rw [hall id e j s h1 (addD_of h2)] at h3;cases h3
   ·rcases k.new id b ((Dyn.cut_le ρ n).bl _ _ h2) with h | h | ⟨id',h,h'⟩
    ·rw [hall id h i r hir (addD_self D i)] at h1;cases h1
    ·omega
    ·cases hgx:get (hpD D [] rvF) id' with
     | none=>exact h' hgx
     | some bk'=>
       rcases lg_from (f:=fun r=>r.dh) hgx with h3 | ⟨j,s,h3,h4,h5⟩
       ·cases h3
       ·rw [hall id' h j s h3 (addD_of h4)] at h5;cases h5
 ·have hdf:(({ tmps:=tmps,defers:=df }:Act).put o.dst u)={ tmps:=(({ tmps:=tmps,defers:=df }:Act).put o.dst u).tmps,defers:=df }:=by
   cases o.dst<;>rfl
  rw [← hdf]
  exact hst
theorem Closed.add {D:Nat→Bool} {rvF:Rv} {nF:Cn} (hg:Good cc E nst nt T0 H0 ops rvF nF) (h:Closed D rvF) {i:Nat} {r:Rec} (hir:(i,r)∈rvF) (hpr:∀ k∈r.pr,D k=true):Closed (addD D i) rvF:=by
 intro j s hs hD x hx
 by_cases hji:j=i
 ·subst hji
  have:=hg.uniq hs hir
  subst this
  exact addD_of (hpr x hx)
 ·rw [addD_ne hji] at hD
  exact addD_of (h j s hs hD x hx)
end
end Go.Sx
