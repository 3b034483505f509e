/- A symbolic executor: regions that draw their order: one operation more. -/
import Derived.Test.YtfgdpkceoadgjaaSxN
namespace Go.Sx
set_option linter.unusedSectionVars false
set_option linter.unusedVariables false
set_option linter.unusedSimpArgs false
open Go.RowKit
section
variable (cc:Cc) (E:Ents) (nst:Fr→Hp→Nr) (nt:Nat) (T0:List (Nat×SV)) (H0:Hp) (ops:Array Oper)
structure GoodRec (rv:Rv) (n:Cn) (r:Rec):Prop where
 le:n.Le r.n1
 prlt:∀ j∈r.pr,j < rv.length
 prcl:∀ j∈r.pr,∀ rj,(j,rj)∈rv→∀ k∈rj.pr,k∈r.pr
 ap:∀ j rj,(j,rj)∈rv→j ∉ r.pr→(∀ d,rj.dst=some d→d ∉ r.lk∧r.dst≠some d)∧(∀ d,r.dst=some d→d ∉ rj.lk)∧(∀ id∈r.wo,seesV rj.vis id=false)∧(∀ id∈rj.wo,seesV r.vis id=false)
 ids:∀ id bk,get r.dh id=some bk→id < r.n1.b∧(id < n.b→id∈r.wo∧∃ bk',get (hiOf H0 rv n r.vis r.pr).heap id=some bk'∧bk'.live=true)
 dstlt:∀ d,r.dst=some d→d < nt
 op:∃ o H',ops[rv.length]? = some o∧r.lk=o.looksAt ops∧r.dst=o.dst∧(∀ e∈o.after,Region.binds .any e=true→e.on∈r.pr)∧
  (∀ j∈r.pr,∃ e∈o.after,Region.binds .any e=true∧(j=e.on∨∃ r',(e.on,r')∈rv∧j∈r'.pr))∧
  doOp cc E nst ((hiOf H0 rv n r.vis r.pr).lrnO r.ex) (tlOf T0 rv r.pr r.lk) ops o=.ok r.z H'∧r.dh=diff H'.heap (hiOf H0 rv n r.vis r.pr).heap∧r.dp=diff H'.phis (hiOf H0 rv n r.vis r.pr).phis∧r.dq=diff H'.facts (hiOf H0 rv n r.vis r.pr).facts∧r.n1=cnOf H'
 n0:r.n0=n
inductive Good:Rv→Cn→Prop
 | nil:Good [] (cnOf H0)
 | cons {rv:Rv} {n:Cn} {r:Rec}:Good rv n→GoodRec cc E nst nt T0 H0 ops rv n r→Good ((rv.length,r)::rv) r.n1
end
section
variable {cc:Cc} {E:Ents} {nst:Fr→Hp→Nr} {nt:Nat} {T0:List (Nat×SV)} {H0:Hp} {ops:Array Oper}
theorem Good.idx {rv:Rv} {n:Cn} (h:Good cc E nst nt T0 H0 ops rv n):∀ j r,(j,r)∈rv→j < rv.length:=by
 induction h with
 | nil=>intro j r hm;cases hm
 | cons _ _ ih=>
   intro j r hm
   rcases List.mem_cons.1 hm with e | hm
   ·cases e;simp
   ·have:=ih j r hm;simp;omega
theorem Good.split {rv:Rv} {n:Cn} (h:Good cc E nst nt T0 H0 ops rv n) {i:Nat} {r:Rec} (hm:(i,r)∈rv) :
  ∃ l rv' n',rv=l++(i,r)::rv'∧Good cc E nst nt T0 H0 ops rv' n'∧GoodRec cc E nst nt T0 H0 ops rv' n' r∧rv'.length=i∧(∀ j s,(j,s)∈l→i < j)∧r.n1.Le n:=by
 induction h with
 | nil=>cases hm
 | @cons rv0 n0 r0 hg hr ih=>
   rcases List.mem_cons.1 hm with e | hm
   ·cases e
    exact ⟨[],rv0,n0,rfl,hg,hr,rfl,by simp,Cn.Le.refl _⟩
   ·obtain ⟨l,rv',n',h1,h2,h3,h4,h5,h6⟩:=ih hm
    refine ⟨(rv0.length,r0)::l,rv',n',by rw [h1];rfl,h2,h3,h4,?_,h6.trans hr.le⟩
    intro j s hs
    rcases List.mem_cons.1 hs with e | hs
    ·cases e
     rw [h1];simp;omega
    ·exact h5 j s hs
theorem Good.uniq {rv:Rv} {n:Cn} (h:Good cc E nst nt T0 H0 ops rv n) {i:Nat} {r r':Rec} (hm:(i,r)∈rv) (hm':(i,r')∈rv):r=r':=by
 induction h with
 | nil=>cases hm
 | @cons rv0 n0 r0 hg hr ih=>
   rcases List.mem_cons.1 hm with e | hm1<;>rcases List.mem_cons.1 hm' with e' | hm2
   ·cases e;cases e';rfl
   ·cases e;have:=hg.idx _ _ hm2;omega
   ·cases e';have:=hg.idx _ _ hm1;omega
   ·exact ih hm1 hm2
theorem Good.mono {rv:Rv} {n:Cn} (h:Good cc E nst nt T0 H0 ops rv n) {j:Nat} {r:Rec} (hm:(j,r)∈rv):r.n1.Le n:=by
 obtain ⟨_,_,_,_,_,_,_,_,h6⟩:=h.split hm
 exact h6
theorem Good.base {rv:Rv} {n:Cn} (h:Good cc E nst nt T0 H0 ops rv n):(cnOf H0).Le n:=by
 induction h with
 | nil=>exact Cn.Le.refl _
 | cons _ hr ih=>exact ih.trans hr.le
theorem Good.two {rv:Rv} {n:Cn} (h:Good cc E nst nt T0 H0 ops rv n) {i j:Nat} {r s:Rec} (hi:(i,r)∈rv) (hj:(j,s)∈rv) (hlt:i < j):r.n1.Le s.n0:=by
 obtain ⟨l,rv',n',h1,h2,h3,h4,h5,_⟩:=h.split hj
 rw [h3.n0]
 rw [h1] at hi
 rcases List.mem_append.1 hi with hi | hi
 ·have:=h5 i r hi;omega
 ·rcases List.mem_cons.1 hi with e | hi
  ·cases e;omega
  ·exact h2.mono hi
theorem Good.mem {rv:Rv} {n:Cn} (h:Good cc E nst nt T0 H0 ops rv n) {i:Nat} (hi:i < rv.length):∃ r,(i,r)∈rv:=by
 induction h with
 | nil=>simp at hi
 | @cons rv0 n0 r0 hg hr ih=>
   by_cases e:i=rv0.length
   ·subst e;exact ⟨r0,by simp⟩
   ·obtain ⟨r,hr'⟩:=ih (by simp at hi;omega)
    exact ⟨r,List.mem_cons_of_mem _ hr'⟩
theorem Good.maker (hb:∀ id bk,get H0.heap id=some bk→id < H0.nb) {rv:Rv} {n:Cn} (h:Good cc E nst nt T0 H0 ops rv n) {j:Nat} {rj:Rec} (hj:(j,rj)∈rv) {id:Nat} (h1:rj.n0.b≤id) (h2:id < rj.n1.b) :
  ∀ p rp bk,(p,rp)∈rv→get rp.dh id=some bk→p=j∨j∈rp.pr:=by
 intro p
 induction p using Nat.strongRecOn with
 | _ p ih=>
   intro rp bk hp hg
   obtain ⟨l,rv',n',e1,e2,e3,e4,e5,_⟩:=h.split hp
   by_cases hpj:p=j
   ·exact .inl hpj
   right
   obtain ⟨k1,k2⟩:=e3.ids id bk hg
   have hold:id < n'.b:=by
    rcases Nat.lt_or_ge p j with hlt | hge
    ·have:=(h.two hp hj hlt).1;omega
    ·have:=(h.two hj hp (by omega)).1
     rw [e3.n0] at this;omega
   obtain ⟨_,bk',hbk',hlv⟩:=k2 hold
   have hbk':=(visH_get hbk').2
   rcases lg_from hbk' with hb0 | ⟨q,rq,hq,hqD,hqg⟩
   ·have:=hb id bk' hb0
    have h3:=(h.mono hj)
    have:H0.nb≤rj.n0.b:=by
     obtain ⟨_,rv2,n2,_,g2,g3,_⟩:=h.split hj
     rw [g3.n0];exact g2.base.1
    omega
   ·have hqpr:q∈rp.pr:=lmem_iff.1 hqD
    have hqlt:q < p:=by have:=e3.prlt q hqpr;omega
    have hqm:(q,rq)∈rv:=by rw [e1];exact List.mem_append_right _ (List.mem_cons_of_mem _ hq)
    rcases ih q hqlt rq bk' hqm hqg with e | e
    ·subst e;exact hqpr
    ·exact e3.prcl q hqpr rq hq j e
def Closed (D:Nat→Bool) (rv:Rv):Prop:=∀ j r,(j,r)∈rv→D j=true→∀ k∈r.pr,D k=true
theorem agree_hp (hb:∀ id bk,get H0.heap id=some bk→id < H0.nb) {rvF:Rv} {nF:Cn} (h:Good cc E nst nt T0 H0 ops rvF nF) {l rv:Rv} {n:Cn} {i:Nat} {r:Rec} (e1:rvF=l++(i,r)::rv) (e3:GoodRec cc E nst nt T0 H0 ops rv n r) (e4:rv.length=i) (e5:∀ j s,(j,s)∈l→i < j)
  {D:Nat→Bool} (hcl:Closed D rvF) (hi:D i=false) (hpr:∀ k∈r.pr,D k=true) {id:Nat} (hsee:seesV r.vis id=true) {x:Bk×Cn} (hx:get (lgC (lmem r.pr) H0.heap (cnOf H0) (fun r=>r.dh) rv) id=some x) :
  get (lgC D H0.heap (cnOf H0) (fun r=>r.dh) rvF) id=some x:=by
 have hir:(i,r)∈rvF:=by rw [e1];simp
 have hw:get (lgC (lmem r.pr) H0.heap (cnOf H0) (fun r=>r.dh) rvF) id=some x:=by
  rw [e1]
  unfold lgC at hx ⊢
  rw [lg_none (fun j s hs=>?_),lg_cons]
  ·rw [if_neg]
   ·exact hx
   ·intro hc
    have:=e3.prlt i (lmem_iff.1 hc);omega
  ·cases hc:lmem r.pr j with
   | false=>rfl
   | true=>have:=e3.prlt j (lmem_iff.1 hc);have:=e5 j s hs;omega
 rw [← hw]
 refine (lgC_congr fun j rj hj hne=>?_).symm
 cases hjp:lmem r.pr j with
 | true=>exact (hpr j (lmem_iff.1 hjp)).symm ▸ rfl
 | false=>
   cases hDj:D j with
   | false=>rfl
   | true=>
     exfalso
     have hjnot:j ∉ r.pr:=fun hc=>by rw [lmem_iff.2 hc] at hjp;cases hjp
     have hji:j≠i:=fun e=>by subst e;rw [hi] at hDj;cases hDj
     obtain ⟨bkj,hbkj⟩:∃ b,get rj.dh id=some b:=by
      cases hg:get rj.dh id with
      | none=>exact absurd hg hne
      | some b=>exact ⟨b,rfl⟩
     obtain ⟨lj,rvj,nj,f1,f2,f3,f4,f5,_⟩:=h.split hj
     obtain ⟨k1,k2⟩:=f3.ids id bkj hbkj
     by_cases hold:id < nj.b
     ·have hwr:=(k2 hold).1
      rcases Nat.lt_or_ge j i with hlt | hge
      ·have hjm:(j,rj)∈rv:=by
        have hj':=hj
        rw [e1] at hj'
        rcases List.mem_append.1 hj' with hm | hm
        ·have:=e5 j rj hm;omega
        ·rcases List.mem_cons.1 hm with e | hm
         ·cases e;exact absurd rfl hji
         ·exact hm
       have:=(e3.ap j rj hjm hjnot).2.2.2 id hwr
       rw [hsee] at this;cases this
      ·have him:(i,r)∈rvj:=by
        have hi':=hir
        rw [f1] at hi'
        rcases List.mem_append.1 hi' with hm | hm
        ·have:=f5 i r hm;omega
        ·rcases List.mem_cons.1 hm with e | hm
         ·cases e;exact absurd rfl hji
         ·exact hm
       by_cases hin:i∈rj.pr
       ·have:=hcl j rj hj hDj i hin
        rw [hi] at this;cases this
       ·have:=(f3.ap i r him hin).2.2.1 id hwr
        rw [hsee] at this;cases this
     ·
      have hn0:rj.n0.b≤id:=by rw [f3.n0];omega
      rcases lgC_from (c:=x.2) (a:=x.1) hx with ⟨hb0,_⟩ | ⟨q,rq,hq,hqD,hqg,_⟩
      ·have:=hb id x.1 hb0
       have:H0.nb≤nj.b:=f2.base.1
       omega
      ·have hqm:(q,rq)∈rvF:=by rw [e1];exact List.mem_append_right _ (List.mem_cons_of_mem _ hq)
       rcases h.maker hb hj hn0 k1 q rq x.1 hqm hqg with e | e
       ·subst e;exact hjnot (lmem_iff.1 hqD)
       ·exact hjnot (e3.prcl q (lmem_iff.1 hqD) rq hq j e)
theorem agree_tm {rvF:Rv} {nF:Cn} (h:Good cc E nst nt T0 H0 ops rvF nF) {l rv:Rv} {n:Cn} {i:Nat} {r:Rec} (e1:rvF=l++(i,r)::rv) (e3:GoodRec cc E nst nt T0 H0 ops rv n r) (e4:rv.length=i) (e5:∀ j s,(j,s)∈l→i < j)
  {D:Nat→Bool} (hcl:Closed D rvF) (hi:D i=false) (hpr:∀ k∈r.pr,D k=true) {t:Nat} (ht:t∈r.lk) {x:SV×Cn} (hx:get (lgC (lmem r.pr) T0 (cnOf H0) tmF rv) t=some x) :
  get (lgC D T0 (cnOf H0) tmF rvF) t=some x:=by
 have hir:(i,r)∈rvF:=by rw [e1];simp
 have hw:get (lgC (lmem r.pr) T0 (cnOf H0) tmF rvF) t=some x:=by
  rw [e1]
  unfold lgC at hx ⊢
  rw [lg_none (fun j s hs=>?_),lg_cons]
  ·rw [if_neg]
   ·exact hx
   ·intro hc
    have:=e3.prlt i (lmem_iff.1 hc);omega
  ·cases hc:lmem r.pr j with
   | false=>rfl
   | true=>have:=e3.prlt j (lmem_iff.1 hc);have:=e5 j s hs;omega
 rw [← hw]
 refine (lgC_congr fun j rj hj hne=>?_).symm
 cases hjp:lmem r.pr j with
 | true=>exact (hpr j (lmem_iff.1 hjp)).symm ▸ rfl
 | false=>
   cases hDj:D j with
   | false=>rfl
   | true=>
     exfalso
     have hjnot:j ∉ r.pr:=fun hc=>by rw [lmem_iff.2 hc] at hjp;cases hjp
     have hji:j≠i:=fun e=>by subst e;rw [hi] at hDj;cases hDj
     have hdj:rj.dst=some t:=by
      unfold tmF at hne
      split at hne
      ·rename_i d hd
       rw [get_cons] at hne
       split at hne
       ·rename_i e;simp only at e;rw [hd,e]
       ·exact absurd rfl hne
      ·exact absurd rfl hne
     obtain ⟨lj,rvj,nj,f1,f2,f3,f4,f5,_⟩:=h.split hj
     rcases Nat.lt_or_ge j i with hlt | hge
     ·have hjm:(j,rj)∈rv:=by
       have hj':=hj
       rw [e1] at hj'
       rcases List.mem_append.1 hj' with hm | hm
       ·have:=e5 j rj hm;omega
       ·rcases List.mem_cons.1 hm with e | hm
        ·cases e;exact absurd rfl hji
        ·exact hm
      exact ((e3.ap j rj hjm hjnot).1 t hdj).1 ht
     ·have him:(i,r)∈rvj:=by
       have hi':=hir
       rw [f1] at hi'
       rcases List.mem_append.1 hi' with hm | hm
       ·have:=f5 i r hm;omega
       ·rcases List.mem_cons.1 hm with e | hm
        ·cases e;exact absurd rfl hji
        ·exact hm
      by_cases hin:i∈rj.pr
      ·have:=hcl j rj hj hDj i hin
       rw [hi] at this;cases this
      ·exact (f3.ap i r him hin).2.1 t hdj ht
end
end Go.Sx
