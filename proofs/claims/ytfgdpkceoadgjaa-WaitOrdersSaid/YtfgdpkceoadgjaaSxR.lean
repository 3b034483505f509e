/- A symbolic executor: regions that draw their order: from the first operation to the last. -/
import Derived.Test.YtfgdpkceoadgjaaSxQ
namespace Go.Sx
set_option linter.unusedSectionVars false
set_option linter.unusedVariables false
set_option linter.unusedSimpArgs false
open Go.RowKit
section
variable {cc:Cc} {E:Ents} {nst:Fr→Hp→Nr} {nt:Nat} {T0:List (Nat×SV)} {H0:Hp} {ops:Array Oper} {C:Ct} {hc:Nat→Option Obj} {w0:World}
theorem Good.get {rv:Rv} {n:Cn} (h:Good cc E nst nt T0 H0 ops rv n) {i:Nat} {r:Rec} (hm:(i,r)∈rv):Go.Sx.get rv i=some r:=by
 have hex:∀ {rv:Rv},(i,r)∈rv→∃ r',Go.Sx.get rv i=some r':=by
  intro rv hm
  induction rv with
  | nil=>cases hm
  | cons p rv ih=>
    rw [get_cons]
    split
    ·exact ⟨_,rfl⟩
    ·rename_i hne
     rcases List.mem_cons.1 hm with e | hm
     ·rw [← e] at hne;exact absurd rfl hne
     ·exact ih hm
 obtain ⟨r',hr'⟩:=hex hm
 rw [hr',h.uniq hm (get_mem hr')]
theorem blt_iff {a b:Nat}:Nat.blt a b=true↔a < b:=by simp [Nat.blt_eq]
theorem opX_ok {rv:Rv} {n:Cn} (hg:Good cc E nst nt T0 H0 ops rv n) {o:Oper} (ho:ops[rv.length]? = some o) {ex:Option (SB×Bool)} {r:Rec} (h:opX cc E nst nt T0 H0 ops rv n o ex=.ok r):GoodRec cc E nst nt T0 H0 ops rv n r:=by
 unfold opX at h
 split at h
 ·cases h
 ·rename_i pr hpr
  obtain ⟨p1,p2,p3,p4⟩:=predsOf_ok hpr
  simp only at h
  cases hdst:(dstLt nt o.dst) with
  | false=>rw [hdst] at h;cases h
  | true=>
    rw [hdst,cond_true] at h
    split at h
    ·rename_i z H' hdo
     split at h
     ·rename_i r' hmk
      cases h
      unfold mkRec at hmk
      simp only at hmk
      cases c1:(Nat.ble n.b H'.nb && (Nat.ble n.d H'.nd && Nat.ble n.v H'.nv)) with
      | false=>rw [c1] at hmk;cases hmk
      | true=>
        rw [c1,cond_true] at hmk
        cases c2:okOps rv pr (o.looksAt ops) o.dst (visOf (tlOf T0 rv pr (o.looksAt ops)) o.op) (oldIds n.b (diff H'.heap (hiOf H0 rv n (visOf (tlOf T0 rv pr (o.looksAt ops)) o.op) pr).heap)) with
        | false=>rw [c2] at hmk;cases hmk
        | true=>
          rw [c2,cond_true] at hmk
          cases c3:okIds (hiOf H0 rv n (visOf (tlOf T0 rv pr (o.looksAt ops)) o.op) pr) H'.nb (diff H'.heap (hiOf H0 rv n (visOf (tlOf T0 rv pr (o.looksAt ops)) o.op) pr).heap) with
          | false=>rw [c3] at hmk;cases hmk
          | true=>
            rw [c3,cond_true] at hmk
            cases hmk
            simp only [Bool.and_eq_true,Nat.ble_eq] at c1
            refine ⟨⟨c1.1,c1.2.1,c1.2.2⟩,?_,?_,?_,?_,?_,⟨o,H',ho,rfl,rfl,fun e he=>p1 e (Array.mem_toList_iff.2 he),?_,hdo,rfl,rfl,rfl,rfl⟩,rfl⟩
            ·intro j hj
             obtain ⟨q,s,h1,h2⟩:=p2 j hj
             have hq:=hg.idx q s (get_mem h1)
             rcases h2 with rfl | h2
             ·exact hq
             ·obtain ⟨_,rv',n',f1,f2,f3,f4,_⟩:=hg.split (get_mem h1)
              have:=f3.prlt j h2
              rw [f4] at this
              exact Nat.lt_trans this hq
            ·intro j hj rj hm x hx
             obtain ⟨e,he,hb,h2⟩:=p4 j hj
             rcases h2 with h2 | ⟨s,h2,h3⟩
             ·subst h2
              exact p3 e he hb rj (hg.get hm) x hx
             ·obtain ⟨l',rv',n',f1,f2,f3,f4,f5,_⟩:=hg.split (get_mem h2)
              refine p3 e he hb s h2 x (f3.prcl j h3 rj ?_ x hx)
              have hlt:=f3.prlt j h3
              rw [f1] at hm
              rcases List.mem_append.1 hm with hm | hm
              ·have:=f5 j rj hm;omega
              ·rcases List.mem_cons.1 hm with e' | hm
               ·cases e';omega
               ·exact hm
            ·intro j rj hm hnot
             have hck:=lall_iff.1 c2 (j,rj) hm
             have hmn:lmem pr j=false:=by
              cases e:lmem pr j with
              | false=>rfl
              | true=>exact absurd (lmem_iff.1 e) hnot
             simp only [hmn,cond_false,Bool.and_eq_true] at hck
             obtain ⟨a1,a2,a3,a4,a5⟩:=hck
             refine ⟨fun d hd=>⟨fun hin=>?_,fun hdd=>?_⟩,fun d hd hin=>?_,fun hw hf=>?_,fun hw hf=>?_⟩
             ·rw [hd] at a1
              simp only [offR,lmem_iff.2 hin] at a1;cases a1
             ·have hdd':o.dst=some d:=hdd
              rw [hd,hdd'] at a2
              simp [neD] at a2
             ·have hd':o.dst=some d:=hd
              rw [hd'] at a3
              simp only [offR,lmem_iff.2 hin] at a3;cases a3
             ·have:=lall_iff.1 a4 hw hf
              simpa using this
             ·have:=lall_iff.1 a5 hw hf
              simpa using this
            ·intro id bk hbk
             have hck:=lall_iff.1 c3 (id,bk) (get_mem hbk)
             cases e1:Nat.blt id H'.nb with
             | false=>simp only [e1,cond_false] at hck;cases hck
             | true=>
               simp only [e1,cond_true] at hck
               refine ⟨blt_iff.1 e1,fun hlt=>?_⟩
               have e2:Nat.blt id (hiOf H0 rv n (visOf (tlOf T0 rv pr (o.looksAt ops)) o.op) pr).nb=true:=blt_iff.2 hlt
               simp only [e2,cond_true] at hck
               refine ⟨mem_oldIds (get_mem hbk) hlt,?_⟩
               have h3:=hck
               cases hgx:Go.Sx.get (hiOf H0 rv n (visOf (tlOf T0 rv pr (o.looksAt ops)) o.op) pr).heap id with
               | none=>rw [hgx] at h3;cases h3
               | some bk'=>rw [hgx] at h3;exact ⟨bk',rfl,h3⟩
            ·intro d hd
             have hd':o.dst=some d:=hd
             rw [hd'] at hdst
             exact blt_iff.1 hdst
            ·intro j hj
             obtain ⟨e,he,hb,h2⟩:=p4 j hj
             refine ⟨e,Array.mem_toList_iff.1 he,hb,?_⟩
             rcases h2 with h2 | ⟨s,h2,h3⟩
             ·exact .inl h2
             ·exact .inr ⟨s,get_mem h2,h3⟩
     ·cases h
    ·cases h
    ·cases h
theorem cond_none {α:Type} {c:Bool} {x:Option α} {r:α} (h:(bif c then x else none)=some r):x=some r:=by cases c<;>first | exact h | cases h
theorem opX_rec {rv:Rv} {n:Cn} {o:Oper} {ex:Option (SB×Bool)} {r:Rec} (h:opX cc E nst nt T0 H0 ops rv n o ex=.ok r):r.ex=ex∧predsOf rv o.after.toList=some r.pr∧r.lk=o.looksAt ops∧r.vis=visOf (tlOf T0 rv r.pr r.lk) o.op∧r.n0=n:=by
 unfold opX at h
 split at h
 ·cases h
 ·rename_i pr hpr
  simp only at h
  cases hdst:(dstLt nt o.dst) with
  | false=>rw [hdst] at h;cases h
  | true=>
    rw [hdst,cond_true] at h
    split at h
    ·split at h
     ·rename_i r' hmk
      cases h
      unfold mkRec at hmk
      simp only at hmk
      have hmk:=cond_none (cond_none (cond_none hmk))
      cases hmk;exact ⟨rfl,hpr,rfl,rfl,rfl⟩
     ·cases h
    ·cases h
    ·cases h
theorem opX_ask {rv:Rv} {n:Cn} {o:Oper} {p:SB} (h:opX cc E nst nt T0 H0 ops rv n o none=.ask p):∃ pr,predsOf rv o.after.toList=some pr∧
  doOp cc E nst (hiOf H0 rv n (visOf (tlOf T0 rv pr (o.looksAt ops)) o.op) pr) (tlOf T0 rv pr (o.looksAt ops)) ops o=.ask p:=by
 unfold opX at h
 split at h
 ·cases h
 ·rename_i pr hpr
  simp only at h
  cases hdst:(dstLt nt o.dst) with
  | false=>rw [hdst] at h;cases h
  | true=>
    rw [hdst,cond_true] at h
    split at h
    ·split at h<;>cases h
    ·rename_i q hq
     cases h
     exact ⟨pr,hpr,hq⟩
    ·cases h
theorem opD_ok {rv:Rv} {n:Cn} (hg:Good cc E nst nt T0 H0 ops rv n) {o:Oper} (ho:ops[rv.length]? = some o) {r:Rec} (h:opD cc E nst nt T0 H0 ops rv n o=.ok r):GoodRec cc E nst nt T0 H0 ops rv n r∧r.ex=none:=by
 unfold opD at h
 split at h
 ·rename_i r' hx
  cases h
  exact ⟨opX_ok hg ho hx,(opX_rec hx).1⟩
 ·rename_i p _
  cases hs:p.stat with
  | false=>rw [hs] at h;cases h
  | true=>rw [hs] at h;cases h
 ·cases h
theorem opD_ask {rv:Rv} {n:Cn} {o:Oper} {p:SB} (h:opD cc E nst nt T0 H0 ops rv n o=.ask p):p.stat=true:=by
 unfold opD at h
 split at h
 ·cases h
 ·rename_i q _
  cases hs:q.stat with
  | false=>rw [hs] at h;cases h
  | true=>rw [hs] at h;cases h;exact hs
 ·cases h
theorem drawL_ok:∀ (l:List Oper) (rv:Rv) (n:Cn),Good cc E nst nt T0 H0 ops rv n→(∀ i r,(i,r)∈rv→r.ex=none)→l=ops.toList.drop rv.length→rv.length≤ops.size→
  match drawL cc E nst nt T0 H0 ops l rv.length rv n with
  | .ok T' H'=>∃ rvF nF,Good cc E nst nt T0 H0 ops rvF nF∧(∀ i r,(i,r)∈rvF→r.ex=none)∧rvF.length=ops.size∧T'=tmD (fun _=>true) T0 rvF∧
    H'={ heap:=hpD (fun _=>true) H0.heap rvF,nb:=nF.b,nd:=nF.d,nv:=nF.v,facts:=fcD (fun _=>true) H0.facts rvF,phis:=phD (fun _=>true) H0.phis rvF,bd:=H0.bd }
  | .ask p=>p.stat=true
  | .par _ _=>False
  | .bad _=>True
 | [],rv,n,hg,hpl,hl,hsz=>by
   refine ⟨rv,n,hg,hpl,?_,rfl,rfl⟩
   have:=congrArg List.length hl
   simp at this;omega
 | o::l,rv,n,hg,hpl,hl,hsz=>by
   have ho:ops[rv.length]? = some o:=by
    have:(ops.toList.drop rv.length)[0]? = some o:=by rw [← hl];rfl
    rw [List.getElem?_drop] at this
    simpa using this
   have hlt:rv.length < ops.size:=(Array.getElem?_eq_some_iff.1 ho).1
   show (match (match opD cc E nst nt T0 H0 ops rv n o with
    | .ok r=>drawL cc E nst nt T0 H0 ops l (Nat.succ rv.length) ((rv.length,r)::rv) r.n1
    | .ask p=>.ask p
    | .bad w=>.bad w) with
    | .ok T' H'=>_
    | .ask p=>_
    | .par _ _=>False
    | .bad _=>True)
   cases hop:opD cc E nst nt T0 H0 ops rv n o with
   | ok r=>
     obtain ⟨hr,hrx⟩:=opD_ok hg ho hop
     exact drawL_ok l ((rv.length,r)::rv) r.n1 (.cons hg hr) (fun i r' hm=>by
      rcases List.mem_cons.1 hm with e | hm
      ·cases e;exact hrx
      ·exact hpl i r' hm) (by
      have:=congrArg (List.drop 1) hl
      simpa [List.drop_drop,Nat.add_comm] using this) hlt
   | ask p=>exact opD_ask hop
   | bad w=>trivial
theorem lg_eq {α:Type} {D D':Nat→Bool} {h0:List (Nat×α)} {f:Rec→List (Nat×α)}:∀ {rv:Rv},(∀ j r,(j,r)∈rv→D j=D' j)→lg D h0 f rv=lg D' h0 f rv
 | [],_=>rfl
 | (j,r)::rv,h=>by
   rw [lg_cons,lg_cons,h j r (by simp),lg_eq (rv:=rv) fun j' r' hm=>h j' r' (List.mem_cons_of_mem _ hm)]
theorem KK.congr {rvF:Rv} {nF:Cn} {ρ0 ρ:Dyn} {W0 w:World} {tmps:Array Value} {D D':Nat→Bool} (h:∀ j r,(j,r)∈rvF→D j=D' j) (k:KK C hc w0 nt T0 H0 rvF nF ρ0 W0 D ρ tmps w):KK C hc w0 nt T0 H0 rvF nF ρ0 W0 D' ρ tmps w:=by
 have e1:lgC D T0 (cnOf H0) tmF rvF=lgC D' T0 (cnOf H0) tmF rvF:=lg_eq h
 have e2:lgC D H0.heap (cnOf H0) (fun r=>r.dh) rvF=lgC D' H0.heap (cnOf H0) (fun r=>r.dh) rvF:=lg_eq h
 have e3:hpD D H0.heap rvF=hpD D' H0.heap rvF:=lg_eq h
 have e4:hpD D [] rvF=hpD D' [] rvF:=lg_eq h
 obtain ⟨a1,a2,a3,a4,a5,a6,a7,a8,a9,a10,a11,a12,a13,a14,a15,a16,a17,a18,a19,a20,a21,a22⟩:=k
 rw [e1] at a2
 rw [e2] at a3
 rw [e3] at a4 a7 a8 a14
 rw [e4] at a21 a22
 exact ⟨a1,a2,a3,a4,a5,fun j r hm hD=>a6 j r hm (by rw [h j r hm];exact hD),a7,fun j r hm hD=>a8 j r hm (by rw [h j r hm];exact hD),a9,fun j r hm hD=>a10 j r hm (by rw [h j r hm];exact hD),a11,a12,a13,a14,a15,a16,a17,a18,a19,a20,a21,a22⟩
theorem filter_lt {p q:Nat→Bool}:∀ {l:List Nat},(∀ x∈l,q x=true→p x=true)→(∃ x∈l,p x=true∧q x=false)→(l.filter q).length < (l.filter p).length
 | [],_,h=>by obtain ⟨_,h,_⟩:=h;cases h
 | a::l,h1,⟨x,hx,h2,h3⟩=>by
   have hle:∀ {l:List Nat},(∀ x∈l,q x=true→p x=true)→(l.filter q).length≤(l.filter p).length:=by
    intro l
    induction l with
    | nil=>simp
    | cons b l ih=>
      intro h
      have i:=ih fun x hx=>h x (List.mem_cons_of_mem _ hx)
      rw [List.filter_cons,List.filter_cons]
      split
      ·rename_i hq
       rw [if_pos (h b (by simp) hq)];simpa using i
      ·split
       ·simp;omega
       ·exact i
   rw [List.filter_cons,List.filter_cons]
   rcases List.mem_cons.1 hx with e | hx
   ·subst e
    rw [if_pos h2,if_neg (by rw [h3];simp)]
    have:=hle fun y hy=>h1 y (List.mem_cons_of_mem _ hy)
    simp;omega
   ·have ih:=filter_lt (l:=l) (fun y hy=>h1 y (List.mem_cons_of_mem _ hy)) ⟨x,hx,h2,h3⟩
    split
    ·rename_i hq
     rw [if_pos (h1 a (by simp) hq)];simpa using ih
    ·split
     ·simp;omega
     ·exact ih
theorem KK.all (hcc:cc.Ok C) (hE:EntsOk cc C E) (hn:NstOk cc C nst) (hb:∀ id bk,get H0.heap id=some bk→id < H0.nb) {rvF:Rv} {nF:Cn} (hg:Good cc E nst nt T0 H0 ops rvF nF) (hsz:rvF.length=ops.size) {ρ0:Dyn} {W0:World}
  {kk:List Item} {df:List Deferred} {ro:Option Nat} {fn:FuncId} {cs:List Frame} :
  ∀ (fuel t:Nat) (listed:Array Bool) (ρ:Dyn) (tmps:Array Value) (w:World),listed.size=ops.size→((List.range ops.size).filter fun j=>!listed.getD j false).length≤fuel→
    Closed (fun j=>listed.getD j false) rvF→(∀ i r,(i,r)∈rvF→listed.getD i false=false→r.ex=none)→KK C hc w0 nt T0 H0 rvF nF ρ0 W0 (fun j=>listed.getD j false) ρ tmps w→
    ∃ ρ' tmps' w',KK C hc w0 nt T0 H0 rvF nF ρ0 W0 (fun _=>true) ρ' tmps' w'∧
      Steps cc.P (lone ((bF fn ro).atR { tmps:=tmps,defers:=df } (.inRegion ops (Region.linearise.go .any ops fuel t listed [])::kk)) cs w) (lone ((bF fn ro).atR { tmps:=tmps',defers:=df } (.inRegion ops []::kk)) cs w')
 | 0,t,listed,ρ,tmps,w,hls,hf,hcl,hpl,k=>by
   refine ⟨ρ,tmps,w,k.congr fun j r hm=>?_,.refl _ _⟩
   have hj:=hg.idx j r hm
   rw [hsz] at hj
   cases e:listed.getD j false with
   | true=>rfl
   | false=>
     have:j∈(List.range ops.size).filter fun j=>!listed.getD j false:=by
      rw [List.mem_filter,List.mem_range];exact ⟨hj,by simp only [e];rfl⟩
     have:=List.length_pos_of_mem this
     omega
 | fuel+1,t,listed,ρ,tmps,w,hls,hf,hcl,hpl,k=>by
   have hlg:∀ j,j < ops.size→listed.getD j true=listed.getD j false:=by
    intro j hj
    simp [Array.getElem?_eq_getElem (show j < listed.size by omega)]
   have hrd:∀ i r,(i,r)∈rvF→listed.getD i false=false→(∀ e∈(ops[i]?.map Oper.after).getD #[],Region.binds .any e=true→listed.getD e.on false=true)→∀ x∈r.pr,listed.getD x false=true:=by
    intro i r hm _ he x hx
    obtain ⟨l,rv,n,e1,e2,e3,e4,_⟩:=hg.split hm
    obtain ⟨o,H',p1,p2,p3,p4,p5,_⟩:=e3.op
    rw [e4] at p1
    rw [p1] at he
    obtain ⟨e,h1,h2,h3⟩:=p5 x hx
    have h4:=he e h1 h2
    rcases h3 with rfl | ⟨r',h5,h6⟩
    ·exact h4
    ·exact hcl e.on r' (by rw [e1];exact List.mem_append_right _ (List.mem_cons_of_mem _ h5)) h4 x h6
   show ∃ ρ' tmps' w',_∧Steps cc.P (lone ((bF fn ro).atR { tmps:=tmps,defers:=df } (.inRegion ops (match (Region.ready .any ops listed)[t % (Region.ready .any ops listed).length]? with
    | some i=>Region.linearise.go .any ops fuel (t / (Region.ready .any ops listed).length) (listed.setIfInBounds i true) [i]
    | none=>[])::kk)) cs w) _
   cases hrs:(Region.ready .any ops listed)[t % (Region.ready .any ops listed).length]? with
   | some i=>
     have hmem:=List.mem_of_getElem? hrs
     obtain ⟨h0,o,ho,hall⟩:=mem_ready.1 hmem
     have hi:i < ops.size:=(Array.getElem?_eq_some_iff.1 ho).1
     rw [hlg i hi] at h0
     obtain ⟨r,hr⟩:=hg.mem (show i < rvF.length by omega)
     have hpr:=hrd i r hr h0 (by rw [ho];exact hall)
     obtain ⟨ρ1,tmps1,w1,k1,st1⟩:=k.step hcc hE hn hb hg hr hcl h0 hpr (fun f hf=>by rw [hpl i r hr h0] at hf;cases hf) (rest:=Region.linearise.go .any ops fuel (t / (Region.ready .any ops listed).length) (listed.setIfInBounds i true) []) (kk:=kk) (df:=df) (ro:=ro) (fn:=fn) (cs:=cs)
     have hadd:(fun j=>(listed.setIfInBounds i true).getD j false)=addD (fun j=>listed.getD j false) i:=by
      funext j
      by_cases hji:j=i
      ·subst hji
       rw [addD_self]
       simp [show j < listed.size by omega]
      ·rw [addD_ne hji]
       exact getD_set_ne false (Ne.symm hji)
     obtain ⟨ρ2,tmps2,w2,k2,st2⟩:=KK.all hcc hE hn hb hg hsz (kk:=kk) (df:=df) (ro:=ro) (fn:=fn) (cs:=cs) fuel (t / (Region.ready .any ops listed).length) (listed.setIfInBounds i true) ρ1 tmps1 w1 (by simpa using hls) (by
       have:=filter_lt (l:=List.range ops.size) (p:=fun j=>!listed.getD j false) (q:=fun j=>!(listed.setIfInBounds i true).getD j false) (fun x _ hx=>by
        have e:(listed.setIfInBounds i true).getD x false=addD (fun j=>listed.getD j false) i x:=congrFun hadd x
        rw [e] at hx
        cases hc:listed.getD x false with
        | false=>rfl
        | true=>rw [addD_of hc] at hx;cases hx) ⟨i,List.mem_range.2 hi,by simp only [h0];rfl,by
          have e:(listed.setIfInBounds i true).getD i false=addD (fun j=>listed.getD j false) i i:=congrFun hadd i
          simp only [e,addD_self];rfl⟩
       omega) (by rw [hadd];exact hcl.add hg hr hpr) (fun j s hj hjl=>hpl j s hj (by
       have e:(listed.setIfInBounds i true).getD j false=addD (fun j=>listed.getD j false) i j:=congrFun hadd j
       rw [e] at hjl
       cases hcj:listed.getD j false with
       | false=>rfl
       | true=>rw [addD_of hcj] at hjl;cases hjl)) (by rw [hadd];exact k1)
     refine ⟨ρ2,tmps2,w2,k2,?_⟩
     have e:Region.linearise.go .any ops fuel (t / (Region.ready .any ops listed).length) (listed.setIfInBounds i true) [i]=i::Region.linearise.go .any ops fuel (t / (Region.ready .any ops listed).length) (listed.setIfInBounds i true) []:=by
      rw [linearise_go_acc];rfl
     simp only [e]
     exact st1.trans st2
   | none=>
     have hnil:∀ j,j ∉ Region.ready .any ops listed:=by
      intro j hj
      have hp:=List.length_pos_of_mem hj
      have:=List.getElem?_eq_none_iff.1 hrs
      have:=Nat.mod_lt t hp
      omega
     have hdone:∀ j,j < ops.size→listed.getD j false=true:=by
      intro j
      induction j using Nat.strongRecOn with
      | _ j ih=>
        intro hj
        cases e:listed.getD j false with
        | true=>rfl
        | false=>
          exfalso
          obtain ⟨r,hr⟩:=hg.mem (show j < rvF.length by omega)
          obtain ⟨l,rv,n,e1,e2,e3,e4,_⟩:=hg.split hr
          obtain ⟨o,H',p1,p2,p3,p4,p5,_⟩:=e3.op
          rw [e4] at p1
          refine hnil j (mem_ready.2 ⟨by rw [hlg j hj];exact e,o,p1,fun ed he hbd=>?_⟩)
          have:=e3.prlt _ (p4 ed he hbd)
          exact ih ed.on (by omega) (by omega)
     refine ⟨ρ,tmps,w,k.congr fun j r hm=>?_,.refl _ _⟩
     have hj:=hg.idx j r hm
     exact hdone j (by omega)
theorem KK.ext {ρ0 ρ:Dyn} {W0 w:World} {tmps:Array Value} {D:Nat→Bool} {rv:Rv} {n:Cn} {r:Rec} (k:KK C hc w0 nt T0 H0 rv n ρ0 W0 D ρ tmps w) (hr:GoodRec cc E nst nt T0 H0 ops rv n r) (hi:D rv.length=false) :
  KK C hc w0 nt T0 H0 ((rv.length,r)::rv) r.n1 ρ0 W0 D ρ tmps w:=by
 have e0:∀ {α:Type} (h0:List (Nat×α)) (f:Rec→List (Nat×α)),lg D h0 f ((rv.length,r)::rv)=lg D h0 f rv:=fun h0 f=>by rw [lg_cons,hi];rfl
 have e1:lgC D T0 (cnOf H0) tmF ((rv.length,r)::rv)=lgC D T0 (cnOf H0) tmF rv:=e0 _ _
 have e2:lgC D H0.heap (cnOf H0) (fun r=>r.dh) ((rv.length,r)::rv)=lgC D H0.heap (cnOf H0) (fun r=>r.dh) rv:=e0 _ _
 have e3:hpD D H0.heap ((rv.length,r)::rv)=hpD D H0.heap rv:=e0 _ _
 have e4:hpD D [] ((rv.length,r)::rv)=hpD D [] rv:=e0 _ _
 obtain ⟨a1,a2,a3,a4,a5,a6,a7,a8,a9,a10,a11,a12,a13,a14,a15,a16,a17,a18,a19,a20,a21,a22⟩:=k
 rw [← e1] at a2
 rw [← e2] at a3
 rw [← e3] at a4 a7 a8 a14
 rw [← e4] at a21 a22
 have hle:=hr.le
 refine ⟨a1,a2,a3,a4,a5,fun j s hm hD=>?_,a7,fun j s hm hD=>?_,a9,fun j s hm hD=>?_,⟨fun i hh=>a11.1 i (Nat.le_trans hle.1 hh),fun i hh=>a11.2.1 i (Nat.le_trans hle.2.1 hh),fun i hh=>a11.2.2 i (Nat.le_trans hle.2.2 hh)⟩,a12,a13,a14,a15,a16,a17,a18,a19,a20,a21,a22⟩
 ·rcases List.mem_cons.1 hm with e | hm
  ·cases e;rw [hi] at hD;cases hD
  ·exact a6 j s hm hD
 ·rcases List.mem_cons.1 hm with e | hm
  ·cases e;rw [hi] at hD;cases hD
  ·exact a8 j s hm hD
 ·rcases List.mem_cons.1 hm with e | hm
  ·cases e
   rw [hr.n0]
   exact ⟨fun i h1 _=>a11.1 i h1,fun i h1 _=>a11.2.1 i h1,fun i h1 _=>a11.2.2 i h1⟩
  ·exact a10 j s hm hD
theorem lateO_ok {i:Nat} {o:Oper} (h:lateO i o=true):∃ e∈o.after,Region.binds .any e=true∧i≤e.on:=by
 unfold lateO at h
 have key:∀ l:List Edge,(List.rec (motive:=fun _=>Bool) false (fun e _ r=>bif Region.binds .any e then (bif Nat.ble i e.on then true else r) else r) l:Bool)=true→∃ e∈l,Region.binds .any e=true∧i≤e.on:=by
  intro l
  induction l with
  | nil=>intro h;cases h
  | cons e l ih=>
    intro h
    dsimp only at h
    cases hb:Region.binds .any e with
    | false=>
      rw [hb] at h
      obtain ⟨x,h1,h2⟩:=ih h
      exact ⟨x,List.mem_cons_of_mem _ h1,h2⟩
    | true=>
      rw [hb,cond_true] at h
      cases hl:Nat.ble i e.on with
      | true=>exact ⟨e,List.mem_cons_self ..,hb,Nat.le_of_ble_eq_true hl⟩
      | false=>
        rw [hl] at h
        obtain ⟨x,h1,h2⟩:=ih h
        exact ⟨x,List.mem_cons_of_mem _ h1,h2⟩
 obtain ⟨e,h1,h2⟩:=key _ h
 exact ⟨e,Array.mem_toList_iff.1 h1,h2⟩
theorem drop_next {o:Oper} {l:List Oper} {m:Nat} (hl:o::l=ops.toList.drop m):ops[m]? = some o∧l=ops.toList.drop (m+1):=by
 refine ⟨?_,?_⟩
 ·have:(ops.toList.drop m)[0]? = some o:=by rw [← hl];rfl
  rw [List.getElem?_drop] at this
  simpa using this
 ·have:=congrArg (List.drop 1) hl
  simpa [List.drop_drop,Nat.add_comm] using this
theorem listed_add {listed:Array Bool} {i:Nat} (hi:i < listed.size):(fun j=>(listed.setIfInBounds i true).getD j false)=addD (fun j=>listed.getD j false) i:=by
 funext j
 by_cases hji:j=i
 ·subst hji
  rw [addD_self]
  simp [hi]
 ·rw [addD_ne hji]
  exact getD_set_ne false (Ne.symm hji)
theorem listed_cnt {listed:Array Bool} {i m:Nat} (hi:i < listed.size) (him:i < m) (h0:listed.getD i false=false):((List.range m).filter fun j=>!(listed.setIfInBounds i true).getD j false).length < ((List.range m).filter fun j=>!listed.getD j false).length:=by
 have hadd:=listed_add hi
 refine filter_lt (l:=List.range m) (p:=fun j=>!listed.getD j false) (q:=fun j=>!(listed.setIfInBounds i true).getD j false) (fun x _ hx=>?_) ⟨i,List.mem_range.2 him,by simp only [h0];rfl,?_⟩
 ·have e:(listed.setIfInBounds i true).getD x false=addD (fun j=>listed.getD j false) i x:=congrFun hadd x
  rw [e] at hx
  cases hc:listed.getD x false with
  | false=>rfl
  | true=>rw [addD_of hc] at hx;cases hx
 ·have e:(listed.setIfInBounds i true).getD i false=addD (fun j=>listed.getD j false) i i:=congrFun hadd i
  simp only [e,addD_self];rfl
theorem KK.allF (hcc:cc.Ok C) (hE:EntsOk cc C E) (hn:NstOk cc C nst) (hb:∀ id bk,get H0.heap id=some bk→id < H0.nb) {ρ0:Dyn} {W0:World}
  {kk:List Item} {df:List Deferred} {ro:Option Nat} {fn:FuncId} {cs:List Frame} :
  ∀ (l:List Oper) (rv:Rv) (n:Cn) (x:List (Nat×SV)×Hp) (L:List (List (Nat×SV)×Hp)),Good cc E nst nt T0 H0 ops rv n→l=ops.toList.drop rv.length→rv.length≤ops.size→drawF cc E nst nt T0 H0 ops l rv.length rv n=.ok x L→
  ∀ (fuel t:Nat) (listed:Array Bool) (ρ:Dyn) (tmps:Array Value) (w:World),listed.size=ops.size→((List.range ops.size).filter fun j=>!listed.getD j false).length≤fuel→
    Closed (fun j=>listed.getD j false) rv→(∀ j,listed.getD j false=true→j < rv.length)→(∀ i r,(i,r)∈rv→listed.getD i false=false→r.ex=none)→KK C hc w0 nt T0 H0 rv n ρ0 W0 (fun j=>listed.getD j false) ρ tmps w→
    ∃ y∈x::L,∃ ρ' tmps' w',Tn ρ0 H0 W0 ρ' y.2 w'∧TmRel C.σ ρ' nt y.1 tmps'∧HpRel C hc w0 ρ' y.2 w'∧
      Steps cc.P (lone ((bF fn ro).atR { tmps:=tmps,defers:=df } (.inRegion ops (Region.linearise.go .any ops fuel t listed [])::kk)) cs w) (lone ((bF fn ro).atR { tmps:=tmps',defers:=df } (.inRegion ops []::kk)) cs w')
 | [],rv,n,x,L,hg,hl,hsz,hdr=>by
   intro fuel t listed ρ tmps w hls hf hcl hlt hpl k
   have hlen:rv.length=ops.size:=by
    have:=congrArg List.length hl
    simp at this;omega
   have hdr':DF.ok (leafD T0 H0 rv n) []=.ok x L:=hdr
   cases hdr'
   obtain ⟨ρ',tmps',w',k1,st⟩:=KK.all hcc hE hn hb hg hlen (kk:=kk) (df:=df) (ro:=ro) (fn:=fn) (cs:=cs) fuel t listed ρ tmps w hls hf hcl hpl k
   obtain ⟨h1,h2,h3⟩:=k1.finish hb hg
   exact ⟨_,List.mem_cons_self ..,ρ',tmps',w',h1,h2,h3,st⟩
 | o::l,rv,n,x,L,hg,hl,hsz,hdr=>by
   obtain ⟨ho,hl'⟩:=drop_next hl
   have hilt:rv.length < ops.size:=(Array.getElem?_eq_some_iff.1 ho).1
   have hdr':(match opX cc E nst nt T0 H0 ops rv n o none with
    | .ok r=>drawF cc E nst nt T0 H0 ops l (Nat.succ rv.length) ((rv.length,r)::rv) r.n1
    | .ask p=>bif p.dlo n.d then (bif lall (lateO rv.length) l then
      (match opX cc E nst nt T0 H0 ops rv n o (some (p,true)),opX cc E nst nt T0 H0 ops rv n o (some (p,false)) with
      | .ok r1,.ok r2=>(match drawF cc E nst nt T0 H0 ops l (Nat.succ rv.length) ((rv.length,r1)::rv) r1.n1,drawF cc E nst nt T0 H0 ops l (Nat.succ rv.length) ((rv.length,r2)::rv) r2.n1 with
        | .ok x a,.ok y b=>DF.ok x (lapp a (y::b))
        | .no w,_=>.no w
        | _,.no w=>.no w)
      | x,y=>.no (Nat.add (Nat.mul 10000 (RD.why x)) (RD.why y))) else .no 402) else .no 401
    | .bad w=>.no w)=.ok x L:=hdr
   have onw:∀ (r:Rec) (x':List (Nat×SV)×Hp) (L':List (List (Nat×SV)×Hp)),GoodRec cc E nst nt T0 H0 ops rv n r→drawF cc E nst nt T0 H0 ops l (Nat.succ rv.length) ((rv.length,r)::rv) r.n1=.ok x' L'→
    ∀ (fuel t:Nat) (listed:Array Bool) (ρ:Dyn) (tmps:Array Value) (w:World),listed.size=ops.size→((List.range ops.size).filter fun j=>!listed.getD j false).length≤fuel→
    Closed (fun j=>listed.getD j false) ((rv.length,r)::rv)→(∀ j,listed.getD j false=true→j < rv.length+1)→(∀ i s,(i,s)∈(rv.length,r)::rv→listed.getD i false=false→s.ex=none)→KK C hc w0 nt T0 H0 ((rv.length,r)::rv) r.n1 ρ0 W0 (fun j=>listed.getD j false) ρ tmps w→
    ∃ y∈x'::L',∃ ρ' tmps' w',Tn ρ0 H0 W0 ρ' y.2 w'∧TmRel C.σ ρ' nt y.1 tmps'∧HpRel C hc w0 ρ' y.2 w'∧
      Steps cc.P (lone ((bF fn ro).atR { tmps:=tmps,defers:=df } (.inRegion ops (Region.linearise.go .any ops fuel t listed [])::kk)) cs w) (lone ((bF fn ro).atR { tmps:=tmps',defers:=df } (.inRegion ops []::kk)) cs w'):=
    fun r x' L' hr hd'=>KK.allF hcc hE hn hb (kk:=kk) (df:=df) (ro:=ro) (fn:=fn) (cs:=cs) l ((rv.length,r)::rv) r.n1 x' L' (.cons hg hr) hl' hilt hd'
   split at hdr'
   ·rename_i r hop
    intro fuel t listed ρ tmps w hls hf hcl hlt hpl k
    have hr:=opX_ok hg ho hop
    have hrx:=(opX_rec hop).1
    have hi:listed.getD rv.length false=false:=by
     cases e:listed.getD rv.length false with
     | false=>rfl
     | true=>have:=hlt _ e;omega
    refine onw r x L hr hdr' fuel t listed ρ tmps w hls hf ?_ (fun j hj=>Nat.lt_succ_of_lt (hlt j hj)) ?_ (k.ext hr hi)
    ·intro j s hm hD y hy
     rcases List.mem_cons.1 hm with e | hm
     ·cases e;have hD:listed.getD rv.length false=true:=hD;rw [hi] at hD;cases hD
     ·exact hcl j s hm hD y hy
    ·intro j s hm hj
     rcases List.mem_cons.1 hm with e | hm
     ·cases e;exact hrx
     ·exact hpl j s hm hj
   ·rename_i p hop
    cases hpd:p.dlo n.d with
    | false=>rw [hpd] at hdr';cases hdr'
    | true=>
    rw [hpd,cond_true] at hdr'
    cases hlate:lall (lateO rv.length) l with
    | false=>rw [hlate] at hdr';cases hdr'
    | true=>
    rw [hlate,cond_true] at hdr'
    split at hdr'
    ·rename_i r1 r2 hop1 hop2
     split at hdr'
     ·rename_i x1 L1 x2 L2 hd1 hd2
      cases hdr'
      have hr1:=opX_ok hg ho hop1
      have hr2:=opX_ok hg ho hop2
      obtain ⟨f1,f2,f3,f4,f5⟩:=opX_rec hop1
      obtain ⟨g1,g2,g3,g4,g5⟩:=opX_rec hop2
      obtain ⟨pr,u1,u2⟩:=opX_ask hop
      have hpr1:pr=r1.pr:=by rw [u1] at f2;exact Option.some.inj f2
      have hpr2:r2.pr=r1.pr:=by rw [f2] at g2;exact (Option.some.inj g2).symm
      have hlk2:r2.lk=r1.lk:=by rw [f3,g3]
      subst hpr1
      rw [← f3,← f4] at u2
      intro fuel
      induction fuel with
      | zero=>
        intro t listed ρ tmps w hls hf hcl hlt hpl k
        exfalso
        have hi:listed.getD rv.length false=false:=by
         cases e:listed.getD rv.length false with
         | false=>rfl
         | true=>have:=hlt _ e;omega
        have:rv.length∈(List.range ops.size).filter fun j=>!listed.getD j false:=by
         rw [List.mem_filter,List.mem_range];exact ⟨hilt,by simp only [hi];rfl⟩
        have:=List.length_pos_of_mem this
        omega
      | succ fuel ih=>
        intro t listed ρ tmps w hls hf hcl hlt hpl k
        have hi:listed.getD rv.length false=false:=by
         cases e:listed.getD rv.length false with
         | false=>rfl
         | true=>have:=hlt _ e;omega
        have hlg:∀ j,j < ops.size→listed.getD j true=listed.getD j false:=by
         intro j hj
         simp [Array.getElem?_eq_getElem (show j < listed.size by omega)]
        have hg1:Good cc E nst nt T0 H0 ops ((rv.length,r1)::rv) r1.n1:=.cons hg hr1
        have hrd:∀ i r,(i,r)∈(rv.length,r1)::rv→(∀ e∈(ops[i]?.map Oper.after).getD #[],Region.binds .any e=true→listed.getD e.on false=true)→∀ x∈r.pr,listed.getD x false=true:=by
         intro i r hm he x hx
         obtain ⟨l,rv',n',e1,e2,e3,e4,_⟩:=hg1.split hm
         obtain ⟨o',H',p1,p2,p3,p4,p5,_⟩:=e3.op
         rw [e4] at p1
         rw [p1] at he
         obtain ⟨e,h1,h2,h3⟩:=p5 x hx
         have h4:=he e h1 h2
         rcases h3 with rfl | ⟨r',h5,h6⟩
         ·exact h4
         ·have hm':(e.on,r')∈(rv.length,r1)::rv:=by rw [e1];exact List.mem_append_right _ (List.mem_cons_of_mem _ h5)
          rcases List.mem_cons.1 hm' with e' | hm'
          ·have h7:=congrArg Prod.fst e'
           simp only at h7
           rw [h7,hi] at h4;cases h4
          ·exact hcl e.on r' hm' h4 x h6
        show ∃ y∈_,∃ ρ' tmps' w',_∧_∧_∧Steps cc.P (lone ((bF fn ro).atR { tmps:=tmps,defers:=df } (.inRegion ops (match (Region.ready .any ops listed)[t % (Region.ready .any ops listed).length]? with
         | some i=>Region.linearise.go .any ops fuel (t / (Region.ready .any ops listed).length) (listed.setIfInBounds i true) [i]
         | none=>[])::kk)) cs w) _
        cases hrs:(Region.ready .any ops listed)[t % (Region.ready .any ops listed).length]? with
        | some q=>
          have hmem:=List.mem_of_getElem? hrs
          obtain ⟨h0,o',ho',hall⟩:=mem_ready.1 hmem
          have hq:q < ops.size:=(Array.getElem?_eq_some_iff.1 ho').1
          rw [hlg q hq] at h0
          have hql:q < listed.size:=by omega
          have hadd:=listed_add hql
          have hcnt:=listed_cnt hql hq h0
          have e0:Region.linearise.go .any ops fuel (t / (Region.ready .any ops listed).length) (listed.setIfInBounds q true) [q]=q::Region.linearise.go .any ops fuel (t / (Region.ready .any ops listed).length) (listed.setIfInBounds q true) []:=by
           rw [linearise_go_acc];rfl
          have hmono:∀ j,(listed.setIfInBounds q true).getD j false=false→listed.getD j false=false:=fun j hj=>by
           have e:(listed.setIfInBounds q true).getD j false=addD (fun j=>listed.getD j false) q j:=congrFun hadd j
           rw [e] at hj
           cases hc:listed.getD j false with
           | false=>rfl
           | true=>rw [addD_of hc] at hj;cases hj
          have hnew:∀ j,(listed.setIfInBounds q true).getD j false=true→j=q∨listed.getD j false=true:=fun j hj=>by
           have e:(listed.setIfInBounds q true).getD j false=addD (fun j=>listed.getD j false) q j:=congrFun hadd j
           by_cases hjq:j=q
           ·exact .inl hjq
           ·rw [e,addD_ne hjq] at hj;exact .inr hj
          rcases Nat.lt_trichotomy q rv.length with hlt' | heq | hgt
          ·
           obtain ⟨r,hr⟩:=hg.mem hlt'
           have hpr:=hrd q r (List.mem_cons_of_mem _ hr) (by rw [ho'];exact hall)
           obtain ⟨ρ1,tmps1,w1,k1,st1⟩:=k.step hcc hE hn hb hg hr hcl h0 hpr (fun f hf=>by rw [hpl q r hr h0] at hf;cases hf) (rest:=Region.linearise.go .any ops fuel (t / (Region.ready .any ops listed).length) (listed.setIfInBounds q true) []) (kk:=kk) (df:=df) (ro:=ro) (fn:=fn) (cs:=cs)
           obtain ⟨y,hy,ρ2,tmps2,w2,z1,z2,z3,st2⟩:=ih (t / (Region.ready .any ops listed).length) (listed.setIfInBounds q true) ρ1 tmps1 w1 (by simpa using hls) (by omega) (by rw [hadd];exact hcl.add hg hr hpr) (fun j hj=>by
            rcases hnew j hj with e | e
            ·omega
            ·exact hlt j e) (fun j s hj hjl=>hpl j s hj (hmono j hjl)) (by rw [hadd];exact k1)
           refine ⟨y,hy,ρ2,tmps2,w2,z1,z2,z3,?_⟩
           simp only [e0]
           exact st1.trans st2
          ·
           subst heq
           have hoo:o'=o:=by rw [ho] at ho';exact (Option.some.inj ho').symm
           have hpr:=hrd rv.length r1 (List.mem_cons_self ..) (by rw [ho'];exact hall)
           have hc1:∀ r,r.pr=r1.pr→Closed (fun j=>listed.getD j false) ((rv.length,r)::rv):=fun r _ j s hm hD y hy=>by
            rcases List.mem_cons.1 hm with e | hm
            ·cases e;have hD:listed.getD rv.length false=true:=hD;rw [hi] at hD;cases hD
            ·exact hcl j s hm hD y hy
           have k1:=k.ext hr1 hi
           have k2:=k.ext hr2 hi
           obtain ⟨_,hc',q1,q2,q3,q4⟩:=k1.know hb hg1 (l:=[]) rfl hg hr1 rfl (by simp) (hc1 r1 rfl) hi hpr
           obtain ⟨b,hbp⟩:=doOp_ask hcc hE hn q3 q4 u2 hpd
           have fin:∀ (r:Rec) (x':List (Nat×SV)×Hp) (L':List (List (Nat×SV)×Hp)),GoodRec cc E nst nt T0 H0 ops rv n r→r.pr=r1.pr→r.ex=some (p,b)→KK C hc w0 nt T0 H0 ((rv.length,r)::rv) r.n1 ρ0 W0 (fun j=>listed.getD j false) ρ tmps w→drawF cc E nst nt T0 H0 ops l (Nat.succ rv.length) ((rv.length,r)::rv) r.n1=.ok x' L'→
             ∃ y∈x'::L',∃ ρ' tmps' w',Tn ρ0 H0 W0 ρ' y.2 w'∧TmRel C.σ ρ' nt y.1 tmps'∧HpRel C hc w0 ρ' y.2 w'∧
               Steps cc.P (lone ((bF fn ro).atR { tmps:=tmps,defers:=df } (.inRegion ops (rv.length::Region.linearise.go .any ops fuel (t / (Region.ready .any ops listed).length) (listed.setIfInBounds rv.length true) [])::kk)) cs w) (lone ((bF fn ro).atR { tmps:=tmps',defers:=df } (.inRegion ops []::kk)) cs w'):=by
            intro r x' L' hr hprr hex kr hdd
            have hgr:Good cc E nst nt T0 H0 ops ((rv.length,r)::rv) r.n1:=.cons hg hr
            have hprr':∀ k∈r.pr,(fun j=>listed.getD j false) k=true:=by rw [hprr];exact hpr
            obtain ⟨ρ1,tmps1,w1,kk1,st1⟩:=kr.step hcc hE hn hb hgr (List.mem_cons_self ..) (hc1 r hprr) hi hprr' (fun f hf=>by
             rw [hex] at hf;cases hf;rw [hr.n0];exact hbp) (rest:=Region.linearise.go .any ops fuel (t / (Region.ready .any ops listed).length) (listed.setIfInBounds rv.length true) []) (kk:=kk) (df:=df) (ro:=ro) (fn:=fn) (cs:=cs)
            obtain ⟨y,hy,ρ2,tmps2,w2,z1,z2,z3,st2⟩:=onw r x' L' hr hdd fuel (t / (Region.ready .any ops listed).length) (listed.setIfInBounds rv.length true) ρ1 tmps1 w1 (by simpa using hls) (by omega) (by rw [hadd];exact (hc1 r hprr).add hgr (List.mem_cons_self ..) hprr') (fun j hj=>by
             rcases hnew j hj with e | e
             ·omega
             ·have:=hlt j e;omega) (fun j s hj hjl=>by
             rcases List.mem_cons.1 hj with e | hj
             ·cases e
              have e:(listed.setIfInBounds rv.length true).getD rv.length false=addD (fun j=>listed.getD j false) rv.length rv.length:=congrFun hadd rv.length
              rw [e,addD_self] at hjl;cases hjl
             ·exact hpl j s hj (hmono j hjl)) (by rw [hadd];exact kk1)
            exact ⟨y,hy,ρ2,tmps2,w2,z1,z2,z3,st1.trans st2⟩
           cases b with
           | true=>
             obtain ⟨y,hy,rest⟩:=fin r1 x L1 hr1 rfl f1 k1 hd1
             refine ⟨y,?_,?_⟩
             ·rw [lapp_eq]
              rcases List.mem_cons.1 hy with e | hy
              ·rw [e];exact List.mem_cons_self ..
              ·exact List.mem_cons_of_mem _ (List.mem_append_left _ hy)
             ·simp only [e0];exact rest
           | false=>
             obtain ⟨y,hy,rest⟩:=fin r2 x2 L2 hr2 hpr2 g1 k2 hd2
             refine ⟨y,?_,?_⟩
             ·rw [lapp_eq]
              exact List.mem_cons_of_mem _ (List.mem_append_right _ hy)
             ·simp only [e0];exact rest
          ·
           exfalso
           have hm:o'∈l:=by
            have:(ops.toList.drop (rv.length+1))[q - (rv.length+1)]? = some o':=by
             rw [List.getElem?_drop,show rv.length+1+(q - (rv.length+1))=q by omega]
             simpa using ho'
            rw [← hl'] at this
            exact List.mem_of_getElem? this
           obtain ⟨e,h1,h2,h3⟩:=lateO_ok (lall_iff.1 hlate o' hm)
           have:=hlt e.on (hall e h1 h2)
           omega
        | none=>
          exfalso
          have hnil:∀ j,j ∉ Region.ready .any ops listed:=by
           intro j hj
           have hp:=List.length_pos_of_mem hj
           have:=List.getElem?_eq_none_iff.1 hrs
           have:=Nat.mod_lt t hp
           omega
          have hdone:∀ j,j < rv.length+1→listed.getD j false=true:=by
           intro j
           induction j using Nat.strongRecOn with
           | _ j ihj=>
             intro hj
             cases e:listed.getD j false with
             | true=>rfl
             | false=>
               exfalso
               obtain ⟨r,hr⟩:=hg1.mem (i:=j) (by simpa using hj)
               obtain ⟨l',rv',n',e1,e2,e3,e4,_⟩:=hg1.split hr
               obtain ⟨o',H',p1,p2,p3,p4,p5,_⟩:=e3.op
               rw [e4] at p1
               refine hnil j (mem_ready.2 ⟨by rw [hlg j (by omega)];exact e,o',p1,fun ed he hbd=>?_⟩)
               have:=e3.prlt _ (p4 ed he hbd)
               exact ihj ed.on (by omega) (by omega)
          have:=hdone rv.length (by omega)
          rw [hi] at this;cases this
     ·cases hdr'
     ·cases hdr'
    ·cases hdr'
   ·cases hdr'
theorem drawS_ok (hcc:cc.Ok C) (hE:EntsOk cc C E) (hn:NstOk cc C nst):DrOk cc C (drawS cc E nst):=by
 intro hc w0 cs ρ H w nt T tmps df ro fn k ops id hh ht
 have hd:=drawL_ok (cc:=cc) (E:=E) (nst:=nst) (nt:=nt) (T0:=T) (H0:=H) (ops:=ops) ops.toList [] (cnOf H) .nil (by simp) (by simp) (by simp)
 have hd':match drawL cc E nst nt T H ops ops.toList 0 [] (cnOf H) with
  | .ok T' H'=>∃ rvF nF,Good cc E nst nt T H ops rvF nF∧(∀ i r,(i,r)∈rvF→r.ex=none)∧rvF.length=ops.size∧T'=tmD (fun _=>true) T rvF∧
    H'={ heap:=hpD (fun _=>true) H.heap rvF,nb:=nF.b,nd:=nF.d,nv:=nF.v,facts:=fcD (fun _=>true) H.facts rvF,phis:=phD (fun _=>true) H.phis rvF,bd:=H.bd }
  | .ask p=>p.stat=true
  | .par _ _=>False
  | .bad _=>True:=hd
 have hh1:HpRel C hc w0 ρ H w.drew:=hh.drew
 have hfalse:(fun j=>(Array.replicate ops.size false).getD j false)=fun _=>false:=by
  funext j
  by_cases hj:j < ops.size<;>simp [hj]
 have hcnt:((List.range ops.size).filter fun j=>!(Array.replicate ops.size false).getD j false).length≤ops.size:=by
  have:=List.length_filter_le (fun j=>!(Array.replicate ops.size false).getD j false) (List.range ops.size)
  simpa using this
 have s1:=stepR_region_draw (P:=cc.P) (b:=bF fn ro) (a:={ tmps:=tmps,defers:=df }) (k:=k) (cs:=cs) (w:=w) (ops:=ops) (id:=id)
 have s2:Region.schedule (cc.P.follows .mixedOrders) ops (w.tape w.drawn (.order (bF fn ro).fn id))=Region.linearise.go .any ops ops.size (w.tape w.drawn (.order fn id)) (Array.replicate ops.size false) []:=by
  rw [hcc.mixed]
  unfold Region.schedule
  rw [Bool.true_or,if_pos rfl]
  rfl
 rw [s2] at s1
 unfold drawS
 cases hdr:drawL cc E nst nt T H ops ops.toList 0 [] (cnOf H) with
 | ok T' H'=>
   rw [hdr] at hd'
   obtain ⟨rvF,nF,hg,hpl,hsz,rfl,rfl⟩:=hd'
   have k0:=KK.start hh1 ht hg
   obtain ⟨ρ',tmps',w',k1,st⟩:=KK.all hcc hE hn hh.hb hg hsz (kk:=k) (df:=df) (ro:=ro) (fn:=fn) (cs:=cs) ops.size (w.tape w.drawn (.order fn id)) (Array.replicate ops.size false) ρ tmps w.drew (by simp) hcnt
    (by rw [hfalse];intro _ _ _ h;cases h) (fun i r hm _=>hpl i r hm) (by rw [hfalse];exact k0)
   obtain ⟨h1,h2,h3⟩:=k1.finish hh.hb hg
   exact ⟨ρ',tmps',w',(Tn.of_below ((Below.refl _ w).drew)).trans h1,(Steps.one s1).trans (st.trans (.one stepR_region_end)),h2,h3⟩
 | par x l=>rw [hdr] at hd';exact hd'.elim
 | ask p=>
   rw [hdr] at hd'
   exact SB.stat_den hd'
 | bad n=>
   dsimp only
   cases Nat.beq n 312 with
   | false=>trivial
   | true=>
     rw [cond_true]
     cases hdf:drawF cc E nst nt T H ops ops.toList 0 [] (cnOf H) with
     | no w=>trivial
     | ok x l=>
       have k0:=KK.start hh1 ht (.nil:Good cc E nst nt T H ops [] (cnOf H))
       obtain ⟨y,hy,ρ',tmps',w',h1,h2,h3,st⟩:=KK.allF hcc hE hn hh.hb (kk:=k) (df:=df) (ro:=ro) (fn:=fn) (cs:=cs) ops.toList [] (cnOf H) x l .nil (by simp) (by simp) hdf ops.size (w.tape w.drawn (.order fn id)) (Array.replicate ops.size false) ρ tmps w.drew (by simp) hcnt
        (by rw [hfalse];intro _ _ _ h;cases h) (fun j hj=>by have hj2:(fun j=>(Array.replicate ops.size false).getD j false) j=true:=hj;rw [hfalse] at hj2;cases hj2) (fun i r hm _=>by cases hm) (by rw [hfalse];exact k0)
       exact ⟨y,hy,ρ',tmps',w',(Tn.of_below ((Below.refl _ w).drew)).trans h1,(Steps.one s1).trans (st.trans (.one stepR_region_end)),h2,h3⟩
end
end Go.Sx
