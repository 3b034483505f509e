/- A symbolic executor: regions that draw their order: from the first operation to the last. -/
import Derived.Test.YtfailpbjhlhhiaaGreatSxQ
namespace Go.Sx
set_option linter.unusedVariables false
set_option linter.unusedSimpArgs false
open Go.RowKit
section
variable {cc:Cc} {E:Ents} {nst:Fr→Hp→Nr} {nt:Nat} {T0:List (Nat×SV)} {H0:Hp} {ops:Array Oper} {C:Ct} {hc:Nat→Option Obj} {w0:World}
theorem Good.get {rv:Rv} {n:Cn} (h:Good cc E nst nt T0 H0 ops rv n) {i:Nat} {r:Rec} (hm:(i,r)∈rv):Go.Sx.get rv i=some r:=by
 have hex:∀ {rv:Rv},(i,r)∈rv→∃ r',Go.Sx.get rv i=some r':=by
  intro rv hm
  induction rv with
  | nil=>cases hm
  | cons p rv ih=>
    rw [get_cons]
    split
    ·exact ⟨_,rfl⟩
    ·rename_i hne
     rcases List.mem_cons.1 hm with e | hm
     ·rw [← e] at hne;exact absurd rfl hne
     ·exact ih hm
 obtain ⟨r',hr'⟩:=hex hm
 rw [hr',h.uniq hm (get_mem hr')]
theorem blt_iff {a b:Nat}:Nat.blt a b=true↔a < b:=by simp [Nat.blt_eq]
theorem opX_ok {rv:Rv} {n:Cn} (hg:Good cc E nst nt T0 H0 ops rv n) {o:Oper} (ho:ops[rv.length]? = some o) {ex:Option (SB×Bool)} {r:Rec} (h:opX cc E nst nt T0 H0 ops rv n o ex=.ok r):GoodRec cc E nst nt T0 H0 ops rv n r:=by
 unfold opX at h
 split at h
 ·cases h
 ·rename_i pr hpr
  obtain ⟨p1,p2,p3,p4⟩:=predsOf_ok hpr
  simp only at h
  cases hdst:(dstLt nt o.dst) with
  | false=>rw [hdst] at h;cases h
  | true=>
    rw [hdst,cond_true] at h
    split at h
    ·rename_i z H' hdo
     split at h
     ·rename_i r' hmk
      cases h
      unfold mkRec at hmk
      simp only at hmk
      cases c1:(Nat.ble n.b H'.nb && (Nat.ble n.d H'.nd && Nat.ble n.v H'.nv)) with
      | false=>rw [c1] at hmk;cases hmk
      | true=>
        rw [c1,cond_true] at hmk
        cases c2:okOps rv pr (o.looksAt ops) o.dst (visOf (tlOf T0 rv pr (o.looksAt ops)) o.op) (oldIds n.b (diff H'.heap (hiOf H0 rv n (visOf (tlOf T0 rv pr (o.looksAt ops)) o.op) pr).heap)) with
        | false=>rw [c2] at hmk;cases hmk
        | true=>
          rw [c2,cond_true] at hmk
          cases c3:okIds (hiOf H0 rv n (visOf (tlOf T0 rv pr (o.looksAt ops)) o.op) pr) H'.nb (diff H'.heap (hiOf H0 rv n (visOf (tlOf T0 rv pr (o.looksAt ops)) o.op) pr).heap) with
          | false=>rw [c3] at hmk;cases hmk
          | true=>
            rw [c3,cond_true] at hmk
            cases hmk
            simp only [Bool.and_eq_true,Nat.ble_eq] at c1
            refine ⟨⟨c1.1,c1.2.1,c1.2.2⟩,?_,?_,?_,?_,?_,⟨o,H',ho,rfl,rfl,fun e he=>p1 e (Array.mem_toList_iff.2 he),?_,hdo,rfl,rfl,rfl,rfl⟩,rfl⟩
            ·intro j hj
             obtain ⟨q,s,h1,h2⟩:=p2 j hj
             have hq:=hg.idx q s (get_mem h1)
             rcases h2 with rfl | h2
             ·exact hq
             ·obtain ⟨_,rv',n',f1,f2,f3,f4,_⟩:=hg.split (get_mem h1)
              have:=f3.prlt j h2
              rw [f4] at this
              exact Nat.lt_trans this hq
            ·intro j hj rj hm x hx
             obtain ⟨e,he,hb,h2⟩:=p4 j hj
             rcases h2 with h2 | ⟨s,h2,h3⟩
             ·subst h2
              exact p3 e he hb rj (hg.get hm) x hx
             ·obtain ⟨l',rv',n',f1,f2,f3,f4,f5,_⟩:=hg.split (get_mem h2)
              refine p3 e he hb s h2 x (f3.prcl j h3 rj ?_ x hx)
              have hlt:=f3.prlt j h3
              rw [f1] at hm
              rcases List.mem_append.1 hm with hm | hm
              ·have:=f5 j rj hm;omega
              ·rcases List.mem_cons.1 hm with e' | hm
               ·cases e';omega
               ·exact hm
            ·intro j rj hm hnot
             have hck:=lall_iff.1 c2 (j,rj) hm
             have hmn:lmem pr j=false:=by
              cases e:lmem pr j with
              | false=>rfl
              | true=>exact absurd (lmem_iff.1 e) hnot
             simp only [hmn,cond_false,Bool.and_eq_true] at hck
             obtain ⟨a1,a2,a3,a4,a5⟩:=hck
             refine ⟨fun d hd=>⟨fun hin=>?_,fun hdd=>?_⟩,fun d hd hin=>?_,fun hw hf=>?_,fun hw hf=>?_⟩
             ·rw [hd] at a1
              simp only [offR,lmem_iff.2 hin] at a1;cases a1
             ·have hdd':o.dst=some d:=hdd
              rw [hd,hdd'] at a2
              simp [neD] at a2
             ·have hd':o.dst=some d:=hd
              rw [hd'] at a3
              simp only [offR,lmem_iff.2 hin] at a3;cases a3
             ·have:=lall_iff.1 a4 hw hf
              simpa using this
             ·have:=lall_iff.1 a5 hw hf
              simpa using this
            ·intro id bk hbk
             have hck:=lall_iff.1 c3 (id,bk) (get_mem hbk)
             cases e1:Nat.blt id H'.nb with
             | false=>simp only [e1,cond_false] at hck;cases hck
             | true=>
               simp only [e1,cond_true] at hck
               refine ⟨blt_iff.1 e1,fun hlt=>?_⟩
               have e2:Nat.blt id (hiOf H0 rv n (visOf (tlOf T0 rv pr (o.looksAt ops)) o.op) pr).nb=true:=blt_iff.2 hlt
               simp only [e2,cond_true] at hck
               refine ⟨mem_oldIds (get_mem hbk) hlt,?_⟩
               have h3:=hck
               cases hgx:Go.Sx.get (hiOf H0 rv n (visOf (tlOf T0 rv pr (o.looksAt ops)) o.op) pr).heap id with
               | none=>rw [hgx] at h3;cases h3
               | some bk'=>rw [hgx] at h3;exact ⟨bk',rfl,h3⟩
            ·intro d hd
             have hd':o.dst=some d:=hd
             rw [hd'] at hdst
             exact blt_iff.1 hdst
            ·intro j hj
             obtain ⟨e,he,hb,h2⟩:=p4 j hj
             refine ⟨e,Array.mem_toList_iff.1 he,hb,?_⟩
             rcases h2 with h2 | ⟨s,h2,h3⟩
             ·exact .inl h2
             ·exact .inr ⟨s,get_mem h2,h3⟩
     ·cases h
    ·cases h
    ·cases h
theorem cond_none {α:Type} {c:Bool} {x:Option α} {r:α} (h:(bif c then x else none)=some r):x=some r:=by cases c<;>first | exact h | cases h
theorem opX_rec {rv:Rv} {n:Cn} {o:Oper} {ex:Option (SB×Bool)} {r:Rec} (h:opX cc E nst nt T0 H0 ops rv n o ex=.ok r):r.ex=ex∧predsOf rv o.after.toList=some r.pr∧r.lk=o.looksAt ops∧r.vis=visOf (tlOf T0 rv r.pr r.lk) o.op∧r.n0=n:=by
 unfold opX at h
 split at h
 ·cases h
 ·rename_i pr hpr
  simp only at h
  cases hdst:(dstLt nt o.dst) with
  | false=>rw [hdst] at h;cases h
  | true=>
    rw [hdst,cond_true] at h
    split at h
    ·split at h
     ·rename_i r' hmk
      cases h
      unfold mkRec at hmk
      simp only at hmk
      have hmk:=cond_none (cond_none (cond_none hmk))
      cases hmk;exact ⟨rfl,hpr,rfl,rfl,rfl⟩
     ·cases h
    ·cases h
    ·cases h
theorem opX_ask {rv:Rv} {n:Cn} {o:Oper} {p:SB} (h:opX cc E nst nt T0 H0 ops rv n o none=.ask p):∃ pr,predsOf rv o.after.toList=some pr∧
  doOp cc E nst (hiOf H0 rv n (visOf (tlOf T0 rv pr (o.looksAt ops)) o.op) pr) (tlOf T0 rv pr (o.looksAt ops)) ops o=.ask p:=by
 unfold opX at h
 split at h
 ·cases h
 ·rename_i pr hpr
  simp only at h
  cases hdst:(dstLt nt o.dst) with
  | false=>rw [hdst] at h;cases h
  | true=>
    rw [hdst,cond_true] at h
    split at h
    ·split at h<;>cases h
    ·rename_i q hq
     cases h
     exact ⟨pr,hpr,hq⟩
    ·cases h
theorem opD_ok {rv:Rv} {n:Cn} (hg:Good cc E nst nt T0 H0 ops rv n) {o:Oper} (ho:ops[rv.length]? = some o) {r:Rec} (h:opD cc E nst nt T0 H0 ops rv n o=.ok r):GoodRec cc E nst nt T0 H0 ops rv n r∧r.ex=none:=by
 unfold opD at h
 split at h
 ·rename_i r' hx
  cases h
  exact ⟨opX_ok hg ho hx,(opX_rec hx).1⟩
 ·rename_i p _
  cases hs:p.stat with
  | false=>rw [hs] at h;cases h
  | true=>rw [hs] at h;cases h
 ·cases h
theorem opD_ask {rv:Rv} {n:Cn} {o:Oper} {p:SB} (h:opD cc E nst nt T0 H0 ops rv n o=.ask p):p.stat=true:=by
 unfold opD at h
 split at h
 ·cases h
 ·rename_i q _
  cases hs:q.stat with
  | false=>rw [hs] at h;cases h
  | true=>rw [hs] at h;cases h;exact hs
 ·cases h
theorem drawL_ok:∀ (l:List Oper) (rv:Rv) (n:Cn),Good cc E nst nt T0 H0 ops rv n→(∀ i r,(i,r)∈rv→r.ex=none)→l=ops.toList.drop rv.length→rv.length≤ops.size→
  match drawL cc E nst nt T0 H0 ops l rv.length rv n with
  | .ok T' H'=>∃ rvF nF,Good cc E nst nt T0 H0 ops rvF nF∧(∀ i r,(i,r)∈rvF→r.ex=none)∧rvF.length=ops.size∧T'=tmD (fun _=>true) T0 rvF∧
    H'={ heap:=hpD (fun _=>true) H0.heap rvF,nb:=nF.b,nd:=nF.d,nv:=nF.v,facts:=fcD (fun _=>true) H0.facts rvF,phis:=phD (fun _=>true) H0.phis rvF,bd:=H0.bd }
  | .ask p=>p.stat=true
  | .par _ _=>False
  | .upto _ _ _=>False
  | .bad _=>True
 | [],rv,n,hg,hpl,hl,hsz=>by
   refine ⟨rv,n,hg,hpl,?_,rfl,rfl⟩
   have:=congrArg List.length hl
   simp at this;omega
 | o::l,rv,n,hg,hpl,hl,hsz=>by
   have ho:ops[rv.length]? = some o:=by
    have:(ops.toList.drop rv.length)[0]? = some o:=by rw [← hl];rfl
    rw [List.getElem?_drop] at this
    simpa using this
   have hlt:rv.length < ops.size:=(Array.getElem?_eq_some_iff.1 ho).1
   show (match (match opD cc E nst nt T0 H0 ops rv n o with
    | .ok r=>drawL cc E nst nt T0 H0 ops l (Nat.succ rv.length) ((rv.length,r)::rv) r.n1
    | .ask p=>.ask p
    | .bad w=>.bad w) with
    | .ok T' H'=>_
    | .ask p=>_
    | .par _ _=>False
    | .upto _ _ _=>False
    | .bad _=>True)
   cases hop:opD cc E nst nt T0 H0 ops rv n o with
   | ok r=>
     obtain ⟨hr,hrx⟩:=opD_ok hg ho hop
     exact drawL_ok l ((rv.length,r)::rv) r.n1 (.cons hg hr) (fun i r' hm=>by
      rcases List.mem_cons.1 hm with e | hm
      ·cases e;exact hrx
      ·exact hpl i r' hm) (by
      have:=congrArg (List.drop 1) hl
      simpa [List.drop_drop,Nat.add_comm] using this) hlt
   | ask p=>exact opD_ask hop
   | bad w=>trivial
theorem lg_eq {α:Type} {D D':Nat→Bool} {h0:List (Nat×α)} {f:Rec→List (Nat×α)}:∀ {rv:Rv},(∀ j r,(j,r)∈rv→D j=D' j)→lg D h0 f rv=lg D' h0 f rv
 | [],_=>rfl
 | (j,r)::rv,h=>by
   rw [lg_cons,lg_cons,h j r (by simp),lg_eq (rv:=rv) fun j' r' hm=>h j' r' (List.mem_cons_of_mem _ hm)]
theorem KK.congr {rvF:Rv} {nF:Cn} {ρ0 ρ:Dyn} {W0 w:World} {tmps:Array Value} {D D':Nat→Bool} (h:∀ j r,(j,r)∈rvF→D j=D' j) (k:KK C hc w0 nt T0 H0 rvF nF ρ0 W0 D ρ tmps w):KK C hc w0 nt T0 H0 rvF nF ρ0 W0 D' ρ tmps w:=by
 have e1:lgC D T0 (cnOf H0) tmFr rvF=lgC D' T0 (cnOf H0) tmFr rvF:=lg_eq h
 have e2:lgC D H0.heap (cnOf H0) (fun r=>r.dh) rvF=lgC D' H0.heap (cnOf H0) (fun r=>r.dh) rvF:=lg_eq h
 have e3:hpD D H0.heap rvF=hpD D' H0.heap rvF:=lg_eq h
 have e4:hpD D [] rvF=hpD D' [] rvF:=lg_eq h
 obtain ⟨a1,a2,a3,a4,a5,a6,a7,a8,af,a9,a10,a11,a12,a13,a14,a15,a16,a17,a18,a19,a20,a21,a22⟩:=k
 rw [e1] at a2
 rw [e2] at a3
 rw [e3] at a4 a7 a8 af a14
 rw [e4] at a21 a22
 exact ⟨a1,a2,a3,a4,a5,fun j r hm hD=>a6 j r hm (by rw [h j r hm];exact hD),a7,fun j r hm hD=>a8 j r hm (by rw [h j r hm];exact hD),af,a9,fun j r hm hD=>a10 j r hm (by rw [h j r hm];exact hD),a11,a12,a13,a14,a15,a16,a17,a18,a19,a20,a21,a22⟩
theorem filter_lt {p q:Nat→Bool}:∀ {l:List Nat},(∀ x∈l,q x=true→p x=true)→(∃ x∈l,p x=true∧q x=false)→(l.filter q).length < (l.filter p).length
 | [],_,h=>by obtain ⟨_,h,_⟩:=h;cases h
 | a::l,h1,⟨x,hx,h2,h3⟩=>by
   have hle:∀ {l:List Nat},(∀ x∈l,q x=true→p x=true)→(l.filter q).length≤(l.filter p).length:=by
    intro l
    induction l with
    | nil=>simp
    | cons b l ih=>
      intro h
      have i:=ih fun x hx=>h x (List.mem_cons_of_mem _ hx)
      rw [List.filter_cons,List.filter_cons]
      split
      ·rename_i hq
       rw [if_pos (h b (by simp) hq)];simpa using i
      ·split
       ·simp;omega
       ·exact i
   rw [List.filter_cons,List.filter_cons]
   rcases List.mem_cons.1 hx with e | hx
   ·subst e
    rw [if_pos h2,if_neg (by rw [h3];simp)]
    have:=hle fun y hy=>h1 y (List.mem_cons_of_mem _ hy)
    simp;omega
   ·have ih:=filter_lt (l:=l) (fun y hy=>h1 y (List.mem_cons_of_mem _ hy)) ⟨x,hx,h2,h3⟩
    split
    ·rename_i hq
     rw [if_pos (h1 a (by simp) hq)];simpa using ih
    ·split
     ·simp;omega
     ·exact ih
theorem KK.all (hcc:cc.Ok C) (hE:EntsOk cc C E) (hn:NstOk cc C nst) (hb:∀ id bk,get H0.heap id=some bk→id < H0.nb) {rvF:Rv} {nF:Cn} (hg:Good cc E nst nt T0 H0 ops rvF nF) (hsz:rvF.length=ops.size) {ρ0:Dyn} {W0:World}
  {kk:List Item} {df:List Deferred} {ro:Option Nat} {kd:CallKind} {fn:FuncId} {cs:List Frame} :
  ∀ (fuel t:Nat) (listed:Array Bool) (ρ:Dyn) (tmps:Array Value) (w:World),listed.size=ops.size→((List.range ops.size).filter fun j=>!listed.getD j false).length≤fuel→
    Closed (fun j=>listed.getD j false) rvF→(∀ i r,(i,r)∈rvF→listed.getD i false=false→r.ex=none)→KK C hc w0 nt T0 H0 rvF nF ρ0 W0 (fun j=>listed.getD j false) ρ tmps w→
    ∃ ρ' tmps' w',KK C hc w0 nt T0 H0 rvF nF ρ0 W0 (fun _=>true) ρ' tmps' w'∧
      Steps cc.P (lone ((bF fn ro kd).atR { tmps:=tmps,defers:=df } (.inRegion ops (Region.linearise.go .any ops fuel t listed [])::kk)) cs w) (lone ((bF fn ro kd).atR { tmps:=tmps',defers:=df } (.inRegion ops []::kk)) cs w')
 | 0,t,listed,ρ,tmps,w,hls,hf,hcl,hpl,k=>by
   refine ⟨ρ,tmps,w,k.congr fun j r hm=>?_,.refl _ _⟩
   have hj:=hg.idx j r hm
   rw [hsz] at hj
   cases e:listed.getD j false with
   | true=>rfl
   | false=>
     have:j∈(List.range ops.size).filter fun j=>!listed.getD j false:=by
      rw [List.mem_filter,List.mem_range];exact ⟨hj,by simp only [e];rfl⟩
     have:=List.length_pos_of_mem this
     omega
 | fuel+1,t,listed,ρ,tmps,w,hls,hf,hcl,hpl,k=>by
   have hlg:∀ j,j < ops.size→listed.getD j true=listed.getD j false:=by
    intro j hj
    simp [Array.getElem?_eq_getElem (show j < listed.size by omega)]
   have hrd:∀ i r,(i,r)∈rvF→listed.getD i false=false→(∀ e∈(ops[i]?.map Oper.after).getD #[],Region.binds .any e=true→listed.getD e.on false=true)→∀ x∈r.pr,listed.getD x false=true:=by
    intro i r hm _ he x hx
    obtain ⟨l,rv,n,e1,e2,e3,e4,_⟩:=hg.split hm
    obtain ⟨o,H',p1,p2,p3,p4,p5,_⟩:=e3.op
    rw [e4] at p1
    rw [p1] at he
    obtain ⟨e,h1,h2,h3⟩:=p5 x hx
    have h4:=he e h1 h2
    rcases h3 with rfl | ⟨r',h5,h6⟩
    ·exact h4
    ·exact hcl e.on r' (by rw [e1];exact List.mem_append_right _ (List.mem_cons_of_mem _ h5)) h4 x h6
   show ∃ ρ' tmps' w',_∧Steps cc.P (lone ((bF fn ro kd).atR { tmps:=tmps,defers:=df } (.inRegion ops (match (Region.ready .any ops listed)[t % (Region.ready .any ops listed).length]? with
    | some i=>Region.linearise.go .any ops fuel (t / (Region.ready .any ops listed).length) (listed.setIfInBounds i true) [i]
    | none=>[])::kk)) cs w) _
   cases hrs:(Region.ready .any ops listed)[t % (Region.ready .any ops listed).length]? with
   | some i=>
     have hmem:=List.mem_of_getElem? hrs
     obtain ⟨h0,o,ho,hall⟩:=mem_ready.1 hmem
     have hi:i < ops.size:=(Array.getElem?_eq_some_iff.1 ho).1
     rw [hlg i hi] at h0
     obtain ⟨r,hr⟩:=hg.mem (show i < rvF.length by omega)
     have hpr:=hrd i r hr h0 (by rw [ho];exact hall)
     obtain ⟨ρ1,tmps1,w1,k1,st1⟩:=k.step hcc hE hn hb hg hr hcl h0 hpr (fun f hf=>by rw [hpl i r hr h0] at hf;cases hf) (rest:=Region.linearise.go .any ops fuel (t / (Region.ready .any ops listed).length) (listed.setIfInBounds i true) []) (kk:=kk) (df:=df) (ro:=ro) (fn:=fn) (cs:=cs)
     have hadd:(fun j=>(listed.setIfInBounds i true).getD j false)=addD (fun j=>listed.getD j false) i:=by
      funext j
      by_cases hji:j=i
      ·subst hji
       rw [addD_self]
       simp [show j < listed.size by omega]
      ·rw [addD_ne hji]
       exact getD_set_ne false (Ne.symm hji)
     obtain ⟨ρ2,tmps2,w2,k2,st2⟩:=KK.all hcc hE hn hb hg hsz (kk:=kk) (df:=df) (ro:=ro) (fn:=fn) (cs:=cs) fuel (t / (Region.ready .any ops listed).length) (listed.setIfInBounds i true) ρ1 tmps1 w1 (by simpa using hls) (by
       have:=filter_lt (l:=List.range ops.size) (p:=fun j=>!listed.getD j false) (q:=fun j=>!(listed.setIfInBounds i true).getD j false) (fun x _ hx=>by
        have e:(listed.setIfInBounds i true).getD x false=addD (fun j=>listed.getD j false) i x:=congrFun hadd x
        rw [e] at hx
        cases hc:listed.getD x false with
        | false=>rfl
        | true=>rw [addD_of hc] at hx;cases hx) ⟨i,List.mem_range.2 hi,by simp only [h0];rfl,by
          have e:(listed.setIfInBounds i true).getD i false=addD (fun j=>listed.getD j false) i i:=congrFun hadd i
          simp only [e,addD_self];rfl⟩
       omega) (by rw [hadd];exact hcl.add hg hr hpr) (fun j s hj hjl=>hpl j s hj (by
       have e:(listed.setIfInBounds i true).getD j false=addD (fun j=>listed.getD j false) i j:=congrFun hadd j
       rw [e] at hjl
       cases hcj:listed.getD j false with
       | false=>rfl
       | true=>rw [addD_of hcj] at hjl;cases hjl)) (by rw [hadd];exact k1)
     refine ⟨ρ2,tmps2,w2,k2,?_⟩
     have e:Region.linearise.go .any ops fuel (t / (Region.ready .any ops listed).length) (listed.setIfInBounds i true) [i]=i::Region.linearise.go .any ops fuel (t / (Region.ready .any ops listed).length) (listed.setIfInBounds i true) []:=by
      rw [linearise_go_acc];rfl
     simp only [e]
     exact st1.trans st2
   | none=>
     have hnil:∀ j,j ∉ Region.ready .any ops listed:=by
      intro j hj
      have hp:=List.length_pos_of_mem hj
      have:=List.getElem?_eq_none_iff.1 hrs
      have:=Nat.mod_lt t hp
      omega
     have hdone:∀ j,j < ops.size→listed.getD j false=true:=by
      intro j
      induction j using Nat.strongRecOn with
      | _ j ih=>
        intro hj
        cases e:listed.getD j false with
        | true=>rfl
        | false=>
          exfalso
          obtain ⟨r,hr⟩:=hg.mem (show j < rvF.length by omega)
          obtain ⟨l,rv,n,e1,e2,e3,e4,_⟩:=hg.split hr
          obtain ⟨o,H',p1,p2,p3,p4,p5,_⟩:=e3.op
          rw [e4] at p1
          refine hnil j (mem_ready.2 ⟨by rw [hlg j hj];exact e,o,p1,fun ed he hbd=>?_⟩)
          have:=e3.prlt _ (p4 ed he hbd)
          exact ih ed.on (by omega) (by omega)
     refine ⟨ρ,tmps,w,k.congr fun j r hm=>?_,.refl _ _⟩
     have hj:=hg.idx j r hm
     exact hdone j (by omega)
theorem KK.ext {ρ0 ρ:Dyn} {W0 w:World} {tmps:Array Value} {D:Nat→Bool} {rv:Rv} {n:Cn} {r:Rec} (k:KK C hc w0 nt T0 H0 rv n ρ0 W0 D ρ tmps w) (hr:GoodRec cc E nst nt T0 H0 ops rv n r) (hi:D rv.length=false) :
  KK C hc w0 nt T0 H0 ((rv.length,r)::rv) r.n1 ρ0 W0 D ρ tmps w:=by
 have e0:∀ {α:Type} (h0:List (Nat×α)) (f:Rec→List (Nat×α)),lg D h0 f ((rv.length,r)::rv)=lg D h0 f rv:=fun h0 f=>by rw [lg_cons,hi];rfl
 have e1:lgC D T0 (cnOf H0) tmFr ((rv.length,r)::rv)=lgC D T0 (cnOf H0) tmFr rv:=e0 _ _
 have e2:lgC D H0.heap (cnOf H0) (fun r=>r.dh) ((rv.length,r)::rv)=lgC D H0.heap (cnOf H0) (fun r=>r.dh) rv:=e0 _ _
 have e3:hpD D H0.heap ((rv.length,r)::rv)=hpD D H0.heap rv:=e0 _ _
 have e4:hpD D [] ((rv.length,r)::rv)=hpD D [] rv:=e0 _ _
 obtain ⟨a1,a2,a3,a4,a5,a6,a7,a8,af,a9,a10,a11,a12,a13,a14,a15,a16,a17,a18,a19,a20,a21,a22⟩:=k
 rw [← e1] at a2
 rw [← e2] at a3
 rw [← e3] at a4 a7 a8 af a14
 rw [← e4] at a21 a22
 have hle:=hr.le
 refine ⟨a1,a2,a3,a4,a5,fun j s hm hD=>?_,a7,fun j s hm hD=>?_,af,a9,fun j s hm hD=>?_,⟨fun i hh=>a11.1 i (Nat.le_trans hle.1 hh),fun i hh=>a11.2.1 i (Nat.le_trans hle.2.1 hh),fun i hh=>a11.2.2 i (Nat.le_trans hle.2.2 hh)⟩,a12,a13,a14,a15,a16,a17,a18,a19,a20,a21,a22⟩
 ·rcases List.mem_cons.1 hm with e | hm
  ·cases e;rw [hi] at hD;cases hD
  ·exact a6 j s hm hD
 ·rcases List.mem_cons.1 hm with e | hm
  ·cases e;rw [hi] at hD;cases hD
  ·exact a8 j s hm hD
 ·rcases List.mem_cons.1 hm with e | hm
  ·cases e
   rw [hr.n0]
   exact ⟨fun i h1 _=>a11.1 i h1,fun i h1 _=>a11.2.1 i h1,fun i h1 _=>a11.2.2 i h1⟩
  ·exact a10 j s hm hD
theorem lateO_ok {i:Nat} {o:Oper} (h:lateO i o=true):∃ e∈o.after,Region.binds .any e=true∧i≤e.on:=by
 unfold lateO at h
 have key:∀ l:List Edge,(List.rec (motive:=fun _=>Bool) false (fun e _ r=>bif Region.binds .any e then (bif Nat.ble i e.on then true else r) else r) l:Bool)=true→∃ e∈l,Region.binds .any e=true∧i≤e.on:=by
  intro l
  induction l with
  | nil=>intro h;cases h
  | cons e l ih=>
    intro h
    dsimp only at h
    cases hb:Region.binds .any e with
    | false=>
      rw [hb] at h
      obtain ⟨x,h1,h2⟩:=ih h
      exact ⟨x,List.mem_cons_of_mem _ h1,h2⟩
    | true=>
      rw [hb,cond_true] at h
      cases hl:Nat.ble i e.on with
      | true=>exact ⟨e,List.mem_cons_self ..,hb,Nat.le_of_ble_eq_true hl⟩
      | false=>
        rw [hl] at h
        obtain ⟨x,h1,h2⟩:=ih h
        exact ⟨x,List.mem_cons_of_mem _ h1,h2⟩
 obtain ⟨e,h1,h2⟩:=key _ h
 exact ⟨e,Array.mem_toList_iff.1 h1,h2⟩
theorem drop_next {o:Oper} {l:List Oper} {m:Nat} (hl:o::l=ops.toList.drop m):ops[m]? = some o∧l=ops.toList.drop (m+1):=by
 refine ⟨?_,?_⟩
 ·have:(ops.toList.drop m)[0]? = some o:=by rw [← hl];rfl
  rw [List.getElem?_drop] at this
  simpa using this
 ·have:=congrArg (List.drop 1) hl
  simpa [List.drop_drop,Nat.add_comm] using this
theorem listed_add {listed:Array Bool} {i:Nat} (hi:i < listed.size):(fun j=>(listed.setIfInBounds i true).getD j false)=addD (fun j=>listed.getD j false) i:=by
 funext j
 by_cases hji:j=i
 ·subst hji
  rw [addD_self]
  simp [hi]
 ·rw [addD_ne hji]
  exact getD_set_ne false (Ne.symm hji)
theorem listed_cnt {listed:Array Bool} {i m:Nat} (hi:i < listed.size) (him:i < m) (h0:listed.getD i false=false):((List.range m).filter fun j=>!(listed.setIfInBounds i true).getD j false).length < ((List.range m).filter fun j=>!listed.getD j false).length:=by
 have hadd:=listed_add hi
 refine filter_lt (l:=List.range m) (p:=fun j=>!listed.getD j false) (q:=fun j=>!(listed.setIfInBounds i true).getD j false) (fun x _ hx=>?_) ⟨i,List.mem_range.2 him,by simp only [h0];rfl,?_⟩
 ·have e:(listed.setIfInBounds i true).getD x false=addD (fun j=>listed.getD j false) i x:=congrFun hadd x
  rw [e] at hx
  cases hc:listed.getD x false with
  | false=>rfl
  | true=>rw [addD_of hc] at hx;cases hx
 ·have e:(listed.setIfInBounds i true).getD i false=addD (fun j=>listed.getD j false) i i:=congrFun hadd i
  simp only [e,addD_self];rfl
theorem KK.allF (hcc:cc.Ok C) (hE:EntsOk cc C E) (hn:NstOk cc C nst) (hb:∀ id bk,get H0.heap id=some bk→id < H0.nb) {ρ0:Dyn} {W0:World}
  {kk:List Item} {df:List Deferred} {ro:Option Nat} {kd:CallKind} {fn:FuncId} {cs:List Frame} :
  ∀ (l:List Oper) (rv:Rv) (n:Cn) (x:List (Nat×SV)×Hp) (L:List (List (Nat×SV)×Hp)),Good cc E nst nt T0 H0 ops rv n→l=ops.toList.drop rv.length→rv.length≤ops.size→drawF cc E nst nt T0 H0 ops l rv.length rv n=.ok x L→
  ∀ (fuel t:Nat) (listed:Array Bool) (ρ:Dyn) (tmps:Array Value) (w:World),listed.size=ops.size→((List.range ops.size).filter fun j=>!listed.getD j false).length≤fuel→
    Closed (fun j=>listed.getD j false) rv→(∀ j,listed.getD j false=true→j < rv.length)→(∀ i r,(i,r)∈rv→listed.getD i false=false→r.ex=none)→KK C hc w0 nt T0 H0 rv n ρ0 W0 (fun j=>listed.getD j false) ρ tmps w→
    ∃ y∈x::L,∃ ρ' tmps' w',Tn ρ0 H0 W0 ρ' y.2 w'∧TmRel C.σ ρ' nt y.1 tmps'∧HpRel C hc w0 ρ' y.2 w'∧
      Steps cc.P (lone ((bF fn ro kd).atR { tmps:=tmps,defers:=df } (.inRegion ops (Region.linearise.go .any ops fuel t listed [])::kk)) cs w) (lone ((bF fn ro kd).atR { tmps:=tmps',defers:=df } (.inRegion ops []::kk)) cs w')
 | [],rv,n,x,L,hg,hl,hsz,hdr=>by
   intro fuel t listed ρ tmps w hls hf hcl hlt hpl k
   have hlen:rv.length=ops.size:=by
    have:=congrArg List.length hl
    simp at this;omega
   have hdr':DF.ok (leafD T0 H0 rv n) []=.ok x L:=hdr
   cases hdr'
   obtain ⟨ρ',tmps',w',k1,st⟩:=KK.all hcc hE hn hb hg hlen (kk:=kk) (df:=df) (ro:=ro) (fn:=fn) (cs:=cs) fuel t listed ρ tmps w hls hf hcl hpl k
   obtain ⟨h1,h2,h3⟩:=k1.finish hb hg
   exact ⟨_,List.mem_cons_self ..,ρ',tmps',w',h1,h2,h3,st⟩
 | o::l,rv,n,x,L,hg,hl,hsz,hdr=>by
   obtain ⟨ho,hl'⟩:=drop_next hl
   have hilt:rv.length < ops.size:=(Array.getElem?_eq_some_iff.1 ho).1
   have hdr':(match opX cc E nst nt T0 H0 ops rv n o none with
    | .ok r=>drawF cc E nst nt T0 H0 ops l (Nat.succ rv.length) ((rv.length,r)::rv) r.n1
    | .ask p=>bif p.dlo n.d then (bif lall (lateO rv.length) l then
      (match opX cc E nst nt T0 H0 ops rv n o (some (p,true)),opX cc E nst nt T0 H0 ops rv n o (some (p,false)) with
      | .ok r1,.ok r2=>(match drawF cc E nst nt T0 H0 ops l (Nat.succ rv.length) ((rv.length,r1)::rv) r1.n1,drawF cc E nst nt T0 H0 ops l (Nat.succ rv.length) ((rv.length,r2)::rv) r2.n1 with
        | .ok x a,.ok y b=>DF.ok x (lapp a (y::b))
        | .no w,_=>.no w
        | _,.no w=>.no w)
      | x,y=>.no (Nat.add (Nat.mul 10000 (RD.why x)) (RD.why y))) else .no 402) else .no 401
    | .bad w=>.no w)=.ok x L:=hdr
   have onw:∀ (r:Rec) (x':List (Nat×SV)×Hp) (L':List (List (Nat×SV)×Hp)),GoodRec cc E nst nt T0 H0 ops rv n r→drawF cc E nst nt T0 H0 ops l (Nat.succ rv.length) ((rv.length,r)::rv) r.n1=.ok x' L'→
    ∀ (fuel t:Nat) (listed:Array Bool) (ρ:Dyn) (tmps:Array Value) (w:World),listed.size=ops.size→((List.range ops.size).filter fun j=>!listed.getD j false).length≤fuel→
    Closed (fun j=>listed.getD j false) ((rv.length,r)::rv)→(∀ j,listed.getD j false=true→j < rv.length+1)→(∀ i s,(i,s)∈(rv.length,r)::rv→listed.getD i false=false→s.ex=none)→KK C hc w0 nt T0 H0 ((rv.length,r)::rv) r.n1 ρ0 W0 (fun j=>listed.getD j false) ρ tmps w→
    ∃ y∈x'::L',∃ ρ' tmps' w',Tn ρ0 H0 W0 ρ' y.2 w'∧TmRel C.σ ρ' nt y.1 tmps'∧HpRel C hc w0 ρ' y.2 w'∧
      Steps cc.P (lone ((bF fn ro kd).atR { tmps:=tmps,defers:=df } (.inRegion ops (Region.linearise.go .any ops fuel t listed [])::kk)) cs w) (lone ((bF fn ro kd).atR { tmps:=tmps',defers:=df } (.inRegion ops []::kk)) cs w'):=
    fun r x' L' hr hd'=>KK.allF hcc hE hn hb (kk:=kk) (df:=df) (ro:=ro) (fn:=fn) (cs:=cs) l ((rv.length,r)::rv) r.n1 x' L' (.cons hg hr) hl' hilt hd'
   split at hdr'
   ·rename_i r hop
    intro fuel t listed ρ tmps w hls hf hcl hlt hpl k
    have hr:=opX_ok hg ho hop
    have hrx:=(opX_rec hop).1
    have hi:listed.getD rv.length false=false:=by
     cases e:listed.getD rv.length false with
     | false=>rfl
     | true=>have:=hlt _ e;omega
    refine onw r x L hr hdr' fuel t listed ρ tmps w hls hf ?_ (fun j hj=>Nat.lt_succ_of_lt (hlt j hj)) ?_ (k.ext hr hi)
    ·intro j s hm hD y hy
     rcases List.mem_cons.1 hm with e | hm
     ·cases e;have hD:listed.getD rv.length false=true:=hD;rw [hi] at hD;cases hD
     ·exact hcl j s hm hD y hy
    ·intro j s hm hj
     rcases List.mem_cons.1 hm with e | hm
     ·cases e;exact hrx
     ·exact hpl j s hm hj
   ·rename_i p hop
    cases hpd:p.dlo n.d with
    | false=>rw [hpd] at hdr';cases hdr'
    | true=>
    rw [hpd,cond_true] at hdr'
    cases hlate:lall (lateO rv.length) l with
    | false=>rw [hlate] at hdr';cases hdr'
    | true=>
    rw [hlate,cond_true] at hdr'
    split at hdr'
    ·rename_i r1 r2 hop1 hop2
     split at hdr'
     ·rename_i x1 L1 x2 L2 hd1 hd2
      cases hdr'
      have hr1:=opX_ok hg ho hop1
      have hr2:=opX_ok hg ho hop2
      obtain ⟨f1,f2,f3,f4,f5⟩:=opX_rec hop1
      obtain ⟨g1,g2,g3,g4,g5⟩:=opX_rec hop2
      obtain ⟨pr,u1,u2⟩:=opX_ask hop
      have hpr1:pr=r1.pr:=by rw [u1] at f2;exact Option.some.inj f2
      have hpr2:r2.pr=r1.pr:=by rw [f2] at g2;exact (Option.some.inj g2).symm
      have hlk2:r2.lk=r1.lk:=by rw [f3,g3]
      subst hpr1
      rw [← f3,← f4] at u2
      intro fuel
      induction fuel with
      | zero=>
        intro t listed ρ tmps w hls hf hcl hlt hpl k
        exfalso
        have hi:listed.getD rv.length false=false:=by
         cases e:listed.getD rv.length false with
         | false=>rfl
         | true=>have:=hlt _ e;omega
        have:rv.length∈(List.range ops.size).filter fun j=>!listed.getD j false:=by
         rw [List.mem_filter,List.mem_range];exact ⟨hilt,by simp only [hi];rfl⟩
        have:=List.length_pos_of_mem this
        omega
      | succ fuel ih=>
        intro t listed ρ tmps w hls hf hcl hlt hpl k
        have hi:listed.getD rv.length false=false:=by
         cases e:listed.getD rv.length false with
         | false=>rfl
         | true=>have:=hlt _ e;omega
        have hlg:∀ j,j < ops.size→listed.getD j true=listed.getD j false:=by
         intro j hj
         simp [Array.getElem?_eq_getElem (show j < listed.size by omega)]
        have hg1:Good cc E nst nt T0 H0 ops ((rv.length,r1)::rv) r1.n1:=.cons hg hr1
        have hrd:∀ i r,(i,r)∈(rv.length,r1)::rv→(∀ e∈(ops[i]?.map Oper.after).getD #[],Region.binds .any e=true→listed.getD e.on false=true)→∀ x∈r.pr,listed.getD x false=true:=by
         intro i r hm he x hx
         obtain ⟨l,rv',n',e1,e2,e3,e4,_⟩:=hg1.split hm
         obtain ⟨o',H',p1,p2,p3,p4,p5,_⟩:=e3.op
         rw [e4] at p1
         rw [p1] at he
         obtain ⟨e,h1,h2,h3⟩:=p5 x hx
         have h4:=he e h1 h2
         rcases h3 with rfl | ⟨r',h5,h6⟩
         ·exact h4
         ·have hm':(e.on,r')∈(rv.length,r1)::rv:=by rw [e1];exact List.mem_append_right _ (List.mem_cons_of_mem _ h5)
          rcases List.mem_cons.1 hm' with e' | hm'
          ·have h7:=congrArg Prod.fst e'
           simp only at h7
           rw [h7,hi] at h4;cases h4
          ·exact hcl e.on r' hm' h4 x h6
        show ∃ y∈_,∃ ρ' tmps' w',_∧_∧_∧Steps cc.P (lone ((bF fn ro kd).atR { tmps:=tmps,defers:=df } (.inRegion ops (match (Region.ready .any ops listed)[t % (Region.ready .any ops listed).length]? with
         | some i=>Region.linearise.go .any ops fuel (t / (Region.ready .any ops listed).length) (listed.setIfInBounds i true) [i]
         | none=>[])::kk)) cs w) _
        cases hrs:(Region.ready .any ops listed)[t % (Region.ready .any ops listed).length]? with
        | some q=>
          have hmem:=List.mem_of_getElem? hrs
          obtain ⟨h0,o',ho',hall⟩:=mem_ready.1 hmem
          have hq:q < ops.size:=(Array.getElem?_eq_some_iff.1 ho').1
          rw [hlg q hq] at h0
          have hql:q < listed.size:=by omega
          have hadd:=listed_add hql
          have hcnt:=listed_cnt hql hq h0
          have e0:Region.linearise.go .any ops fuel (t / (Region.ready .any ops listed).length) (listed.setIfInBounds q true) [q]=q::Region.linearise.go .any ops fuel (t / (Region.ready .any ops listed).length) (listed.setIfInBounds q true) []:=by
           rw [linearise_go_acc];rfl
          have hmono:∀ j,(listed.setIfInBounds q true).getD j false=false→listed.getD j false=false:=fun j hj=>by
           have e:(listed.setIfInBounds q true).getD j false=addD (fun j=>listed.getD j false) q j:=congrFun hadd j
           rw [e] at hj
           cases hc:listed.getD j false with
           | false=>rfl
           | true=>rw [addD_of hc] at hj;cases hj
          have hnew:∀ j,(listed.setIfInBounds q true).getD j false=true→j=q∨listed.getD j false=true:=fun j hj=>by
           have e:(listed.setIfInBounds q true).getD j false=addD (fun j=>listed.getD j false) q j:=congrFun hadd j
           by_cases hjq:j=q
           ·exact .inl hjq
           ·rw [e,addD_ne hjq] at hj;exact .inr hj
          rcases Nat.lt_trichotomy q rv.length with hlt' | heq | hgt
          ·
           obtain ⟨r,hr⟩:=hg.mem hlt'
           have hpr:=hrd q r (List.mem_cons_of_mem _ hr) (by rw [ho'];exact hall)
           obtain ⟨ρ1,tmps1,w1,k1,st1⟩:=k.step hcc hE hn hb hg hr hcl h0 hpr (fun f hf=>by rw [hpl q r hr h0] at hf;cases hf) (rest:=Region.linearise.go .any ops fuel (t / (Region.ready .any ops listed).length) (listed.setIfInBounds q true) []) (kk:=kk) (df:=df) (ro:=ro) (fn:=fn) (cs:=cs)
           obtain ⟨y,hy,ρ2,tmps2,w2,z1,z2,z3,st2⟩:=ih (t / (Region.ready .any ops listed).length) (listed.setIfInBounds q true) ρ1 tmps1 w1 (by simpa using hls) (by omega) (by rw [hadd];exact hcl.add hg hr hpr) (fun j hj=>by
            rcases hnew j hj with e | e
            ·omega
            ·exact hlt j e) (fun j s hj hjl=>hpl j s hj (hmono j hjl)) (by rw [hadd];exact k1)
           refine ⟨y,hy,ρ2,tmps2,w2,z1,z2,z3,?_⟩
           simp only [e0]
           exact st1.trans st2
          ·
           subst heq
           have hoo:o'=o:=by rw [ho] at ho';exact (Option.some.inj ho').symm
           have hpr:=hrd rv.length r1 (List.mem_cons_self ..) (by rw [ho'];exact hall)
           have hc1:∀ r,r.pr=r1.pr→Closed (fun j=>listed.getD j false) ((rv.length,r)::rv):=fun r _ j s hm hD y hy=>by
            rcases List.mem_cons.1 hm with e | hm
            ·cases e;have hD:listed.getD rv.length false=true:=hD;rw [hi] at hD;cases hD
            ·exact hcl j s hm hD y hy
           have k1:=k.ext hr1 hi
           have k2:=k.ext hr2 hi
           obtain ⟨_,hc',q1,q2,q3,q4⟩:=k1.know hb hg1 (l:=[]) rfl hg hr1 rfl (by simp) (hc1 r1 rfl) hi hpr
           obtain ⟨b,hbp⟩:=doOp_ask hcc hE hn q3 q4 u2 hpd
           have fin:∀ (r:Rec) (x':List (Nat×SV)×Hp) (L':List (List (Nat×SV)×Hp)),GoodRec cc E nst nt T0 H0 ops rv n r→r.pr=r1.pr→r.ex=some (p,b)→KK C hc w0 nt T0 H0 ((rv.length,r)::rv) r.n1 ρ0 W0 (fun j=>listed.getD j false) ρ tmps w→drawF cc E nst nt T0 H0 ops l (Nat.succ rv.length) ((rv.length,r)::rv) r.n1=.ok x' L'→
             ∃ y∈x'::L',∃ ρ' tmps' w',Tn ρ0 H0 W0 ρ' y.2 w'∧TmRel C.σ ρ' nt y.1 tmps'∧HpRel C hc w0 ρ' y.2 w'∧
               Steps cc.P (lone ((bF fn ro kd).atR { tmps:=tmps,defers:=df } (.inRegion ops (rv.length::Region.linearise.go .any ops fuel (t / (Region.ready .any ops listed).length) (listed.setIfInBounds rv.length true) [])::kk)) cs w) (lone ((bF fn ro kd).atR { tmps:=tmps',defers:=df } (.inRegion ops []::kk)) cs w'):=by
            intro r x' L' hr hprr hex kr hdd
            have hgr:Good cc E nst nt T0 H0 ops ((rv.length,r)::rv) r.n1:=.cons hg hr
            have hprr':∀ k∈r.pr,(fun j=>listed.getD j false) k=true:=by rw [hprr];exact hpr
            obtain ⟨ρ1,tmps1,w1,kk1,st1⟩:=kr.step hcc hE hn hb hgr (List.mem_cons_self ..) (hc1 r hprr) hi hprr' (fun f hf=>by
             rw [hex] at hf;cases hf;rw [hr.n0];exact hbp) (rest:=Region.linearise.go .any ops fuel (t / (Region.ready .any ops listed).length) (listed.setIfInBounds rv.length true) []) (kk:=kk) (df:=df) (ro:=ro) (fn:=fn) (cs:=cs)
            obtain ⟨y,hy,ρ2,tmps2,w2,z1,z2,z3,st2⟩:=onw r x' L' hr hdd fuel (t / (Region.ready .any ops listed).length) (listed.setIfInBounds rv.length true) ρ1 tmps1 w1 (by simpa using hls) (by omega) (by rw [hadd];exact (hc1 r hprr).add hgr (List.mem_cons_self ..) hprr') (fun j hj=>by
             rcases hnew j hj with e | e
             ·omega
             ·have:=hlt j e;omega) (fun j s hj hjl=>by
             rcases List.mem_cons.1 hj with e | hj
             ·cases e
              have e:(listed.setIfInBounds rv.length true).getD rv.length false=addD (fun j=>listed.getD j false) rv.length rv.length:=congrFun hadd rv.length
              rw [e,addD_self] at hjl;cases hjl
             ·exact hpl j s hj (hmono j hjl)) (by rw [hadd];exact kk1)
            exact ⟨y,hy,ρ2,tmps2,w2,z1,z2,z3,st1.trans st2⟩
           cases b with
           | true=>
             obtain ⟨y,hy,rest⟩:=fin r1 x L1 hr1 rfl f1 k1 hd1
             refine ⟨y,?_,?_⟩
             ·rw [lapp_eq]
              rcases List.mem_cons.1 hy with e | hy
              ·rw [e];exact List.mem_cons_self ..
              ·exact List.mem_cons_of_mem _ (List.mem_append_left _ hy)
             ·simp only [e0];exact rest
           | false=>
             obtain ⟨y,hy,rest⟩:=fin r2 x2 L2 hr2 hpr2 g1 k2 hd2
             refine ⟨y,?_,?_⟩
             ·rw [lapp_eq]
              exact List.mem_cons_of_mem _ (List.mem_append_right _ hy)
             ·simp only [e0];exact rest
          ·
           exfalso
           have hm:o'∈l:=by
            have:(ops.toList.drop (rv.length+1))[q - (rv.length+1)]? = some o':=by
             rw [List.getElem?_drop,show rv.length+1+(q - (rv.length+1))=q by omega]
             simpa using ho'
            rw [← hl'] at this
            exact List.mem_of_getElem? this
           obtain ⟨e,h1,h2,h3⟩:=lateO_ok (lall_iff.1 hlate o' hm)
           have:=hlt e.on (hall e h1 h2)
           omega
        | none=>
          exfalso
          have hnil:∀ j,j ∉ Region.ready .any ops listed:=by
           intro j hj
           have hp:=List.length_pos_of_mem hj
           have:=List.getElem?_eq_none_iff.1 hrs
           have:=Nat.mod_lt t hp
           omega
          have hdone:∀ j,j < rv.length+1→listed.getD j false=true:=by
           intro j
           induction j using Nat.strongRecOn with
           | _ j ihj=>
             intro hj
             cases e:listed.getD j false with
             | true=>rfl
             | false=>
               exfalso
               obtain ⟨r,hr⟩:=hg1.mem (i:=j) (by simpa using hj)
               obtain ⟨l',rv',n',e1,e2,e3,e4,_⟩:=hg1.split hr
               obtain ⟨o',H',p1,p2,p3,p4,p5,_⟩:=e3.op
               rw [e4] at p1
               refine hnil j (mem_ready.2 ⟨by rw [hlg j (by omega)];exact e,o',p1,fun ed he hbd=>?_⟩)
               have:=e3.prlt _ (p4 ed he hbd)
               exact ihj ed.on (by omega) (by omega)
          have:=hdone rv.length (by omega)
          rw [hi] at this;cases this
     ·cases hdr'
     ·cases hdr'
    ·cases hdr'
   ·cases hdr'
theorem KK.upto (hcc:cc.Ok C) (hE:EntsOk cc C E) (hn:NstOk cc C nst) (hb:∀ id bk,get H0.heap id=some bk→id < H0.nb) {rvF:Rv} {nF:Cn} (hg:Good cc E nst nt T0 H0 ops rvF nF) {p:Nat} {op:Oper} {pr:List Nat} (hlen:rvF.length=p) (hsz:p+1=ops.size)
  (hop:ops[p]? = some op) (hprs:predsOf rvF op.after.toList=some pr) (hall:∀ j,j < p→j∈pr) {ρ0:Dyn} {W0:World}
  {kk:List Item} {df:List Deferred} {ro:Option Nat} {kd:CallKind} {fn:FuncId} {cs:List Frame} :
  ∀ (fuel t:Nat) (listed:Array Bool) (ρ:Dyn) (tmps:Array Value) (w:World),listed.size=ops.size→listed.getD p false=false→((List.range ops.size).filter fun j=>!listed.getD j false).length≤fuel→
    Closed (fun j=>listed.getD j false) rvF→(∀ i r,(i,r)∈rvF→listed.getD i false=false→r.ex=none)→KK C hc w0 nt T0 H0 rvF nF ρ0 W0 (fun j=>listed.getD j false) ρ tmps w→
    ∃ ρ' tmps' w',KK C hc w0 nt T0 H0 rvF nF ρ0 W0 (fun _=>true) ρ' tmps' w'∧
      Steps cc.P (lone ((bF fn ro kd).atR { tmps:=tmps,defers:=df } (.inRegion ops (Region.linearise.go .any ops fuel t listed [])::kk)) cs w) (lone ((bF fn ro kd).atR { tmps:=tmps',defers:=df } (.inRegion ops [p]::kk)) cs w')
 | 0,t,listed,ρ,tmps,w,hls,hp0,hf,hcl,hpl,k=>by
   exfalso
   have:p∈(List.range ops.size).filter fun j=>!listed.getD j false:=by
    rw [List.mem_filter,List.mem_range];exact ⟨by omega,by simp only [hp0];rfl⟩
   have:=List.length_pos_of_mem this
   omega
 | fuel+1,t,listed,ρ,tmps,w,hls,hp0,hf,hcl,hpl,k=>by
   have hlg:∀ j,j < ops.size→listed.getD j true=listed.getD j false:=by
    intro j hj
    simp [Array.getElem?_eq_getElem (show j < listed.size by omega)]
   have hpo:=predsOf_ok hprs
   have hlast:(∀ e∈op.after,Region.binds .any e=true→listed.getD e.on false=true)→∀ j,j < p→listed.getD j false=true:=by
    intro he j hj
    obtain ⟨e,h1,h2,h3⟩:=hpo.2.2.2 j (hall j hj)
    have h4:=he e (Array.mem_toList_iff.1 h1) h2
    rcases h3 with rfl | ⟨r',h5,h6⟩
    ·exact h4
    ·exact hcl e.on r' (get_mem h5) h4 j h6
   have hrd:∀ i r,(i,r)∈rvF→listed.getD i false=false→(∀ e∈(ops[i]?.map Oper.after).getD #[],Region.binds .any e=true→listed.getD e.on false=true)→∀ x∈r.pr,listed.getD x false=true:=by
    intro i r hm _ he x hx
    obtain ⟨l,rv,n,e1,e2,e3,e4,_⟩:=hg.split hm
    obtain ⟨o,H',p1,p2,p3,p4,p5,_⟩:=e3.op
    rw [e4] at p1
    rw [p1] at he
    obtain ⟨e,h1,h2,h3⟩:=p5 x hx
    have h4:=he e h1 h2
    rcases h3 with rfl | ⟨r',h5,h6⟩
    ·exact h4
    ·exact hcl e.on r' (by rw [e1];exact List.mem_append_right _ (List.mem_cons_of_mem _ h5)) h4 x h6
   show ∃ ρ' tmps' w',_∧Steps cc.P (lone ((bF fn ro kd).atR { tmps:=tmps,defers:=df } (.inRegion ops (match (Region.ready .any ops listed)[t % (Region.ready .any ops listed).length]? with
    | some i=>Region.linearise.go .any ops fuel (t / (Region.ready .any ops listed).length) (listed.setIfInBounds i true) [i]
    | none=>[])::kk)) cs w) _
   cases hrs:(Region.ready .any ops listed)[t % (Region.ready .any ops listed).length]? with
   | some i=>
     have hmem:=List.mem_of_getElem? hrs
     obtain ⟨h0,o,ho,hallr⟩:=mem_ready.1 hmem
     have hi:i < ops.size:=(Array.getElem?_eq_some_iff.1 ho).1
     rw [hlg i hi] at h0
     have e:Region.linearise.go .any ops fuel (t / (Region.ready .any ops listed).length) (listed.setIfInBounds i true) [i]=i::Region.linearise.go .any ops fuel (t / (Region.ready .any ops listed).length) (listed.setIfInBounds i true) []:=by
      rw [linearise_go_acc];rfl
     simp only [e]
     by_cases hip:i=p
     ·subst hip
      rw [hop] at ho;cases ho
      have hd:=hlast (fun e he hb=>hallr e he hb)
      have hadd:=listed_add (listed:=listed) (i:=i) (by omega)
      have hdone:∀ j,j < ops.size→(listed.setIfInBounds i true).getD j false=true:=fun j hj=>by
       have e2:(listed.setIfInBounds i true).getD j false=addD (fun j=>listed.getD j false) i j:=congrFun hadd j
       rw [e2]
       by_cases hji:j=i
       ·subst hji;exact addD_self ..
       ·exact addD_of (hd j (by omega))
      have hnil:Region.linearise.go .any ops fuel (t / (Region.ready .any ops listed).length) (listed.setIfInBounds i true) []=[]:=by
       cases fuel with
       | zero=>rfl
       | succ fuel=>
         have hr:Region.ready .any ops (listed.setIfInBounds i true)=[]:=by
          cases hc:Region.ready .any ops (listed.setIfInBounds i true) with
          | nil=>rfl
          | cons x l=>
            exfalso
            obtain ⟨g0,o',go',_⟩:=mem_ready.1 (show x∈Region.ready .any ops (listed.setIfInBounds i true) by rw [hc];exact List.mem_cons_self ..)
            have hx:x < ops.size:=(Array.getElem?_eq_some_iff.1 go').1
            have:=hdone x hx
            have hx2:x < (listed.setIfInBounds i true).size:=by simp;omega
            simp only [Array.getD_eq_getD_getElem?,Array.getElem?_eq_getElem hx2,Option.getD_some] at g0 this
            rw [g0] at this;cases this
         show (match (Region.ready .any ops (listed.setIfInBounds i true))[_ % (Region.ready .any ops (listed.setIfInBounds i true)).length]? with
          | some i=>_
          | none=>[])=[]
         rw [hr];rfl
      rw [hnil]
      exact ⟨ρ,tmps,w,k.congr fun j r hm=>hd j (by have:=hg.idx j r hm;omega),.refl _ _⟩
     ·obtain ⟨r,hr⟩:=hg.mem (show i < rvF.length by omega)
      have hpr:=hrd i r hr h0 (by rw [ho];exact hallr)
      obtain ⟨ρ1,tmps1,w1,k1,st1⟩:=k.step hcc hE hn hb hg hr hcl h0 hpr (fun f hf=>by rw [hpl i r hr h0] at hf;cases hf) (rest:=Region.linearise.go .any ops fuel (t / (Region.ready .any ops listed).length) (listed.setIfInBounds i true) []) (kk:=kk) (df:=df) (ro:=ro) (kd:=kd) (fn:=fn) (cs:=cs)
      have hadd:=listed_add (listed:=listed) (i:=i) (by omega)
      obtain ⟨ρ2,tmps2,w2,k2,st2⟩:=KK.upto hcc hE hn hb hg hlen hsz hop hprs hall (kk:=kk) (df:=df) (ro:=ro) (kd:=kd) (fn:=fn) (cs:=cs) fuel (t / (Region.ready .any ops listed).length) (listed.setIfInBounds i true) ρ1 tmps1 w1 (by simpa using hls)
       (by have e2:(listed.setIfInBounds i true).getD p false=addD (fun j=>listed.getD j false) i p:=congrFun hadd p
           rw [e2,addD_ne (fun h=>hip h.symm)];exact hp0)
       (by have:=listed_cnt (listed:=listed) (i:=i) (m:=ops.size) (by omega) hi h0;omega)
       (by rw [hadd];exact hcl.add hg hr hpr) (fun j s hj hjl=>hpl j s hj (by
        have e:(listed.setIfInBounds i true).getD j false=addD (fun j=>listed.getD j false) i j:=congrFun hadd j
        rw [e] at hjl
        cases hcj:listed.getD j false with
        | false=>rfl
        | true=>rw [addD_of hcj] at hjl;cases hjl)) (by rw [hadd];exact k1)
      exact ⟨ρ2,tmps2,w2,k2,st1.trans st2⟩
   | none=>
     exfalso
     have hnil:∀ j,j ∉ Region.ready .any ops listed:=by
      intro j hj
      have hp:=List.length_pos_of_mem hj
      have:=List.getElem?_eq_none_iff.1 hrs
      have:=Nat.mod_lt t hp
      omega
     have hdone:∀ j,j < p→listed.getD j false=true:=by
      intro j
      induction j using Nat.strongRecOn with
      | _ j ih=>
        intro hj
        cases e:listed.getD j false with
        | true=>rfl
        | false=>
          exfalso
          obtain ⟨r,hr⟩:=hg.mem (show j < rvF.length by omega)
          obtain ⟨l,rv,n,e1,e2,e3,e4,_⟩:=hg.split hr
          obtain ⟨o,H',p1,p2,p3,p4,p5,_⟩:=e3.op
          rw [e4] at p1
          refine hnil j (mem_ready.2 ⟨by rw [hlg j (by omega)];exact e,o,p1,fun ed he hbd=>?_⟩)
          have:=e3.prlt _ (p4 ed he hbd)
          exact ih ed.on (by omega) (by omega)
     refine hnil p (mem_ready.2 ⟨by rw [hlg p (by omega)];exact hp0,op,hop,fun ed he hbd=>?_⟩)
     obtain ⟨q,r,h1,h2⟩:=hpo.2.1 ed.on (hpo.1 ed (Array.mem_toList_iff.2 he) hbd)
     have hq:=hg.idx q r (get_mem h1)
     refine hdone ed.on ?_
     rcases h2 with e | h2
     ·omega
     ·obtain ⟨l,rv,n,e1,e2,e3,e4,_⟩:=hg.split (get_mem h1)
      have:=e3.prlt _ h2
      omega
theorem drawU_ok:∀ (l:List Oper) (rv:Rv) (n:Cn),Good cc E nst nt T0 H0 ops rv n→(∀ i r,(i,r)∈rv→r.ex=none)→l=ops.toList.drop rv.length→rv.length≤ops.size→
  match drawU cc E nst nt T0 H0 ops l rv.length rv n with
  | .upto i T' H'=>∃ rvF nF op pr,Good cc E nst nt T0 H0 ops rvF nF∧(∀ i r,(i,r)∈rvF→r.ex=none)∧rvF.length=i∧i+1=ops.size∧ops[i]? = some op∧predsOf rvF op.after.toList=some pr∧(∀ j,j < i→j∈pr)∧T'=tmD (fun _=>true) T0 rvF∧
    H'={ heap:=hpD (fun _=>true) H0.heap rvF,nb:=nF.b,nd:=nF.d,nv:=nF.v,facts:=fcD (fun _=>true) H0.facts rvF,phis:=phD (fun _=>true) H0.phis rvF,bd:=H0.bd }
  | _=>True
 | [],rv,n,hg,hpl,hl,hsz=>trivial
 | [o],rv,n,hg,hpl,hl,hsz=>by
   obtain ⟨ho,hl2⟩:=drop_next hl
   have hs:rv.length+1=ops.size:=by
    have h1:=(Array.getElem?_eq_some_iff.1 ho).1
    have:=congrArg List.length hl2
    simp at this;omega
   show (match (match predsOf rv o.after.toList with
     | some pr=>bif allB rv.length (fun j=>lmem pr j) then .upto rv.length (leafD T0 H0 rv n).1 (leafD T0 H0 rv n).2 else .bad 411
     | none=>.bad 412:Dr) with
    | .upto i T' H'=>_
    | _=>True)
   cases hp:predsOf rv o.after.toList with
   | none=>trivial
   | some pr=>
     dsimp only
     cases ha:allB rv.length (fun j=>lmem pr j) with
     | false=>trivial
     | true=>exact ⟨rv,n,o,pr,hg,hpl,rfl,hs,ho,hp,fun j hj=>lmem_iff.1 (allB_ok ha j hj),rfl,rfl⟩
 | o::o2::l,rv,n,hg,hpl,hl,hsz=>by
   obtain ⟨ho,hl2⟩:=drop_next hl
   have hlt:rv.length < ops.size:=(Array.getElem?_eq_some_iff.1 ho).1
   show (match (match opD cc E nst nt T0 H0 ops rv n o with
     | .ok r=>drawU cc E nst nt T0 H0 ops (o2::l) (Nat.succ rv.length) ((rv.length,r)::rv) r.n1
     | .ask p=>.ask p
     | .bad w=>.bad w:Dr) with
    | .upto i T' H'=>_
    | _=>True)
   cases hop:opD cc E nst nt T0 H0 ops rv n o with
   | ok r=>
     obtain ⟨hr,hrx⟩:=opD_ok hg ho hop
     exact drawU_ok (o2::l) ((rv.length,r)::rv) r.n1 (.cons hg hr) (fun i r' hm=>by
      rcases List.mem_cons.1 hm with e | hm
      ·cases e;exact hrx
      ·exact hpl i r' hm) (by simpa using hl2) hlt
   | ask p=>trivial
   | bad w=>trivial
theorem drawS_ok (hcc:cc.Ok C) (hE:EntsOk cc C E) (hn:NstOk cc C nst):DrOk cc C (drawS cc E nst):=by
 intro hc w0 cs ρ H w nt T tmps df ro fn kd k ops id hh ht
 have hd:=drawL_ok (cc:=cc) (E:=E) (nst:=nst) (nt:=nt) (T0:=T) (H0:=H) (ops:=ops) ops.toList [] (cnOf H) .nil (by simp) (by simp) (by simp)
 have hd':match drawL cc E nst nt T H ops ops.toList 0 [] (cnOf H) with
  | .ok T' H'=>∃ rvF nF,Good cc E nst nt T H ops rvF nF∧(∀ i r,(i,r)∈rvF→r.ex=none)∧rvF.length=ops.size∧T'=tmD (fun _=>true) T rvF∧
    H'={ heap:=hpD (fun _=>true) H.heap rvF,nb:=nF.b,nd:=nF.d,nv:=nF.v,facts:=fcD (fun _=>true) H.facts rvF,phis:=phD (fun _=>true) H.phis rvF,bd:=H.bd }
  | .ask p=>p.stat=true
  | .par _ _=>False
  | .upto _ _ _=>False
  | .bad _=>True:=hd
 have hh1:HpRel C hc w0 ρ H w.drew:=hh.drew
 have hfalse:(fun j=>(Array.replicate ops.size false).getD j false)=fun _=>false:=by
  funext j
  by_cases hj:j < ops.size<;>simp [hj]
 have hcnt:((List.range ops.size).filter fun j=>!(Array.replicate ops.size false).getD j false).length≤ops.size:=by
  have:=List.length_filter_le (fun j=>!(Array.replicate ops.size false).getD j false) (List.range ops.size)
  simpa using this
 have s1:=stepR_region_draw (P:=cc.P) (b:=bF fn ro kd) (a:={ tmps:=tmps,defers:=df }) (k:=k) (cs:=cs) (w:=w) (ops:=ops) (id:=id)
 have s2:Region.schedule (cc.P.follows .mixedOrders) ops (w.tape w.drawn (.order (bF fn ro kd).fn id))=Region.linearise.go .any ops ops.size (w.tape w.drawn (.order fn id)) (Array.replicate ops.size false) []:=by
  rw [hcc.mixed]
  unfold Region.schedule
  rw [Bool.true_or,if_pos rfl]
  rfl
 rw [s2] at s1
 unfold drawS
 cases hdr:drawL cc E nst nt T H ops ops.toList 0 [] (cnOf H) with
 | ok T' H'=>
   rw [hdr] at hd'
   obtain ⟨rvF,nF,hg,hpl,hsz,rfl,rfl⟩:=hd'
   have k0:=KK.start hh1 ht hg
   obtain ⟨ρ',tmps',w',k1,st⟩:=KK.all hcc hE hn hh.hb hg hsz (kk:=k) (df:=df) (ro:=ro) (fn:=fn) (cs:=cs) ops.size (w.tape w.drawn (.order fn id)) (Array.replicate ops.size false) ρ tmps w.drew (by simp) hcnt
    (by rw [hfalse];intro _ _ _ h;cases h) (fun i r hm _=>hpl i r hm) (by rw [hfalse];exact k0)
   obtain ⟨h1,h2,h3⟩:=k1.finish hh.hb hg
   exact ⟨ρ',tmps',w',(Tn.of_below ((Below.refl _ w).drew)).trans h1,(Steps.one s1).trans (st.trans (.one stepR_region_end)),h2,h3⟩
 | par x l=>rw [hdr] at hd';exact hd'.elim
 | upto i T H=>rw [hdr] at hd';exact hd'.elim
 | ask p=>
   rw [hdr] at hd'
   exact SB.stat_den hd'
 | bad n=>
   dsimp only
   cases Nat.beq n 312 with
   | false=>
     rw [cond_false]
     have hu:=drawU_ok (cc:=cc) (E:=E) (nst:=nst) (nt:=nt) (T0:=T) (H0:=H) (ops:=ops) ops.toList [] (cnOf H) .nil (by simp) (by simp) (by simp)
     have hu0:drawU cc E nst nt T H ops ops.toList ([]:Rv).length [] (cnOf H)=drawU cc E nst nt T H ops ops.toList 0 [] (cnOf H):=rfl
     rw [hu0] at hu
     cases hdu:drawU cc E nst nt T H ops ops.toList 0 [] (cnOf H) with
     | upto i T' H'=>
       rw [hdu] at hu
       dsimp only
       obtain ⟨rvF,nF,op,pr,hg,hpl,hlen,hsz,hop,hprs,hall,rfl,rfl⟩:=hu
       have k0:=KK.start hh1 ht hg
       obtain ⟨ρ',tmps',w',k1,st⟩:=KK.upto hcc hE hn hh.hb hg hlen hsz hop hprs hall (kk:=k) (df:=df) (ro:=ro) (kd:=kd) (fn:=fn) (cs:=cs) ops.size (w.tape w.drawn (.order fn id)) (Array.replicate ops.size false) ρ tmps w.drew (by simp) (by simp [show i < ops.size by omega]) hcnt
        (by rw [hfalse];intro _ _ _ h;cases h) (fun i r hm _=>hpl i r hm) (by rw [hfalse];exact k0)
       obtain ⟨h1,h2,h3⟩:=k1.finish hh.hb hg
       exact ⟨ρ',tmps',w',(Tn.of_below ((Below.refl _ w).drew)).trans h1,(Steps.one s1).trans st,h2,h3⟩
     | _=>trivial
   | true=>
     rw [cond_true]
     cases hdf:drawF cc E nst nt T H ops ops.toList 0 [] (cnOf H) with
     | no w=>trivial
     | ok x l=>
       have k0:=KK.start hh1 ht (.nil:Good cc E nst nt T H ops [] (cnOf H))
       obtain ⟨y,hy,ρ',tmps',w',h1,h2,h3,st⟩:=KK.allF hcc hE hn hh.hb (kk:=k) (df:=df) (ro:=ro) (fn:=fn) (cs:=cs) ops.toList [] (cnOf H) x l .nil (by simp) (by simp) hdf ops.size (w.tape w.drawn (.order fn id)) (Array.replicate ops.size false) ρ tmps w.drew (by simp) hcnt
        (by rw [hfalse];intro _ _ _ h;cases h) (fun j hj=>by have hj2:(fun j=>(Array.replicate ops.size false).getD j false) j=true:=hj;rw [hfalse] at hj2;cases hj2) (fun i r hm _=>by cases hm) (by rw [hfalse];exact k0)
       exact ⟨y,hy,ρ',tmps',w',(Tn.of_below ((Below.refl _ w).drew)).trans h1,(Steps.one s1).trans (st.trans (.one stepR_region_end)),h2,h3⟩
end
end Go.Sx
namespace Go.Sx
set_option linter.unusedVariables false
set_option linter.unusedSimpArgs false
open Go.RowKit
noncomputable def nsS (cc:Cc) (E:Ents) (draw:Nat→List (Nat×SV)→Hp→Array Oper→Dr) (ih:Fr→List Fr→Hp→Nr) (f:Fr) (fs:List Fr) (H:Hp):Nr:=
 match stp cc E draw f fs H with
 | .go f' fs' H'=>ih f' fs' H'
 | .par _ _=>.bad 322
 | .done z H'=>.done z H'
 | .ask p=>.ask p
 | .bad n=>.bad n
noncomputable def nsL (cc:Cc) (E:Ents) (draw:Nat→List (Nat×SV)→Hp→Array Oper→Dr) (n:Nat):Fr→List Fr→Hp→Nr:=
 Nat.rec (motive:=fun _=>Fr→List Fr→Hp→Nr) (fun _ _ _=>.bad 321) (fun _ ih=>nsS cc E draw ih) n
noncomputable def nstS (cc:Cc) (E:Ents) (draw:Nat→List (Nat×SV)→Hp→Array Oper→Dr) (n:Nat) (f:Fr) (H:Hp):Nr:=nsL cc E draw n f [] H
noncomputable def dw (cc:Cc) (E:Ents) (n k:Nat):Nat→List (Nat×SV)→Hp→Array Oper→Dr:=
 Nat.rec (motive:=fun _=>Nat→List (Nat×SV)→Hp→Array Oper→Dr) (fun _ _ _ _=>.bad 320) (fun _ ih=>drawS cc E (nstS cc E ih n)) k
section
variable {cc:Cc} {C:Ct} {E:Ents} {draw:Nat→List (Nat×SV)→Hp→Array Oper→Dr}
theorem nsL_ok (hcc:cc.Ok C) (hE:EntsOk cc C E) (hd:DrOk cc C draw):∀ (n:Nat) (hc:Nat→Option Obj) (w0:World) (cs:List Frame) (ρ:Dyn) (f:Fr) (fs:List Fr) (H:Hp) (m:Machine) (z:SV) (H':Hp),Sat C hc w0 cs ρ f fs H m→nsL cc E draw n f fs H=.done z H'→
  ∃ ρ' u w',Tn ρ H m.world ρ' H' w'∧Ends cc.P m cs (botOf f fs).1 (botOf f fs).2 u w'∧z.Is C.σ ρ' u∧HpRel C hc w0 ρ' H' w':=by
 intro n
 induction n with
 | zero=>intro hc w0 cs ρ f fs H m z H' _ h;cases h
 | succ n ih=>
   intro hc w0 cs ρ f fs H m z H' hm h
   have hs:=stp_ok hcc hE hd hm
   have h':nsS cc E draw (nsL cc E draw n) f fs H=.done z H':=h
   unfold nsS at h'
   split at h'
   ·rename_i f' fs' H1 he
    rw [he] at hs
    obtain ⟨ρ1,m1,h1,h2,h3,h4⟩:=hs
    obtain ⟨ρ',u,w',k1,k2,k3,k4⟩:=ih hc w0 cs ρ1 f' fs' H1 m1 z H' h3 h'
    rw [h4] at k2
    exact ⟨ρ',u,w',h1.trans k1,k2.of_steps h2,k3,k4⟩
   ·cases h'
   ·rename_i z1 H1 he
    rw [he] at hs
    cases h'
    exact hs
   ·cases h'
   ·cases h'
theorem nsL_ask (hcc:cc.Ok C) (hE:EntsOk cc C E) (hd:DrOk cc C draw):∀ (n:Nat) (hc:Nat→Option Obj) (w0:World) (cs:List Frame) (ρ:Dyn) (f:Fr) (fs:List Fr) (H:Hp) (m:Machine) (p:SB) (k:Nat),Sat C hc w0 cs ρ f fs H m→nsL cc E draw n f fs H=.ask p→k≤H.nd→p.dlo k=true→
  ∃ b,p.den C.σ ρ=some b:=by
 intro n
 induction n with
 | zero=>intro hc w0 cs ρ f fs H m p k _ h;cases h
 | succ n ih=>
   intro hc w0 cs ρ f fs H m p k hm h hk hp
   have hs:=stp_ok hcc hE hd hm
   have h':nsS cc E draw (nsL cc E draw n) f fs H=.ask p:=h
   unfold nsS at h'
   split at h'
   ·rename_i f' fs' H1 he
    rw [he] at hs
    obtain ⟨ρ1,m1,h1,h2,h3,h4⟩:=hs
    obtain ⟨b,hb⟩:=ih hc w0 cs ρ1 f' fs' H1 m1 p k h3 h' (Nat.le_trans hk h1.ext.nd) hp
    exact ⟨b,by rw [← hb];exact (SB.dlo_den (fun i hi=>h1.ag.di i (Nat.lt_of_lt_of_le hi hk)) hp).symm⟩
   ·cases h'
   ·cases h'
   ·rename_i q he
    rw [he] at hs
    cases h'
    exact hs
   ·cases h'
theorem nstS_ok (hcc:cc.Ok C) (hE:EntsOk cc C E) (hd:DrOk cc C draw) (n:Nat):NstOk cc C (nstS cc E draw n):=
 ⟨fun hc w0 cs ρ f H m z H' hm h=>nsL_ok hcc hE hd n hc w0 cs ρ f [] H m z H' hm h,fun hc w0 cs ρ f H m p hm h hp=>nsL_ask hcc hE hd n hc w0 cs ρ f [] H m p H.nd hm h (Nat.le_refl _) hp⟩
theorem dw_ok (hcc:cc.Ok C) (hE:EntsOk cc C E) (n:Nat):∀ k,DrOk cc C (dw cc E n k)
 | 0=>fun _ _ _ _ _ _ _ _ _ _ _ _ _ _ _ _ _ _=>trivial
 | k+1=>drawS_ok hcc hE (nstS_ok hcc hE (dw_ok hcc hE n k) n)
end
end Go.Sx
namespace Go.Sx
noncomputable section
set_option linter.unusedVariables false
set_option linter.unusedSimpArgs false
open Go.RowKit
structure Sb where
 i:List (Nat×SI)
 b:List (Nat×SB)
structure In where
 s:Sb
 bm:List (Nat×Nat)
 dm:List (Nat×SI)
 km:List (Nat×SR)
def toN:Int→Option Nat
 | .ofNat n=>some n
 | .negSucc _=>none
def In.iv (I:In) (σ:Sta) (ρ:Dyn):Nat→Int:=fun j=>match get I.s.i j with | some e=>(e.den σ ρ).getD 0 | none=>σ.iv j
def In.bv (I:In) (σ:Sta) (ρ:Dyn):Nat→Bool:=fun j=>match get I.s.b j with | some e=>(e.den σ ρ).getD false | none=>σ.bv j
def In.kv (I:In) (σ:Sta) (ρ:Dyn):Nat→Nat:=fun j=>match get I.km j with | some r=>(r.den σ ρ).getD 0 | none=>σ.kv j
def In.sta (I:In) (σ:Sta) (ρ:Dyn):Sta:={ iv:=I.iv σ ρ,bv:=I.bv σ ρ,sv:=σ.sv,vv:=σ.vv,kv:=I.kv σ ρ,lv:=σ.lv,op:=σ.op,fi:=σ.fi,fb:=σ.fb }
def In.dyn (I:In) (σ:Sta) (ρ:Dyn):Dyn:={ bl:=fun i=>(get I.bm i).bind ρ.bl,di:=fun i=>(get I.dm i).bind fun e=>(e.den σ ρ).bind toN,dv:=fun _=>none,fz:=ρ.fz }
structure In.Def (I:In) (σ:Sta) (ρ:Dyn):Prop where
 i:∀ j e,get I.s.i j=some e→∃ x,e.den σ ρ=some x
 b:∀ j e,get I.s.b j=some e→∃ x,e.den σ ρ=some x
 d:∀ j e,get I.dm j=some e→∃ n:Nat,e.den σ ρ=some (Int.ofNat n)
 k:∀ j r,get I.km j=some r→∃ x,r.den σ ρ=some x
def SI.mk (f:IB) (a b:SI):SI:=match f with | .add=>SI.add a b | .sub=>SI.sub a b | .mul=>SI.mul a b | f=>.op f a b
theorem SI.mk_den {σ:Sta} {ρ:Dyn} {f:IB} {x y:SI} {a b:Int} (h1:x.den σ ρ=some a) (h2:y.den σ ρ=some b):(SI.mk f x y).den σ ρ=some (f.eval a b):=by
 cases f
 case add=>exact SI.add_den h1 h2
 case sub=>exact SI.sub_den h1 h2
 case mul=>exact SI.mul_den h1 h2
 all_goals simp [SI.mk,SI.den,h1,h2]
def SI.ins (I:In) (x:SI):Option SI:=
 SI.rec (motive:=fun _=>Option SI) (fun n=>some (.c n)) (fun i=>match get I.s.i i with | some e=>some e | none=>some (.v i)) (fun i=>get I.dm i)
  (fun f _ _ a b=>match a,b with | some a,some b=>some (SI.mk f a b) | _,_=>none)
  (fun k _ a=>match a with | some a=>some (.wk k a) | none=>none)
  (fun f _ _ _ _ _ _ a b c d e g=>match a,b,c,d,e,g with | some a,some b,some c,some d,some e,some g=>some (.ap f a b c d e g) | _,_,_,_,_,_=>none) x
section
variable {I:In} {σ:Sta} {ρ:Dyn}
theorem SI.ins_ok (hI:I.Def σ ρ):∀ {x y:SI},x.ins I=some y→∃ a,y.den σ ρ=some a∧x.den (I.sta σ ρ) (I.dyn σ ρ)=some a:=by
 intro x
 induction x with
 | c n=>intro y e;cases e;exact ⟨n,rfl,rfl⟩
 | v i=>
   intro y e
   have e':(match get I.s.i i with | some e=>some e | none=>some (SI.v i))=some y:=e
   cases hg:get I.s.i i with
   | some z=>
     rw [hg] at e';cases e'
     obtain ⟨a,ha⟩:=hI.i i _ hg
     refine ⟨a,ha,?_⟩
     show some (I.iv σ ρ i)=some a
     unfold In.iv
     simp [hg,ha]
   | none=>
     rw [hg] at e';cases e'
     refine ⟨σ.iv i,rfl,?_⟩
     show some (I.iv σ ρ i)=_
     unfold In.iv
     rw [hg]
 | d i=>
   intro y e
   have e':get I.dm i=some y:=e
   obtain ⟨n,hn⟩:=hI.d i y e'
   refine ⟨_,hn,?_⟩
   show ((get I.dm i).bind fun e=>(e.den σ ρ).bind toN).map Int.ofNat=_
   rw [e'];simp [hn,toN]
 | op f p q hp hq=>
   intro y e
   have e':(match p.ins I,q.ins I with | some a,some b=>some (SI.mk f a b) | _,_=>none)=some y:=e
   cases h1:p.ins I with
   | none=>rw [h1] at e';cases e'
   | some p'=>
     cases h2:q.ins I with
     | none=>rw [h1,h2] at e';cases e'
     | some q'=>
       rw [h1,h2] at e';cases e'
       obtain ⟨a,a1,a2⟩:=hp h1
       obtain ⟨b,b1,b2⟩:=hq h2
       exact ⟨f.eval a b,SI.mk_den a1 b1,by simp [SI.den,a2,b2]⟩
 | wk k p hp=>
   intro y e
   have e':(match p.ins I with | some a=>some (SI.wk k a) | none=>none)=some y:=e
   cases h1:p.ins I with
   | none=>rw [h1] at e';cases e'
   | some p'=>
     rw [h1] at e';cases e'
     obtain ⟨a,a1,a2⟩:=hp h1
     exact ⟨k.wrap a,by simp [SI.den,a1],by simp [SI.den,a2]⟩
 | ap f p0 p1 p2 p3 p4 p5 i0 i1 i2 i3 i4 i5=>
   intro y ee
   have e':(match p0.ins I,p1.ins I,p2.ins I,p3.ins I,p4.ins I,p5.ins I with | some r0,some r1,some r2,some r3,some r4,some r5=>some (SI.ap f r0 r1 r2 r3 r4 r5) | _,_,_,_,_,_=>none)=some y:=ee
   cases h0:p0.ins I with
   | none=>rw [h0] at e';cases e'
   | some q0=>
   cases h1:p1.ins I with
   | none=>rw [h0,h1] at e';cases e'
   | some q1=>
   cases h2:p2.ins I with
   | none=>rw [h0,h1,h2] at e';cases e'
   | some q2=>
   cases h3:p3.ins I with
   | none=>rw [h0,h1,h2,h3] at e';cases e'
   | some q3=>
   cases h4:p4.ins I with
   | none=>rw [h0,h1,h2,h3,h4] at e';cases e'
   | some q4=>
   cases h5:p5.ins I with
   | none=>rw [h0,h1,h2,h3,h4,h5] at e';cases e'
   | some q5=>
     rw [h0,h1,h2,h3,h4,h5] at e';cases e'
     obtain ⟨x0,a0,b0⟩:=i0 h0
     obtain ⟨x1,a1,b1⟩:=i1 h1
     obtain ⟨x2,a2,b2⟩:=i2 h2
     obtain ⟨x3,a3,b3⟩:=i3 h3
     obtain ⟨x4,a4,b4⟩:=i4 h4
     obtain ⟨x5,a5,b5⟩:=i5 h5
     exact ⟨_,by simp only [SI.den,a0,a1,a2,a3,a4,a5,Option.bind_some];rfl,by simp only [SI.den,b0,b1,b2,b3,b4,b5,Option.bind_some];rfl⟩
theorem SI.ins_den (hI:I.Def σ ρ) {x y:SI} (h:x.ins I=some y):y.den σ ρ=x.den (I.sta σ ρ) (I.dyn σ ρ):=by
 obtain ⟨a,h1,h2⟩:=SI.ins_ok hI h
 rw [h1,h2]
def SB.ins (I:In) (x:SB):Option SB:=
 SB.rec (motive:=fun _=>Option SB) (fun b=>some (.c b)) (fun i=>match get I.s.b i with | some e=>some e | none=>some (.v i))
  (fun x y=>match x.ins I,y.ins I with | some a,some b=>some (.lt a b) | _,_=>none)
  (fun x y=>match x.ins I,y.ins I with | some a,some b=>some (.le a b) | _,_=>none)
  (fun x y=>match x.ins I,y.ins I with | some a,some b=>some (.eq a b) | _,_=>none)
  (fun x y=>some (.seq x y))
  (fun f a b c d e g=>match (SI.ap f a b c d e g).ins I with | some (.ap f a b c d e g)=>some (.ap f a b c d e g) | _=>none)
  (fun _ a=>match a with | some a=>some (.not a) | none=>none)
  (fun _ _ a b=>match a,b with | some a,some b=>some (.and a b) | _,_=>none)
  (fun _ _ a b=>match a,b with | some a,some b=>some (.or a b) | _,_=>none) x
theorem SB.ins_ok (hI:I.Def σ ρ):∀ {p y:SB},p.ins I=some y→∃ x,y.den σ ρ=some x∧p.den (I.sta σ ρ) (I.dyn σ ρ)=some x:=by
 have two:∀ {p q:SI} {y:SB} {f:SI→SI→SB} {g:Int→Int→Bool},(∀ (σ:Sta) (ρ:Dyn) (a b:SI),(f a b).den σ ρ=(a.den σ ρ).bind fun x=>(b.den σ ρ).bind fun z=>some (g x z))→
   (match p.ins I,q.ins I with | some r0,some r1=>some (f r0 r1) | _,_=>none)=some y→∃ x,y.den σ ρ=some x∧(f p q).den (I.sta σ ρ) (I.dyn σ ρ)=some x:=by
  intro p q y f g hf e'
  cases h1:p.ins I with
  | none=>rw [h1] at e';cases e'
  | some p'=>
    cases h2:q.ins I with
    | none=>rw [h1,h2] at e';cases e'
    | some q'=>
      rw [h1,h2] at e';cases e'
      obtain ⟨a,a1,a2⟩:=SI.ins_ok hI h1
      obtain ⟨b,b1,b2⟩:=SI.ins_ok hI h2
      exact ⟨g a b,by rw [hf,a1,b1];rfl,by rw [hf,a2,b2];rfl⟩
 intro p
 induction p with
 | c n=>intro y e;cases e;exact ⟨n,rfl,rfl⟩
 | v i=>
   intro y e
   have e':(match get I.s.b i with | some e=>some e | none=>some (SB.v i))=some y:=e
   cases hg:get I.s.b i with
   | some z=>
     rw [hg] at e';cases e'
     obtain ⟨a,ha⟩:=hI.b i _ hg
     refine ⟨a,ha,?_⟩
     show some (I.bv σ ρ i)=some a
     unfold In.bv
     simp [hg,ha]
   | none=>
     rw [hg] at e';cases e'
     refine ⟨σ.bv i,rfl,?_⟩
     show some (I.bv σ ρ i)=_
     unfold In.bv
     rw [hg]
 | lt p q=>intro y e;exact two (f:=SB.lt) (g:=fun a b=>decide (a < b)) (fun _ _ _ _=>rfl) e
 | le p q=>intro y e;exact two (f:=SB.le) (g:=fun a b=>decide (a≤b)) (fun _ _ _ _=>rfl) e
 | eq p q=>intro y e;exact two (f:=SB.eq) (g:=fun a b=>decide (a=b)) (fun _ _ _ _=>rfl) e
 | seq p q=>intro y e;cases e;exact ⟨_,rfl,by cases p<;>cases q<;>rfl⟩
 | ap f p0 p1 p2 p3 p4 p5=>
   intro y e
   have e':(match (SI.ap f p0 p1 p2 p3 p4 p5).ins I with | some (.ap f r0 r1 r2 r3 r4 r5)=>some (SB.ap f r0 r1 r2 r3 r4 r5) | _=>none)=some y:=e
   cases hi:(SI.ap f p0 p1 p2 p3 p4 p5).ins I with
   | none=>rw [hi] at e';cases e'
   | some z=>
     have hi':(match p0.ins I,p1.ins I,p2.ins I,p3.ins I,p4.ins I,p5.ins I with | some r0,some r1,some r2,some r3,some r4,some r5=>some (SI.ap f r0 r1 r2 r3 r4 r5) | _,_,_,_,_,_=>none)=some z:=hi
     cases h0:p0.ins I with
     | none=>rw [h0] at hi';cases hi'
     | some q0=>
     cases h1:p1.ins I with
     | none=>rw [h0,h1] at hi';cases hi'
     | some q1=>
     cases h2:p2.ins I with
     | none=>rw [h0,h1,h2] at hi';cases hi'
     | some q2=>
     cases h3:p3.ins I with
     | none=>rw [h0,h1,h2,h3] at hi';cases hi'
     | some q3=>
     cases h4:p4.ins I with
     | none=>rw [h0,h1,h2,h3,h4] at hi';cases hi'
     | some q4=>
     cases h5:p5.ins I with
     | none=>rw [h0,h1,h2,h3,h4,h5] at hi';cases hi'
     | some q5=>
       rw [h0,h1,h2,h3,h4,h5] at hi';cases hi'
       rw [hi] at e';cases e'
       obtain ⟨x0,a0,b0⟩:=SI.ins_ok hI h0
       obtain ⟨x1,a1,b1⟩:=SI.ins_ok hI h1
       obtain ⟨x2,a2,b2⟩:=SI.ins_ok hI h2
       obtain ⟨x3,a3,b3⟩:=SI.ins_ok hI h3
       obtain ⟨x4,a4,b4⟩:=SI.ins_ok hI h4
       obtain ⟨x5,a5,b5⟩:=SI.ins_ok hI h5
       exact ⟨_,by simp only [SB.den,a0,a1,a2,a3,a4,a5,Option.bind_some];rfl,by simp only [SB.den,b0,b1,b2,b3,b4,b5,Option.bind_some];rfl⟩
 | not p hp=>
   intro y e
   have e':(match p.ins I with | some r=>some (SB.not r) | none=>none)=some y:=e
   cases h1:p.ins I with
   | none=>rw [h1] at e';cases e'
   | some p'=>
     rw [h1] at e';cases e'
     obtain ⟨a,a1,a2⟩:=hp h1
     exact ⟨!a,by simp [SB.den,a1],by simp [SB.den,a2]⟩
 | and p q hp hq=>
   intro y e
   have e':(match p.ins I,q.ins I with | some r0,some r1=>some (SB.and r0 r1) | _,_=>none)=some y:=e
   cases h1:p.ins I with
   | none=>rw [h1] at e';cases e'
   | some p'=>
     cases h2:q.ins I with
     | none=>rw [h1,h2] at e';cases e'
     | some q'=>
       rw [h1,h2] at e';cases e'
       obtain ⟨a,a1,a2⟩:=hp h1
       obtain ⟨b,b1,b2⟩:=hq h2
       exact ⟨a && b,by simp [SB.den,a1,b1],by simp [SB.den,a2,b2]⟩
 | or p q hp hq=>
   intro y e
   have e':(match p.ins I,q.ins I with | some r0,some r1=>some (SB.or r0 r1) | _,_=>none)=some y:=e
   cases h1:p.ins I with
   | none=>rw [h1] at e';cases e'
   | some p'=>
     cases h2:q.ins I with
     | none=>rw [h1,h2] at e';cases e'
     | some q'=>
       rw [h1,h2] at e';cases e'
       obtain ⟨a,a1,a2⟩:=hp h1
       obtain ⟨b,b1,b2⟩:=hq h2
       exact ⟨a || b,by simp [SB.den,a1,b1],by simp [SB.den,a2,b2]⟩
theorem SB.ins_den (hI:I.Def σ ρ) {x y:SB} (h:x.ins I=some y):y.den σ ρ=x.den (I.sta σ ρ) (I.dyn σ ρ):=by
 obtain ⟨a,h1,h2⟩:=SB.ins_ok hI h
 rw [h1,h2]
def SR.ins (I:In):SR→Option SR
 | .n i=>match get I.bm i with | some j=>some (.n j) | none=>none
 | .k i=>match get I.km i with | some r=>some r | none=>some (.k i)
 | .g i=>some (.g i)
theorem SR.ins_den (hI:I.Def σ ρ) {x y:SR} (h:x.ins I=some y):y.den σ ρ=x.den (I.sta σ ρ) (I.dyn σ ρ):=by
 cases x with
 | n i=>
   have h':(match get I.bm i with | some j=>some (SR.n j) | none=>none)=some y:=h
   cases hg:get I.bm i with
   | none=>rw [hg] at h';cases h'
   | some j=>
     rw [hg] at h';cases h'
     show ρ.bl j=(get I.bm i).bind ρ.bl
     rw [hg];rfl
 | k i=>
   have h':(match get I.km i with | some r=>some r | none=>some (SR.k i))=some y:=h
   cases hg:get I.km i with
   | none=>
     rw [hg] at h';cases h'
     show some (σ.kv i)=some (I.kv σ ρ i)
     unfold In.kv;rw [hg]
   | some r=>
     rw [hg] at h';cases h'
     obtain ⟨x,hx⟩:=hI.k i _ hg
     show _=some (I.kv σ ρ i)
     unfold In.kv
     simp [hg,hx]
 | g i=>cases h;rfl
theorem SS.ins_den {x:SS}:x.den (I.sta σ ρ)=x.den σ:=by cases x<;>rfl
mutual
def SV.ins (I:In):SV→Option SV
 | .any=>some .any
 | .it k e=>match e.ins I with | some e=>some (.it k e) | none=>none
 | .bo p=>match p.ins I with | some p=>some (.bo p) | none=>none
 | .st e=>some (.st e)
 | .pt r o=>match r.ins I,o.ins I with | some r,some o=>some (.pt r o) | _,_=>none
 | .sl r o l c=>match r.ins I,o.ins I,l.ins I,c.ins I with | some r,some o,some l,some c=>some (.sl r o l c) | _,_,_,_=>none
 | .mp r=>match r.ins I with | some r=>some (.mp r) | none=>none
 | .fn f a c=>match SV.insL I a,SV.insL I c with | some a,some c=>some (.fn f a c) | _,_=>none
 | .yl i=>match get I.bm i with | some j=>some (.yl j) | none=>none
 | .fc t x=>match SV.ins I x with | some x=>some (.fc t x) | none=>none
 | .ag l=>match SV.insL I l with | some l=>some (.ag l) | none=>none
 | .tp l=>match SV.insL I l with | some l=>some (.tp l) | none=>none
 | .va i=>some (.va i)
 | .dv _=>none
 | .sn=>some .sn
 | .pn=>some .pn
 | .mn=>some .mn
 | .fz=>some .fz
 | .fcn=>some .fcn
 | .fs i y=>match y.ins I with | some y=>some (.fs i y) | none=>none
 | .fe=>some .fe
 | .fp i y j f=>match y.ins I,j.ins I with | some y,some j=>some (.fp i y j f) | _,_=>none
 | .sf y=>match y.ins I with | some y=>some (.sf y) | none=>none
def SV.insL (I:In):List SV→Option (List SV)
 | []=>some []
 | a::l=>match SV.ins I a,SV.insL I l with | some a,some l=>some (a::l) | _,_=>none
end
mutual
theorem SV.ins_is (hI:I.Def σ ρ):∀ (x y:SV) (u:Value),SV.ins I x=some y→(y.Is σ ρ u↔x.Is (I.sta σ ρ) (I.dyn σ ρ) u)
 | .any,y,u,h=>by simp only [SV.ins] at h;cases h;simp only [SV.Is]
 | .it k e,y,u,h=>by
   simp only [SV.ins] at h
   split at h
   ·rename_i e' he
    cases h
    simp only [SV.Is,SI.ins_den hI he]
   ·cases h
 | .bo p,y,u,h=>by
   simp only [SV.ins] at h
   split at h
   ·rename_i e' he
    cases h
    simp only [SV.Is,SB.ins_den hI he]
   ·cases h
 | .st e,y,u,h=>by simp only [SV.ins] at h;cases h;simp only [SV.Is,SS.ins_den]
 | .pt r o,y,u,h=>by
   simp only [SV.ins] at h
   split at h
   ·rename_i r' o' hr ho
    cases h
    simp only [SV.Is,SR.ins_den hI hr,SI.ins_den hI ho]
   ·cases h
 | .sl r o l c,y,u,h=>by
   simp only [SV.ins] at h
   split at h
   ·rename_i r' o' l' c' hr ho hl hc
    cases h
    simp only [SV.Is,SR.ins_den hI hr,SI.ins_den hI ho,SI.ins_den hI hl,SI.ins_den hI hc]
   ·cases h
 | .mp r,y,u,h=>by
   simp only [SV.ins] at h
   split at h
   ·rename_i r' hr
    cases h
    simp only [SV.Is,SR.ins_den hI hr]
   ·cases h
 | .fn f a c,y,u,h=>by
   simp only [SV.ins] at h
   split at h
   ·rename_i a' c' ha hc
    cases h
    simp only [SV.Is,SV.insL_is hI a a' _ ha,SV.insL_is hI c c' _ hc]
   ·cases h
 | .yl i,y,u,h=>by
   simp only [SV.ins] at h
   split at h
   ·rename_i j hj
    cases h
    simp only [SV.Is,In.dyn,hj,Option.bind_some]
   ·cases h
 | .fc t x,y,u,h=>by
   simp only [SV.ins] at h
   split at h
   ·rename_i x' hx
    cases h
    simp only [SV.Is,SV.ins_is hI x x' _ hx]
   ·cases h
 | .ag l,y,u,h=>by
   simp only [SV.ins] at h
   split at h
   ·rename_i l' hl
    cases h
    simp only [SV.Is,SV.insL_is hI l l' _ hl]
   ·cases h
 | .tp l,y,u,h=>by
   simp only [SV.ins] at h
   split at h
   ·rename_i l' hl
    cases h
    simp only [SV.Is,SV.insL_is hI l l' _ hl]
   ·cases h
 | .va i,y,u,h=>by simp only [SV.ins] at h;cases h;simp only [SV.Is];rfl
 | .dv i,y,u,h=>by simp only [SV.ins] at h;cases h
 | .sn,y,u,h=>by simp only [SV.ins] at h;cases h;simp only [SV.Is]
 | .pn,y,u,h=>by simp only [SV.ins] at h;cases h;simp only [SV.Is]
 | .mn,y,u,h=>by simp only [SV.ins] at h;cases h;simp only [SV.Is]
 | .fz,y,u,h=>by simp only [SV.ins] at h;cases h;simp only [SV.Is]
 | .fcn,y,u,h=>by simp only [SV.ins] at h;cases h;simp only [SV.Is]
 | .fs i y,z,u,h=>by
   simp only [SV.ins] at h
   split at h
   ·rename_i y' hy
    cases h
    simp only [SV.Is,SI.ins_den hI hy,Fz.fi_iff (σ:=σ) (τ:=I.sta σ ρ) rfl rfl]
    exact Iff.rfl
   ·cases h
 | .fe,z,u,h=>by simp only [SV.ins] at h;cases h;simp only [SV.Is]
 | .fp i y j f,z,u,h=>by
   simp only [SV.ins] at h
   split at h
   ·rename_i y' j' hy hj
    cases h
    simp only [SV.Is,SI.ins_den hI hy,SI.ins_den hI hj,Fz.fi_iff (σ:=σ) (τ:=I.sta σ ρ) rfl rfl]
    exact Iff.rfl
   ·cases h
 | .sf y,z,u,h=>by
   simp only [SV.ins] at h
   split at h
   ·rename_i y' hy
    cases h
    simp only [SV.Is,SI.ins_den hI hy]
    exact Iff.rfl
   ·cases h
theorem SV.insL_is (hI:I.Def σ ρ):∀ (l l':List SV) (us:List Value),SV.insL I l=some l'→(SV.IsL σ ρ l' us↔SV.IsL (I.sta σ ρ) (I.dyn σ ρ) l us)
 | [],l',us,h=>by simp only [SV.insL] at h;cases h;simp only [SV.IsL]
 | a::l,l',us,h=>by
   simp only [SV.insL] at h
   split at h
   ·rename_i a' r' ha hl
    cases h
    simp only [SV.IsL,SV.ins_is hI a a' _ ha,SV.insL_is hI l r' _ hl]
   ·cases h
end
def tmIns (I:In) (T:List (Nat×SV)):Option (List (Nat×SV)):=
 List.rec (motive:=fun _=>Option (List (Nat×SV))) (some []) (fun p _ ih=>match SV.ins I p.2,ih with | some z,some r=>some ((p.1,z)::r) | _,_=>none) T
theorem tmIns_get:∀ {T T':List (Nat×SV)},tmIns I T=some T'→∀ t,match get T t,get T' t with | some z,some z'=>SV.ins I z=some z' | none,none=>True | _,_=>False
 | [],T',h,t=>by cases h;trivial
 | (s,z)::T,T',h,t=>by
   have h':(match SV.ins I z,tmIns I T with | some z,some r=>some ((s,z)::r) | _,_=>none)=some T':=h
   split at h'
   ·rename_i z' r hz hr
    cases h'
    rw [get_cons,get_cons]
    by_cases hs:s=t
    ·simp only [hs,if_true];exact hz
    ·simp only [hs,if_false];exact tmIns_get hr t
   ·cases h'
theorem tmIns_rel (hI:I.Def σ ρ) {nt:Nat} {T T':List (Nat×SV)} {tmps:Array Value} (h:tmIns I T=some T'):TmRel σ ρ nt T' tmps↔TmRel (I.sta σ ρ) (I.dyn σ ρ) nt T tmps:=by
 constructor
 ·rintro ⟨h1,h2⟩
  refine ⟨h1,fun t z e=>?_⟩
  have:=tmIns_get h t
  rw [e] at this
  cases hg:get T' t with
  | none=>rw [hg] at this;exact this.elim
  | some z'=>rw [hg] at this;exact (SV.ins_is hI z z' _ this).1 (h2 t z' hg)
 ·rintro ⟨h1,h2⟩
  refine ⟨h1,fun t z' e=>?_⟩
  have:=tmIns_get h t
  rw [e] at this
  cases hg:get T t with
  | none=>rw [hg] at this;exact this.elim
  | some z=>rw [hg] at this;exact (SV.ins_is hI z z' _ this).2 (h2 t z hg)
def esIns (I:In) (l:List (SV×SV×Nat)):Option (List (SV×SV×Nat)):=
 List.rec (motive:=fun _=>Option (List (SV×SV×Nat))) (some []) (fun p _ ih=>match SV.ins I p.1,SV.ins I p.2.1,ih with | some k,some z,some r=>some ((k,z,p.2.2)::r) | _,_,_=>none) l
theorem esIns_rel (hI:I.Def σ ρ):∀ {l l':List (SV×SV×Nat)} {es:List MapEntry},esIns I l=some l'→(EsRel σ ρ l' es↔EsRel (I.sta σ ρ) (I.dyn σ ρ) l es)
 | [],l',es,h=>by cases h;simp only [EsRel]
 | (k,z,n)::l,l',es,h=>by
   have h':(match SV.ins I k,SV.ins I z,esIns I l with | some k,some z,some r=>some ((k,z,n)::r) | _,_,_=>none)=some l':=h
   split at h'
   ·rename_i k' z' r hk hz hr
    cases h'
    simp only [EsRel,SV.ins_is hI k k' _ hk,SV.ins_is hI z z' _ hz,esIns_rel hI hr]
   ·cases h'
def Bk.ins (I:In) (bk:Bk):Option Bk:=
 match bk with
 | .arr lay c n t cp=>match c.ins I,n.ins I,cp.ins I with | some c,some n,some cp=>some (.arr lay c n t cp) | _,_,_=>none
 | .cells l t=>match SV.insL I l with | some l=>some (.cells l t) | none=>none
 | .row none l t cp sz=>match SV.insL I l,cp.ins I with | some l,some cp=>some (.row none l t cp sz) | _,_=>none
 | .row (some _) _ _ _ _=>none
 | .loop s pd fn nt tm ps asg body df=>match tmIns I tm,get I.bm df with | some tm,some df=>some (.loop s pd fn nt tm ps asg body df) | _,_=>none
 | .dfr=>some .dfr
 | .dfn=>some .dfn
 | .map es clock=>match esIns I es with | some es=>some (.map es clock) | none=>none
 | .mapc kk vk c=>match c.ins I with | some c=>some (.mapc kk vk c) | none=>none
 | .miter id c s none=>match get I.bm id,c.ins I,s.ins I with | some id,some c,some s=>some (.miter id c s none) | _,_,_=>none
 | .miter id c s (some k)=>match get I.bm id,c.ins I,s.ins I,k.ins I with | some id,some c,some s,some k=>some (.miter id c s (some k)) | _,_,_,_=>none
 | .mitn=>some .mitn
 | .ob i=>some (.ob i)
 | .gone=>some .gone
theorem val_sta {κ:Kd} {c:Int} {j f:Nat}:κ.val (I.sta σ ρ) c j f=κ.val σ c j f:=by cases κ<;>rfl
theorem arIs_sta {F:Nat→Option Obj} {lay:List Kd} {c:Int} {n base:Nat} {A:Nat→Option Value}:ArIs (I.sta σ ρ) F lay c n base A↔ArIs σ F lay c n base A:=by
 simp only [ArIs,val_sta,KR.fi_iff (σ:=σ) (τ:=I.sta σ ρ) rfl rfl]
theorem Bk.ins_is (hI:I.Def σ ρ) {bk bk':Bk} {o:Obj} (h:bk.ins I=some bk'):(bk'.Is σ ρ o↔bk.Is (I.sta σ ρ) (I.dyn σ ρ) o)∧bk'.live=bk.live:=by
 unfold Bk.ins at h
 split at h
 ·split at h
  ·rename_i hc hn hcp
   cases h
   refine ⟨?_,rfl⟩
   simp only [Bk.Is,SI.ins_den hI hc,SI.ins_den hI hn,SI.ins_den hI hcp,arIs_sta]
   exact Iff.rfl
  ·cases h
 ·split at h
  ·rename_i l' hl
   cases h
   refine ⟨?_,rfl⟩
   simp only [Bk.Is,SV.insL_is hI _ _ _ hl]
  ·cases h
 ·split at h
  ·rename_i l' cp' hl hcp
   cases h
   refine ⟨?_,rfl⟩
   simp only [Bk.Is,SV.insL_is hI _ _ _ hl,SI.ins_den hI hcp,preL]
  ·cases h
 ·cases h
 ·split at h
  ·rename_i tm' df' ht hd
   cases h
   refine ⟨?_,rfl⟩
   simp only [Bk.Is,tmIns_rel hI ht,In.dyn,hd,Option.bind_some]
  ·cases h
 ·cases h;exact ⟨by simp only [Bk.Is],rfl⟩
 ·cases h;exact ⟨by simp only [Bk.Is],rfl⟩
 ·split at h
  ·rename_i es' he
   cases h
   refine ⟨?_,rfl⟩
   simp only [Bk.Is,esIns_rel hI he]
  ·cases h
 ·split at h
  ·rename_i hc
   cases h
   refine ⟨?_,rfl⟩
   simp only [Bk.Is,SI.ins_den hI hc]
   refine exists_congr fun cv=>exists_congr fun l=>exists_congr fun cl=>and_congr_right fun _=>and_congr_left fun _=>⟨fun ⟨a1,a2,a3,a4,a5,a6,a7⟩=>⟨a1,a2,a3,a4,a5,a6,a7⟩,fun ⟨a1,a2,a3,a4,a5,a6,a7⟩=>⟨a1,a2,a3,a4,a5,a6,a7⟩⟩
  ·cases h
 ·split at h
  ·rename_i hb hc hs
   cases h
   refine ⟨?_,rfl⟩
   simp only [Bk.Is,SI.ins_den hI hc,SI.ins_den hI hs,In.dyn,hb,Option.bind_some,olk]
   exact exists_congr fun b=>exists_congr fun cv=>exists_congr fun sv=>and_congr_right fun _=>and_congr_right fun _=>and_congr_right fun _=>exists_congr fun lv=>and_congr_right fun _=>⟨fun ⟨a⟩=>⟨a⟩,fun ⟨a⟩=>⟨a⟩⟩
  ·cases h
 ·split at h
  ·rename_i hb hc hs hk
   cases h
   refine ⟨?_,rfl⟩
   simp only [Bk.Is,SI.ins_den hI hc,SI.ins_den hI hs,SI.ins_den hI hk,In.dyn,hb,Option.bind_some,olk]
   exact exists_congr fun b=>exists_congr fun cv=>exists_congr fun sv=>and_congr_right fun _=>and_congr_right fun _=>and_congr_right fun _=>exists_congr fun lv=>and_congr_right fun _=>⟨fun ⟨a⟩=>⟨a⟩,fun ⟨a⟩=>⟨a⟩⟩
  ·cases h
 ·cases h;exact ⟨by simp only [Bk.Is],rfl⟩
 ·cases h;exact ⟨by simp only [Bk.Is];exact Iff.rfl,rfl⟩
 ·cases h;exact ⟨by simp only [Bk.Is],rfl⟩
def It.ins (I:In) (x:It):Option It:=
 match x with
 | .inRangeFunc l=>match get I.bm l with | some j=>some (.inRangeFunc j) | none=>none
 | .endRangeFunc l=>match get I.bm l with | some j=>some (.endRangeFunc j) | none=>none
 | .dc g a c=>match SV.insL I a,SV.insL I c with | some a',some c'=>some (.dc g a' c') | _,_=>none
 | .mdP v r=>match SV.ins I v with | some v'=>some (.mdP v' r) | none=>none
 | x=>some x
theorem It.ins_is {x y:It} {k:Item} (h:x.ins I=some y):y.Is ρ k→x.Is (I.dyn σ ρ) k:=by
 cases x
 case inRangeFunc l=>
  have h':(match get I.bm l with | some j=>some (It.inRangeFunc j) | none=>none)=some y:=h
  cases hg:get I.bm l with
  | none=>rw [hg] at h';cases h'
  | some j=>
    rw [hg] at h';cases h'
    rintro ⟨b,h1,h2⟩
    exact ⟨b,by show (get I.bm l).bind ρ.bl=some b;rw [hg];exact h1,h2⟩
 case endRangeFunc l=>
  have h':(match get I.bm l with | some j=>some (It.endRangeFunc j) | none=>none)=some y:=h
  cases hg:get I.bm l with
  | none=>rw [hg] at h';cases h'
  | some j=>
    rw [hg] at h';cases h'
    rintro ⟨b,h1,h2⟩
    exact ⟨b,by show (get I.bm l).bind ρ.bl=some b;rw [hg];exact h1,h2⟩
 case dc g a c=>
  have h':(match SV.insL I a,SV.insL I c with | some a',some c'=>some (It.dc g a' c') | _,_=>none)=some y:=h
  split at h'<;>cases h';exact id
 case mdP v r=>
  have h':(match SV.ins I v with | some v'=>some (It.mdP v' r) | none=>none)=some y:=h
  split at h'<;>cases h';exact id
 all_goals (cases h;exact id)
def tdIns (I:In) (l:List It):Option (List It):=
 List.rec (motive:=fun _=>Option (List It)) (some []) (fun x _ ih=>match x.ins I,ih with | some y,some r=>some (y::r) | _,_=>none) l
theorem It.ins_vt {x y:It} (h:x.ins I=some y):y.vt=x.vt:=by
 cases x
 case inRangeFunc l=>(have h':(match get I.bm l with | some j=>some (It.inRangeFunc j) | none=>none)=some y:=h);split at h'<;>cases h';rfl
 case endRangeFunc l=>(have h':(match get I.bm l with | some j=>some (It.endRangeFunc j) | none=>none)=some y:=h);split at h'<;>cases h';rfl
 case dc g a c=>
  have h':(match SV.insL I a,SV.insL I c with | some a',some c'=>some (It.dc g a' c') | _,_=>none)=some y:=h
  split at h'<;>cases h';rfl
 case mdP v r=>
  have h':(match SV.ins I v with | some v'=>some (It.mdP v' r) | none=>none)=some y:=h
  split at h'<;>cases h';rfl
 all_goals (cases h;rfl)
theorem tdIns_rel:∀ {l l':List It} {k:List Item},tdIns I l=some l'→TdRel ρ l' k→TdRel (I.dyn σ ρ) l k
 | [],l',k,h,hk=>by cases h;exact hk
 | x::l,l',k,h,hk=>by
   have h':(match x.ins I,tdIns I l with | some y,some r=>some (y::r) | _,_=>none)=some l':=h
   split at h'
   ·rename_i y r hy hr
    cases h'
    have hv:=It.ins_vt hy
    cases hx:x.vt with
    | false=>
      rw [hx] at hv
      obtain ⟨a,b,rfl,h1,h2⟩:=(TdRel.real hv).1 hk
      exact (TdRel.real hx).2 ⟨a,b,rfl,It.ins_is hy h1,tdIns_rel hr h2⟩
    | true=>
      cases x
      case dfd=>cases hy;exact ⟨hk.1,tdIns_rel hr hk.2⟩
      case dc g a c=>
       have hy':(match SV.insL I a,SV.insL I c with | some a',some c'=>some (It.dc g a' c') | _,_=>none)=some y:=hy
       split at hy'<;>cases hy'
       exact ⟨hk.1,tdIns_rel hr hk.2⟩
      case mdR=>cases hy;exact hk
      case mdP v r'=>
       have hy':(match SV.ins I v with | some v'=>some (It.mdP v' r') | none=>none)=some y:=hy
       split at hy'<;>cases hy'
       exact hk
      all_goals cases hx
   ·cases h'
theorem tdIns_kd:∀ {l l':List It},tdIns I l=some l'→kdOf l'=kdOf l
 | [],l',h=>by cases h;rfl
 | x::l,l',h=>by
   have h':(match x.ins I,tdIns I l with | some y,some r=>some (y::r) | _,_=>none)=some l':=h
   split at h'
   ·rename_i y r hy hr
    cases h'
    have ih:=tdIns_kd hr
    cases x
    case inRangeFunc l=>(have hy':(match get I.bm l with | some j=>some (It.inRangeFunc j) | none=>none)=some y:=hy);split at hy'<;>cases hy';exact ih
    case endRangeFunc l=>(have hy':(match get I.bm l with | some j=>some (It.endRangeFunc j) | none=>none)=some y:=hy);split at hy'<;>cases hy';exact ih
    case dc g a c=>
     have hy':(match SV.insL I a,SV.insL I c with | some a',some c'=>some (It.dc g a' c') | _,_=>none)=some y:=hy
     split at hy'<;>cases hy';exact ih
    case mdP v r'=>
     have hy':(match SV.ins I v with | some v'=>some (It.mdP v' r') | none=>none)=some y:=hy
     split at hy'<;>cases hy';exact ih
    case dfd=>cases hy;rfl
    all_goals (cases hy;exact ih)
   ·cases h'
theorem tdIns_dc (hI:I.Def σ ρ):∀ {l l':List It} {k:List Deferred},tdIns I l=some l'→DcRel σ ρ l' k→DcRel (I.sta σ ρ) (I.dyn σ ρ) l k
 | [],l',k,h,hk=>by cases h;exact hk
 | x::l,l',k,h,hk=>by
   have h':(match x.ins I,tdIns I l with | some y,some r=>some (y::r) | _,_=>none)=some l':=h
   split at h'
   ·rename_i y r hy hr
    cases h'
    cases x
    case inRangeFunc l=>(have hy':(match get I.bm l with | some j=>some (It.inRangeFunc j) | none=>none)=some y:=hy);split at hy'<;>cases hy';(have q:=tdIns_dc hI (k:=k) hr hk;exact q)
    case endRangeFunc l=>(have hy':(match get I.bm l with | some j=>some (It.endRangeFunc j) | none=>none)=some y:=hy);split at hy'<;>cases hy';(have q:=tdIns_dc hI (k:=k) hr hk;exact q)
    case dc g a c=>
     have hy':(match SV.insL I a,SV.insL I c with | some a',some c'=>some (It.dc g a' c') | _,_=>none)=some y:=hy
     split at hy'
     ·rename_i a' c' ha hc
      cases hy'
      obtain ⟨as,cp,r',e1,e2,e3,e4⟩:=hk
      exact ⟨as,cp,r',e1,(SV.insL_is hI _ _ _ ha).1 e2,(SV.insL_is hI _ _ _ hc).1 e3,tdIns_dc hI hr e4⟩
     ·cases hy'
    case mdP v r'=>
     have hy':(match SV.ins I v with | some v'=>some (It.mdP v' r') | none=>none)=some y:=hy
     split at hy'<;>cases hy';(have q:=tdIns_dc hI (k:=k) hr hk;exact q)
    all_goals (cases hy;(have q:=tdIns_dc hI (k:=k) hr hk;exact q))
   ·cases h'
def idsIns (I:In) (l:List Nat):Option (List Nat):=
 List.rec (motive:=fun _=>Option (List Nat)) (some []) (fun x _ ih=>match get I.bm x,ih with | some y,some r=>some (y::r) | _,_=>none) l
theorem idsIns_rel:∀ {l l':List Nat} {k:List Deferred},idsIns I l=some l'→DfRel ρ l' k→DfRel (I.dyn σ ρ) l k
 | [],l',k,h,hk=>by cases h;exact hk
 | x::l,l',k,h,hk=>by
   have h':(match get I.bm x,idsIns I l with | some y,some r=>some (y::r) | _,_=>none)=some l':=h
   split at h'
   ·rename_i y r hy hr
    cases h'
    obtain ⟨a,b,rfl,h1,h2⟩:=hk
    exact ⟨a,b,rfl,by show (get I.bm x).bind ρ.bl=some a;rw [hy];exact h1,idsIns_rel hr h2⟩
   ·cases h'
end
end
end Go.Sx
namespace Go.Sx
noncomputable section
set_option linter.unusedVariables false
set_option linter.unusedSimpArgs false
open Go.RowKit
inductive Ob where
 | ei (x y:SI)
 | eb (p q:SB)
 | fa (p:SB) (b:Bool)
 | rn (x:SI) (a b:Int)
 | ar (lay:List Kd) (c c' n:SI)
def Ob.Ok (σ:Sta) (ρ:Dyn):Ob→Prop
 | .ei x y=>x.den σ ρ=y.den σ ρ
 | .eb p q=>p.den σ ρ=q.den σ ρ
 | .fa p b=>p.den σ ρ=some b
 | .rn x a b=>∃ v,x.den σ ρ=some v∧a≤v∧v≤(if a≤b then b else v)
 | .ar lay c c' n=>(∃ v,c.den σ ρ=some v)∧∀ cv cv' nv,c.den σ ρ=some cv→c'.den σ ρ=some cv'→n.den σ ρ=some (Int.ofNat nv)→∀ j,j < nv→∀ (f:Nat) (κ:Kd),lay[f]? = some κ→κ.val σ cv j f=κ.val σ cv' j f
def Obs (σ:Sta) (ρ:Dyn) (L:List Ob):Prop:=∀ ob∈L,ob.Ok σ ρ
theorem Obs.app {σ:Sta} {ρ:Dyn} {L L':List Ob} (h:Obs σ ρ (lapp L L')):Obs σ ρ L∧Obs σ ρ L':=by
 rw [lapp_eq] at h
 exact ⟨fun o ho=>h o (List.mem_append_left _ ho),fun o ho=>h o (List.mem_append_right _ ho)⟩
def obI (x y:SI):List Ob:=bif x.beq y then [] else [.ei x y]
def obB (p q:SB):List Ob:=bif p.beq q then [] else [.eb p q]
section
variable {σ:Sta} {ρ:Dyn}
theorem obI_ok {x y:SI} (h:Obs σ ρ (obI x y)):x.den σ ρ=y.den σ ρ:=by
 unfold obI at h
 cases hb:x.beq y with
 | true=>rw [SI.beq_eq hb]
 | false=>
   rw [hb] at h
   exact h (.ei x y) (by simp)
theorem obB_ok {x y:SB} (h:Obs σ ρ (obB x y)):x.den σ ρ=y.den σ ρ:=by
 unfold obB at h
 cases hb:x.beq y with
 | true=>exact SB.den_of_beq hb
 | false=>
   rw [hb] at h
   exact h (.eb x y) (by simp)
def oapp (a b:Option (List Ob)):Option (List Ob):=match a,b with | some x,some y=>some (lapp x y) | _,_=>none
theorem oapp_ok {a b:Option (List Ob)} {L:List Ob} (h:oapp a b=some L) (hL:Obs σ ρ L):∃ x y,a=some x∧b=some y∧Obs σ ρ x∧Obs σ ρ y:=by
 unfold oapp at h
 split at h
 ·cases h
  exact ⟨_,_,rfl,rfl,(Obs.app hL).1,(Obs.app hL).2⟩
 ·cases h
mutual
def SV.cmp:SV→SV→Option (List Ob)
 | .any,_=>some []
 | .it k e,.it k' e'=>bif keq k k' then some (obI e e') else none
 | .bo p,.bo q=>some (obB p q)
 | .st a,.st b=>bif a.beq b then some [] else none
 | .pt r o,.pt r' o'=>bif r.beq r' then some (obI o o') else none
 | .sl r o l c,.sl r' o' l' c'=>bif r.beq r' then some (lapp (obI o o') (lapp (obI l l') (obI c c'))) else none
 | .mp r,.mp r'=>bif r.beq r' then some [] else none
 | .fn f a c,.fn f' a' c'=>bif Nat.beq f f' then oapp (SV.cmpL a a') (SV.cmpL c c') else none
 | .yl i,.yl j=>bif Nat.beq i j then some [] else none
 | .fc t x,.fc t' x'=>bif Nat.beq t t' then SV.cmp x x' else none
 | .ag l,.ag l'=>SV.cmpL l l'
 | .tp l,.tp l'=>SV.cmpL l l'
 | .va i,.va j=>bif Nat.beq i j then some [] else none
 | .sn,.sn=>some []
 | .pn,.pn=>some []
 | .mn,.mn=>some []
 | .fz,.fz=>some []
 | .fcn,.fcn=>some []
 | .fs i y,.fs j y'=>bif Nat.beq i j then some (bif y.beq y' then [] else [.fa (.eq y.fl y'.fl) true,.ar (flay i) y y' y'.fl]) else none
 | .fs _ y,.sn=>some [.fa (.eq y.fl (.c 0)) true]
 | .fs _ y,.fe=>some [.fa (.eq y.fl (.c 0)) true]
 | .fs _ y,.sl _ _ l _=>bif isZ l then some [.fa (.eq y.fl (.c 0)) true] else none
 | .fe,.fe=>some []
 | .fp i y j f,.fp i' y' j' f'=>bif Nat.beq i i' then (bif Nat.beq f f' then (bif y.beq y' then some (obI j j') else none) else none) else none
 | .sf y,.sf y'=>some (obI y y')
 | _,_=>none
def SV.cmpL:List SV→List SV→Option (List Ob)
 | [],[]=>some []
 | a::l,b::l'=>oapp (SV.cmp a b) (SV.cmpL l l')
 | _,_=>none
end
theorem SS.eq_of_beq {a b:SS} (h:a.beq b=true):a.den σ=b.den σ:=by
 have h':=SS.den_of_beq (σ:=σ) h
 generalize a.den σ=x at h' ⊢
 generalize b.den σ=y at h' ⊢
 have hx:x.toList=x.data.toList:=ByteArray.toList_eq x
 have hy:y.toList=y.data.toList:=ByteArray.toList_eq y
 rw [hx,hy] at h'
 exact ByteArray.ext (Array.ext' h')
theorem Fz.of_nil {F:Nat→Option Obj} {i:Nat} {y:SI} {a:Option Addr} {cap:Nat} (h:Obs σ ρ [.fa (.eq y.fl (.c 0)) true]) (ha:Sl0 a):∃ yv,y.den σ ρ=some yv∧Fz σ F i yv (.slice a 0 cap):=by
 have h1:=h _ (List.mem_singleton.2 rfl)
 simp only [Ob.Ok,SB.den] at h1
 obtain ⟨x,hx,h2⟩:=Option.bind_eq_some_iff.1 h1
 obtain ⟨v,hv,rfl⟩:=SI.fl_def hx
 simp only [SI.den,Option.bind_some,Option.some.injEq,decide_eq_true_eq] at h2
 exact ⟨v,hv,.nil _ _ _ _ h2 ha⟩
mutual
theorem SV.cmp_ok:∀ (y z:SV) (L:List Ob) (u:Value),SV.cmp y z=some L→Obs σ ρ L→z.Is σ ρ u→y.Is σ ρ u
 | .any,z,L,u,h,hL,hz=>by simp only [SV.Is]
 | .it k e,z,L,u,h,hL,hz=>by
   cases z<;>simp only [SV.cmp] at h<;>try (cases h;done)
   rename_i k' e'
   cases hk:keq k k' with
   | false=>rw [hk] at h;cases h
   | true=>
     rw [hk] at h;cases h
     have:=keq_eq hk;subst this
     simp only [SV.Is] at hz ⊢
     rw [obI_ok hL];exact hz
 | .bo p,z,L,u,h,hL,hz=>by
   cases z<;>simp only [SV.cmp] at h<;>try (cases h;done)
   cases h
   simp only [SV.Is] at hz ⊢
   rw [obB_ok hL];exact hz
 | .st e,z,L,u,h,hL,hz=>by
   cases z<;>simp only [SV.cmp] at h<;>try (cases h;done)
   rename_i e'
   cases hk:e.beq e' with
   | false=>rw [hk] at h;cases h
   | true=>
     simp only [SV.Is] at hz ⊢
     rw [SS.eq_of_beq hk];exact hz
 | .pt r o,z,L,u,h,hL,hz=>by
   cases z<;>simp only [SV.cmp] at h<;>try (cases h;done)
   rename_i r' o'
   cases hk:r.beq r' with
   | false=>rw [hk] at h;cases h
   | true=>
     rw [hk] at h;cases h
     have:=SR.beq_eq hk;subst this
     simp only [SV.Is] at hz ⊢
     rw [obI_ok hL];exact hz
 | .sl r o l c,z,L,u,h,hL,hz=>by
   cases z<;>simp only [SV.cmp] at h<;>try (cases h;done)
   rename_i r' o' l' c'
   cases hk:r.beq r' with
   | false=>rw [hk] at h;cases h
   | true=>
     rw [hk] at h;cases h
     have:=SR.beq_eq hk;subst this
     simp only [SV.Is] at hz ⊢
     obtain ⟨h1,h2⟩:=Obs.app hL
     obtain ⟨h2,h3⟩:=Obs.app h2
     rw [obI_ok h1,obI_ok h2,obI_ok h3];exact hz
 | .mp r,z,L,u,h,hL,hz=>by
   cases z<;>simp only [SV.cmp] at h<;>try (cases h;done)
   rename_i r'
   cases hk:r.beq r' with
   | false=>rw [hk] at h;cases h
   | true=>have:=SR.beq_eq hk;subst this;exact hz
 | .fn f a c,z,L,u,h,hL,hz=>by
   cases z<;>simp only [SV.cmp] at h<;>try (cases h;done)
   rename_i f' a' c'
   cases hk:Nat.beq f f' with
   | false=>rw [hk] at h;cases h
   | true=>
     rw [hk] at h
     have:=Nat.eq_of_beq_eq_true hk;subst this
     obtain ⟨x,y,h1,h2,h3,h4⟩:=oapp_ok h hL
     simp only [SV.Is] at hz ⊢
     obtain ⟨as,cs,g1,g2,rfl⟩:=hz
     exact ⟨as,cs,SV.cmpL_ok a a' x as h1 h3 g1,SV.cmpL_ok c c' y cs h2 h4 g2,rfl⟩
 | .yl i,z,L,u,h,hL,hz=>by
   cases z<;>simp only [SV.cmp] at h<;>try (cases h;done)
   rename_i j
   cases hk:Nat.beq i j with
   | false=>rw [hk] at h;cases h
   | true=>have:=Nat.eq_of_beq_eq_true hk;subst this;exact hz
 | .fc t x,z,L,u,h,hL,hz=>by
   cases z<;>simp only [SV.cmp] at h<;>try (cases h;done)
   rename_i t' x'
   cases hk:Nat.beq t t' with
   | false=>rw [hk] at h;cases h
   | true=>
     rw [hk] at h
     have:=Nat.eq_of_beq_eq_true hk;subst this
     simp only [SV.Is] at hz ⊢
     obtain ⟨y,h1,rfl⟩:=hz
     exact ⟨y,SV.cmp_ok x x' L y h hL h1,rfl⟩
 | .ag l,z,L,u,h,hL,hz=>by
   cases z<;>simp only [SV.cmp] at h<;>try (cases h;done)
   rename_i l'
   simp only [SV.Is] at hz ⊢
   obtain ⟨vs,h1,rfl⟩:=hz
   exact ⟨vs,SV.cmpL_ok l l' L vs h hL h1,rfl⟩
 | .tp l,z,L,u,h,hL,hz=>by
   cases z<;>simp only [SV.cmp] at h<;>try (cases h;done)
   rename_i l'
   simp only [SV.Is] at hz ⊢
   obtain ⟨vs,h1,rfl⟩:=hz
   exact ⟨vs,SV.cmpL_ok l l' L vs h hL h1,rfl⟩
 | .va i,z,L,u,h,hL,hz=>by
   cases z<;>simp only [SV.cmp] at h<;>try (cases h;done)
   rename_i j
   cases hk:Nat.beq i j with
   | false=>rw [hk] at h;cases h
   | true=>have:=Nat.eq_of_beq_eq_true hk;subst this;exact hz
 | .dv i,z,L,u,h,hL,hz=>by cases z<;>simp only [SV.cmp] at h<;>cases h
 | .sn,z,L,u,h,hL,hz=>by cases z<;>simp only [SV.cmp] at h<;>first | (cases h;done) | exact hz
 | .pn,z,L,u,h,hL,hz=>by cases z<;>simp only [SV.cmp] at h<;>first | (cases h;done) | exact hz
 | .mn,z,L,u,h,hL,hz=>by cases z<;>simp only [SV.cmp] at h<;>first | (cases h;done) | exact hz
 | .fz,z,L,u,h,hL,hz=>by cases z<;>simp only [SV.cmp] at h<;>first | (cases h;done) | exact hz
 | .fcn,z,L,u,h,hL,hz=>by cases z<;>simp only [SV.cmp] at h<;>first | (cases h;done) | exact hz
 | .fe,z,L,u,h,hL,hz=>by cases z<;>simp only [SV.cmp] at h<;>first | (cases h;done) | exact hz
 | .sf y,z,L,u,h,hL,hz=>by
   cases z<;>simp only [SV.cmp] at h<;>try (cases h;done)
   cases h
   simp only [SV.Is] at hz ⊢
   rw [obI_ok hL];exact hz
 | .fp i y j f,z,L,u,h,hL,hz=>by
   cases z<;>simp only [SV.cmp] at h<;>try (cases h;done)
   rename_i i' y' j' f'
   cases h1:Nat.beq i i' with
   | false=>rw [h1] at h;cases h
   | true=>
   cases h2:Nat.beq f f' with
   | false=>rw [h1,h2] at h;cases h
   | true=>
   cases h3:y.beq y' with
   | false=>rw [h1,h2,h3] at h;cases h
   | true=>
     rw [h1,h2,h3] at h;cases h
     have:=Nat.eq_of_beq_eq_true h1;subst this
     have:=Nat.eq_of_beq_eq_true h2;subst this
     have:=SI.beq_eq h3;subst this
     simp only [SV.Is] at hz ⊢
     rw [obI_ok hL];exact hz
 | .fs i y,z,L,u,h,hL,hz=>by
   cases z<;>simp only [SV.cmp] at h<;>try (cases h;done)
   ·rename_i r o l c
    cases hl:isZ l with
    | false=>rw [hl] at h;cases h
    | true=>
      rw [hl] at h;cases h
      have:=isZ_eq hl;subst this
      simp only [SV.Is] at hz ⊢
      obtain ⟨b,k,len,cap,e1,e2,e3,e4,rfl⟩:=hz
      simp only [SI.den,Option.some.injEq] at e3
      have:len=0:=by
       have e3:(0:Int)=len:=e3
       omega
      subst this
      exact Fz.of_nil hL (sl0 _)
   ·cases h
    simp only [SV.Is] at hz ⊢
    subst hz
    exact Fz.of_nil hL (.inl rfl)
   ·rename_i i' y'
    cases h1:Nat.beq i i' with
    | false=>rw [h1] at h;cases h
    | true=>
      rw [h1] at h;cases h
      have:=Nat.eq_of_beq_eq_true h1;subst this
      cases h2:y.beq y' with
      | true=>have:=SI.beq_eq h2;subst this;exact hz
      | false=>
        rw [h2] at hL
        simp only [SV.Is] at hz ⊢
        obtain ⟨yv',e1,e2⟩:=hz
        have o1:=hL (.fa (.eq y.fl y'.fl) true) (by simp)
        have o2:=hL (.ar (flay i) y y' y'.fl) (by simp)
        obtain ⟨⟨yv,hy⟩,o2⟩:=o2
        refine ⟨yv,hy,e2.eqv ?_ fun j hj f κ hκ=>?_⟩
        ·simp only [Ob.Ok,SB.den,SI.fl_den hy,SI.fl_den e1,Option.bind_some,Option.some.injEq,decide_eq_true_eq] at o1
         exact o1
        ·obtain ⟨a,len,cap,_,_,hl,_⟩:=e2.cells
         refine o2 yv yv' len hy e1 (by rw [SI.fl_den e1,hl];rfl) j (by rw [hl] at hj;exact Int.ofNat_lt.1 hj) f κ hκ
   ·cases h
    simp only [SV.Is] at hz ⊢
    obtain ⟨a,rfl,ha⟩:=hz
    exact Fz.of_nil hL ha
theorem SV.cmpL_ok:∀ (l l':List SV) (L:List Ob) (us:List Value),SV.cmpL l l'=some L→Obs σ ρ L→SV.IsL σ ρ l' us→SV.IsL σ ρ l us
 | [],l',L,us,h,hL,hz=>by
   cases l'<;>simp only [SV.cmpL] at h
   ·exact hz
   ·cases h
 | a::l,l',L,us,h,hL,hz=>by
   cases l' with
   | nil=>simp only [SV.cmpL] at h;cases h
   | cons b l'=>
     simp only [SV.cmpL] at h
     obtain ⟨x,y,h1,h2,h3,h4⟩:=oapp_ok h hL
     rw [SV.isL_cons] at hz ⊢
     obtain ⟨u,r,rfl,g1,g2⟩:=hz
     exact ⟨u,r,rfl,SV.cmp_ok a b x u h1 h3 g1,SV.cmpL_ok l l' y r h2 h4 g2⟩
end
def tmCmp (T T':List (Nat×SV)):Option (List Ob):=
 List.rec (motive:=fun _=>Option (List Ob)) (some []) (fun p _ ih=>match get T' p.1 with | some z=>oapp (SV.cmp p.2 z) ih | none=>none) T
theorem tmCmp_ok {nt:Nat} {T':List (Nat×SV)} {tmps:Array Value} (h:TmRel σ ρ nt T' tmps):∀ {T:List (Nat×SV)} {L:List Ob},tmCmp T T'=some L→Obs σ ρ L→∀ t z,get T t=some z→z.Is σ ρ (tmps.getD t undef)
 | [],L,_,_,t,z,e=>by cases e
 | (s,z0)::T,L,hc,hL,t,z,e=>by
   have hc':(match get T' s with | some z=>oapp (SV.cmp z0 z) (tmCmp T T') | none=>none)=some L:=hc
   split at hc'
   ·rename_i z1 hz1
    obtain ⟨x,y,h1,h2,h3,h4⟩:=oapp_ok hc' hL
    rw [get_cons] at e
    split at e
    ·rename_i hs
     cases e
     simp only at hs
     subst hs
     exact SV.cmp_ok _ _ _ _ h1 h3 (h.get _ _ hz1)
    ·exact tmCmp_ok h h2 h4 t z e
   ·cases hc'
def esCmp (l:List (SV×SV×Nat)):List (SV×SV×Nat)→Option (List Ob):=
 List.rec (motive:=fun _=>List (SV×SV×Nat)→Option (List Ob)) (fun l'=>match l' with | []=>some [] | _=>none)
  (fun p _ ih l'=>match l' with | q::r=>bif Nat.beq p.2.2 q.2.2 then oapp (SV.cmp p.1 q.1) (oapp (SV.cmp p.2.1 q.2.1) (ih r)) else none | []=>none) l
theorem esCmp_ok:∀ {l l':List (SV×SV×Nat)} {L:List Ob} {es:List MapEntry},esCmp l l'=some L→Obs σ ρ L→EsRel σ ρ l' es→EsRel σ ρ l es
 | [],l',L,es,h,hL,he=>by
   cases l' with
   | nil=>exact he
   | cons=>cases h
 | (k,z,n)::l,l',L,es,h,hL,he=>by
   cases l' with
   | nil=>cases h
   | cons q r=>
     obtain ⟨k',z',n'⟩:=q
     have h':(bif Nat.beq n n' then oapp (SV.cmp k k') (oapp (SV.cmp z z') (esCmp l r)) else none)=some L:=h
     cases hb:Nat.beq n n' with
     | false=>rw [hb] at h';cases h'
     | true=>
       rw [hb] at h'
       have:=Nat.eq_of_beq_eq_true hb;subst this
       obtain ⟨x,y,h1,h2,h3,h4⟩:=oapp_ok h' hL
       obtain ⟨x',y',h5,h6,h7,h8⟩:=oapp_ok h2 h4
       obtain ⟨e,r',rfl,g1,g2,g3,g4⟩:=he
       exact ⟨e,r',rfl,SV.cmp_ok _ _ _ _ h1 h3 g1,SV.cmp_ok _ _ _ _ h5 h7 g2,g3,esCmp_ok h6 h8 g4⟩
def rowsS (c:SI) (lay:List Kd) (m:Nat):Nat→List SV:=
 Nat.rec (motive:=fun _=>Nat→List SV) (fun _=>[]) (fun _ ih j=>lapp (kdS c (.c (.ofNat j)) lay 0) (ih (Nat.succ j))) m
def obN (n n':SI) (b:Bool):List Ob:=bif b then [] else [.fa (.le n n') true]
def obC (lay:List Kd) (c c' n:SI) (b:Bool):List Ob:=bif b then [] else [.ar lay c c' n]
def lsEq (a b:LoopState):Bool:=Nat.beq a.ctorIdx b.ctorIdx
theorem lsEq_eq {a b:LoopState} (h:lsEq a b=true):a=b:=by cases a<;>cases b<;>first | rfl | (exact absurd h (by decide))
def Bk.cmp (y z:Bk):Option (List Ob):=
 match y,z with
 | .arr lay c n t cp,.arr lay' c' n' t' cp'=>bif layEq lay lay' then (bif Nat.beq t t' then some (lapp (obC lay c c' n (c.beq c')) (lapp (obN n n' (n.beq n')) (obI cp cp'))) else none) else none
 | .arr lay c n t cp,.row none l t' cp' sz=>bif Nat.beq sz (llen lay) then (bif Nat.beq t t' then oapp (SV.cmpL (rowsS c lay (Nat.div (llen l) sz) 0) l) (some (lapp (.fa (.le n (.c (.ofNat (Nat.div (llen l) sz)))) true::.fa (.le (.c (.ofNat (Nat.div (llen l) sz))) cp') true::[]) (obI cp cp'))) else none) else none
 | .arr lay c n t cp,.cells l t'=>bif Nat.beq t t' then oapp (SV.cmpL (rowsS c lay (Nat.div (llen l) (llen lay)) 0) l) (some (lapp (obN n (.c (.ofNat (Nat.div (llen l) (llen lay)))) (n.beq (.c (.ofNat (Nat.div (llen l) (llen lay)))))) (obI cp (.c (.ofNat (Nat.div (llen l) (llen lay))))))) else none
 | .cells l t,.cells l' t'=>bif Nat.beq t t' then SV.cmpL l l' else none
 | .row none l t cp sz,.row none l' t' cp' sz'=>bif Nat.beq t t' then (bif Nat.beq sz sz' then oapp (SV.cmpL l l') (some (obI cp cp')) else none) else none
 | .loop s _ fn nt tm _ _ _ df,.loop s' _ fn' nt' tm' _ _ _ df'=>bif lsEq s s' then (bif Nat.beq fn fn' then (bif Nat.beq nt nt' then (bif Nat.beq df df' then tmCmp tm tm' else none) else none) else none) else none
 | .dfr,.dfr=>some []
 | .dfn,.dfn=>some []
 | .map es clock,.map es' clock'=>bif Nat.beq clock clock' then esCmp es es' else none
 | .mapc kk vk c,.mapc kk' vk' c'=>bif keq kk kk' then (bif keq vk vk' then some (obI c c') else none) else none
 | .miter id c s none,.miter id' c' s' none=>bif Nat.beq id id' then some (lapp (obI c c') (obI s s')) else none
 | .miter id c s (some k),.miter id' c' s' (some k')=>bif Nat.beq id id' then some (lapp (obI c c') (lapp (obI s s') (obI k k'))) else none
 | .mitn,.mitn=>some []
 | .ob i,.ob j=>bif Nat.beq i j then some [] else none
 | _,_=>none
def Bk.code:Bk→Option (Option Code×Array Tmp×Code×Code)
 | .loop _ pd _ _ _ ps asg body _=>some (pd,ps,asg,body)
 | _=>none
theorem kdS_val {c:SI} {cv:Int} (hc:c.den σ ρ=some cv) {jv:Nat} {lay:List Kd} {f0:Nat}:∀ {us:List Value},SV.IsL σ ρ (kdS c (.c (.ofNat jv)) lay f0) us→∀ (f:Nat) (κ:Kd),lay[f]? = some κ→KR σ ρ.fz κ (κ.val σ cv jv (f0+f)) (us[f]?):=by
 induction lay generalizing f0 with
 | nil=>intro us _ f κ h;simp at h
 | cons k lay ih=>
   intro us h f κ hκ
   have h':SV.IsL σ ρ (k.sv c (.c (.ofNat jv)) f0::kdS c (.c (.ofNat jv)) lay (f0+1)) us:=h
   rw [SV.isL_cons] at h'
   obtain ⟨u,r,rfl,h1,h2⟩:=h'
   cases f with
   | zero=>
     simp only [List.getElem?_cons_zero,Option.some.injEq] at hκ
     subst hκ
     exact ⟨u,by simp,Kd.sv_uniq (j:=.c (.ofNat jv)) hc rfl h1⟩
   | succ f=>
     have:=ih h2 f κ (by simpa using hκ)
     rw [show f0+(f+1)=f0+1+f by omega]
     simpa using this
theorem rowsS_val {c:SI} {cv:Int} (hc:c.den σ ρ=some cv) {lay:List Kd}:∀ {m j0:Nat} {us:List Value},SV.IsL σ ρ (rowsS c lay m j0) us→us.length=m * lay.length∧∀ j,j < m→∀ (f:Nat) (κ:Kd),lay[f]? = some κ→KR σ ρ.fz κ (κ.val σ cv (j0+j) f) (us[j * lay.length+f]?)
 | 0,j0,us,h=>by
   have h':SV.IsL σ ρ [] us:=h
   rw [SV.isL_nil] at h';subst h'
   exact ⟨by simp,fun j hj=>absurd hj (Nat.not_lt_zero _)⟩
 | m+1,j0,us,h=>by
   have h':SV.IsL σ ρ (lapp (kdS c (.c (.ofNat j0)) lay 0) (rowsS c lay m (j0+1))) us:=h
   rw [lapp_eq] at h'
   have split:∀ {l l':List SV} {us:List Value},SV.IsL σ ρ (l++l') us→∃ a b,us=a++b∧SV.IsL σ ρ l a∧SV.IsL σ ρ l' b:=by
    intro l
    induction l with
    | nil=>intro l' us h;exact ⟨[],us,rfl,SV.isL_nil.2 rfl,h⟩
    | cons x l ih=>
      intro l' us h
      rw [List.cons_append,SV.isL_cons] at h
      obtain ⟨u,r,rfl,h1,h2⟩:=h
      obtain ⟨a,b,rfl,h3,h4⟩:=ih h2
      exact ⟨u::a,b,rfl,SV.isL_cons.2 ⟨u,a,rfl,h1,h3⟩,h4⟩
   obtain ⟨a,b,rfl,h1,h2⟩:=split h'
   have hla:a.length=lay.length:=by
    rw [SV.isL_length h1]
    have:∀ (lay:List Kd) (f:Nat),(kdS c (.c (.ofNat j0)) lay f).length=lay.length:=by
     intro lay
     induction lay with
     | nil=>intro f;rfl
     | cons k lay ih=>intro f;show (kdS c (.c (.ofNat j0)) lay (f+1)).length+1=_;rw [ih];rfl
    exact this lay 0
   obtain ⟨i1,i2⟩:=rowsS_val hc h2
   refine ⟨by rw [List.length_append,hla,i1,Nat.add_mul];omega,fun j hj f κ hκ=>?_⟩
   have hf:f < lay.length:=(List.getElem?_eq_some_iff.1 hκ).1
   cases j with
   | zero=>
     have:=kdS_val hc h1 f κ hκ
     rw [List.getElem?_append_left (by omega)]
     simpa using this
   | succ j=>
     rw [List.getElem?_append_right (by rw [Nat.add_mul];omega),hla]
     have:=i2 j (by omega) f κ hκ
     rw [show (j+1) * lay.length+f - lay.length=j * lay.length+f by rw [Nat.add_mul];omega,show j0+(j+1)=j0+1+j by omega]
     exact this
theorem Bk.cmp_ok {y:Bk} (hdef:∀ lay c n t cp,y=Bk.arr lay c n t cp→(∃ a,c.den σ ρ=some a)∧(∃ a,n.den σ ρ=some (Int.ofNat a))) {z:Bk} {L:List Ob} {o:Obj} (h:Bk.cmp y z=some L) (hL:Obs σ ρ L) (hcode:y.code=z.code) (hz:z.Is σ ρ o):y.Is σ ρ o:=by
 unfold Bk.cmp at h
 split at h
 ·rename_i lay c n t cp lay' c' n' t' cp'
  cases h1:layEq lay lay' with
  | false=>rw [h1] at h;cases h
  | true=>
    cases h2:Nat.beq t t' with
    | false=>rw [h1,h2] at h;cases h
    | true=>
      rw [h1,h2] at h
      simp only [cond_true,Option.some.injEq] at h
      subst h
      have:=layEq_eq h1;subst this
      have:=Nat.eq_of_beq_eq_true h2;subst this
      obtain ⟨o1,o2⟩:=Obs.app hL
      obtain ⟨o2,o3⟩:=Obs.app o2
      obtain ⟨cv,nv,cpv,A,g1,g2,g3,g4,g5,g6,rfl⟩:=hz
      obtain ⟨⟨cv0,d1⟩,⟨nv0,d2⟩⟩:=hdef _ _ _ _ _ rfl
      have hn:nv0≤nv:=by
       unfold obN at o2
       cases hb:n.beq n' with
       | true=>
         have:=SI.beq_eq hb;subst this
         rw [d2] at g2
         have:nv0=nv:=by injection g2 with g2;injection g2
         omega
       | false=>
         rw [hb] at o2
         have:=o2 (.fa (.le n n') true) (by simp)
         simp only [Ob.Ok,SB.den,d2,g2,Option.bind_some,Option.some.injEq,decide_eq_true_eq] at this
         exact Int.ofNat_le.1 this
      refine ⟨cv0,nv0,cpv,A,d1,d2,by rw [obI_ok o3];exact g3,by omega,g5,?_,rfl⟩
      intro j hj f κ hκ
      have hold:=g6 j (by omega) f κ hκ
      unfold obC at o1
      cases hb:c.beq c' with
      | true=>
        have:=SI.beq_eq hb;subst this
        rw [d1] at g1;cases g1
        exact hold
      | false=>
        rw [hb] at o1
        have:=(o1 (.ar lay c c' n) (by simp)).2 cv0 cv nv0 d1 g1 d2 j hj f κ hκ
        rw [this];exact hold
 ·rename_i lay c n t cp l t' cp' sz
  cases h1:Nat.beq sz (llen lay) with
  | false=>rw [h1] at h;cases h
  | true=>
    cases h2:Nat.beq t t' with
    | false=>rw [h1,h2] at h;cases h
    | true=>
      rw [h1,h2] at h
      simp only [cond_true] at h
      have hsz:=Nat.eq_of_beq_eq_true h1
      rw [llen_eq] at hsz
      have:=Nat.eq_of_beq_eq_true h2;subst this
      obtain ⟨x,y,k1,k2,k3,k4⟩:=oapp_ok h hL
      cases k2
      obtain ⟨o1,o2⟩:=Obs.app k4
      obtain ⟨us,sp,nn,g1,g2,g3,rfl⟩:=hz
      obtain ⟨⟨cv0,d1⟩,⟨nv0,d2⟩⟩:=hdef _ _ _ _ _ rfl
      have hrow:=SV.cmpL_ok _ _ _ _ k1 k3 g1
      obtain ⟨r1,r2⟩:=rowsS_val d1 hrow
      have hn:nv0≤Nat.div (llen l) sz:=by
       have:=o1 (.fa (.le n (.c (.ofNat (Nat.div (llen l) sz)))) true) (by simp)
       simp only [Ob.Ok,SB.den,SI.den,d2,Option.bind_some,Option.some.injEq,decide_eq_true_eq] at this
       exact Int.ofNat_le.1 this
      have hn2:Nat.div (llen l) sz≤nn:=by
       have:=o1 (.fa (.le (.c (.ofNat (Nat.div (llen l) sz))) cp') true) (by simp)
       simp only [Ob.Ok,SB.den,SI.den,g2,Option.bind_some,Option.some.injEq,decide_eq_true_eq] at this
       exact Int.ofNat_le.1 this
      refine ⟨cv0,nv0,nn,_,d1,d2,by rw [obI_ok o2];exact g2,by omega,?_,?_,rfl⟩
      ·rw [← hsz,← g3];simp [preL]
      ·intro j hj f κ hκ
       have:=r2 j (by omega) f κ hκ
       have hlt:=(List.getElem?_eq_some_iff.1 this.choose_spec.1).1
       rw [Nat.zero_add] at this
       rw [Nat.zero_add]
       simp only [preL,List.nil_append,List.getElem?_toArray]
       rw [List.getElem?_append_left hlt]
       exact this
 ·rename_i lay c n t cp l t'
  cases h2:Nat.beq t t' with
  | false=>rw [h2] at h;cases h
  | true=>
    rw [h2] at h
    simp only [cond_true] at h
    have:=Nat.eq_of_beq_eq_true h2;subst this
    obtain ⟨x,y,k1,k2,k3,k4⟩:=oapp_ok h hL
    cases k2
    obtain ⟨us,g1,rfl⟩:=hz
    obtain ⟨⟨cv0,d1⟩,⟨nv0,d2⟩⟩:=hdef _ _ _ _ _ rfl
    have hrow:=SV.cmpL_ok _ _ _ _ k1 k3 g1
    obtain ⟨r1,r2⟩:=rowsS_val d1 hrow
    obtain ⟨o1,o2⟩:=Obs.app k4
    have hn:nv0≤Nat.div (llen l) (llen lay):=by
     unfold obN at o1
     cases hb:n.beq (.c (.ofNat (Nat.div (llen l) (llen lay)))) with
     | true=>
       have hq:=SI.beq_eq hb
       rw [hq] at d2
       have d3:some ((Nat.div (llen l) (llen lay):Nat):Int)=some ((nv0:Nat):Int):=d2
       have:(Nat.div (llen l) (llen lay):Int)=nv0:=Option.some.inj d3
       omega
     | false=>
       rw [hb] at o1
       have:=o1 (.fa (.le n (.c (.ofNat (Nat.div (llen l) (llen lay))))) true) (by simp)
       simp only [Ob.Ok,SB.den,SI.den,d2,Option.bind_some,Option.some.injEq,decide_eq_true_eq] at this
       exact Int.ofNat_le.1 this
    refine ⟨cv0,nv0,Nat.div (llen l) (llen lay),us.toArray,d1,d2,by rw [obI_ok o2];rfl,hn,?_,?_,rfl⟩
    ·rw [List.size_toArray,r1]
    ·intro j hj f κ hκ
     have:=r2 j (by omega) f κ hκ
     rw [Nat.zero_add] at this
     rw [Nat.zero_add]
     simpa using this
 ·rename_i l t l' t'
  cases h2:Nat.beq t t' with
  | false=>rw [h2] at h;cases h
  | true=>
    rw [h2] at h
    have:=Nat.eq_of_beq_eq_true h2;subst this
    obtain ⟨us,g1,rfl⟩:=hz
    exact ⟨us,SV.cmpL_ok _ _ _ _ h hL g1,rfl⟩
 ·rename_i l t cp sz l' t' cp' sz'
  cases h1:Nat.beq t t' with
  | false=>rw [h1] at h;cases h
  | true=>
    cases h2:Nat.beq sz sz' with
    | false=>rw [h1,h2] at h;cases h
    | true=>
      rw [h1,h2] at h
      have:=Nat.eq_of_beq_eq_true h1;subst this
      have:=Nat.eq_of_beq_eq_true h2;subst this
      obtain ⟨x,y,k1,k2,k3,k4⟩:=oapp_ok h hL
      cases k2
      obtain ⟨us,sp,nn,g1,g2,g3,rfl⟩:=hz
      exact ⟨us,sp,nn,SV.cmpL_ok _ _ _ _ k1 k3 g1,by rw [obI_ok k4];exact g2,g3,rfl⟩
 ·rename_i s pd fn nt tm ps asg body df s' pd' fn' nt' tm' ps' asg' body' df'
  cases h1:lsEq s s' with
  | false=>rw [h1] at h;cases h
  | true=>
    cases h2:Nat.beq fn fn' with
    | false=>rw [h1,h2] at h;cases h
    | true=>
      cases h3:Nat.beq nt nt' with
      | false=>rw [h1,h2,h3] at h;cases h
      | true=>
        cases h4:Nat.beq df df' with
        | false=>rw [h1,h2,h3,h4] at h;cases h
        | true=>
          rw [h1,h2,h3,h4] at h
          simp only [cond_true] at h
          have:=lsEq_eq h1;subst this
          have:=Nat.eq_of_beq_eq_true h2;subst this
          have:=Nat.eq_of_beq_eq_true h3;subst this
          have:=Nat.eq_of_beq_eq_true h4;subst this
          simp only [Bk.code,Option.some.injEq,Prod.mk.injEq] at hcode
          obtain ⟨rfl,rfl,rfl,rfl⟩:=hcode
          obtain ⟨tmps,d,g1,g2,rfl⟩:=hz
          exact ⟨tmps,d,⟨g1.size,tmCmp_ok g1 h hL⟩,g2,rfl⟩
 ·exact hz
 ·exact hz
 ·rename_i es clock es' clock'
  cases h1:Nat.beq clock clock' with
  | false=>rw [h1] at h;cases h
  | true=>
    rw [h1] at h
    have:=Nat.eq_of_beq_eq_true h1;subst this
    obtain ⟨l,g1,rfl⟩:=hz
    exact ⟨l,esCmp_ok h hL g1,rfl⟩
 ·rename_i kk vk c kk' vk' c'
  cases h1:keq kk kk' with
  | false=>rw [h1] at h;cases h
  | true=>
    cases h2:keq vk vk' with
    | false=>rw [h1,h2] at h;cases h
    | true=>
      rw [h1,h2] at h
      simp only [cond_true,Option.some.injEq] at h
      subst h
      have:=keq_eq h1;subst this
      have:=keq_eq h2;subst this
      simp only [Bk.Is] at hz ⊢
      rw [obI_ok hL];exact hz
 ·rename_i id c s id' c' s'
  cases h1:Nat.beq id id' with
  | false=>rw [h1] at h;cases h
  | true=>
    rw [h1] at h
    simp only [cond_true,Option.some.injEq] at h
    subst h
    have:=Nat.eq_of_beq_eq_true h1;subst this
    obtain ⟨o1,o2⟩:=Obs.app hL
    simp only [Bk.Is] at hz ⊢
    rw [obI_ok o1,obI_ok o2];exact hz
 ·rename_i id c s k id' c' s' k'
  cases h1:Nat.beq id id' with
  | false=>rw [h1] at h;cases h
  | true=>
    rw [h1] at h
    simp only [cond_true,Option.some.injEq] at h
    subst h
    have:=Nat.eq_of_beq_eq_true h1;subst this
    obtain ⟨o1,o2⟩:=Obs.app hL
    obtain ⟨o2,o3⟩:=Obs.app o2
    simp only [Bk.Is,olk] at hz ⊢
    rw [obI_ok o1,obI_ok o2,obI_ok o3];exact hz
 ·exact hz
 ·rename_i i j
  cases h1:Nat.beq i j with
  | false=>rw [h1] at h;cases h
  | true=>have:=Nat.eq_of_beq_eq_true h1;subst this;exact hz
 ·cases h
end
end
end Go.Sx
