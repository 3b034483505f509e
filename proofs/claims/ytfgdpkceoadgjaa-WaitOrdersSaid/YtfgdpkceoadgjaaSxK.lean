/- A symbolic executor: a step is sound. -/
import Derived.Test.YtfgdpkceoadgjaaSxJ
namespace Go.Sx
set_option linter.unusedSectionVars false
set_option linter.unusedVariables false
set_option linter.unusedSimpArgs false
open Go.RowKit
section
variable {cc:Cc} {C:Ct} {E:Ents} {draw:Nat→List (Nat×SV)→Hp→Array Oper→Dr} {hc:Nat→Option Obj} {w0:World} {cs:List Frame} {ρ ρ':Dyn} {f:Fr} {fs:List Fr} {H:Hp} {w:World}
theorem callS_ok (hE:EntsOk cc C E) {fr:Frame} {frs:List Frame} {g:FuncId} {args:List SV} {us:List Value} (hf:FrIs C.σ ρ f fr) (hfs:FsRel C.σ ρ fs frs) (hh:HpRel C hc w0 ρ H w) (ha:SV.IsL C.σ ρ args us) {m:Machine} (hm:m.world=w)
  (hs:Steps cc.P m (lone (Frame.enter cc.P g us.toArray .normal) (fr::(frs++cs)) w)):(callS cc E f fs H g args).Ok cc C hc w0 cs ρ f fs H m:=by
 unfold callS
 split
 ·rename_i z H' he
  split
  ·rename_i f' hf'
   obtain ⟨app,hok,happ⟩:=fent_ok hE he
   obtain ⟨e,w',fr1,⟨ρ',u,rfl,h1,h2,h3⟩,hc1,_,hleave⟩:=(hok hc w0 ρ H w args us hh ha).1 z H' happ (fr::(frs++cs))
   have hle:=Dyn.Ag.le hh h1.ag
   obtain ⟨k1,k2,k3⟩:=finS_ok (hf.mono hle) h2 hf'
   exact ⟨ρ',_,by rw [hm];exact h1,(hs.trans hc1).trans (.one (step_leave_returned hleave)),⟨_,frs,w',rfl,k1,hfs.mono hle,h3⟩,botOf_upd fs k2 k3⟩
  ·trivial
 ·rename_i p he
  obtain ⟨app,hok,happ⟩:=fent_ask hE he
  exact (hok hc w0 ρ H w args us hh ha).2 p happ
 ·trivial
 ·split
  ·rename_i fn hfn
   split
   ·rename_i body hb
    exact ⟨ρ,_,by rw [hm];exact Tn.refl ρ H w,hs,⟨_,fr::frs,w,rfl,enterF_ok hfn hb ha,⟨fr,frs,rfl,hf,hfs⟩,hh⟩,botOf_push f _ fs⟩
   ·trivial
  ·trivial
theorem opS_ok (hcc:cc.Ok C) (hE:EntsOk cc C E) {fr:Frame} {frs:List Frame} {tmps:Array Value} {df:List Deferred} {kk:List Item} {ro:Option Nat} {ops:Array Oper} {i:Nat} {rest:List Nat} {k:List It}
  (hf:FrRel C.σ ρ f fr tmps df kk ro) (hto:f.todo=.inRegion ops (i::rest)::k) (hfs:FsRel C.σ ρ fs frs) (hh:HpRel C hc w0 ρ H w):(opS cc E f fs H ops i).Ok cc C hc w0 cs ρ f fs H (lone fr (frs++cs) w):=by
 have hfr:FrIs C.σ ρ f fr:=⟨tmps,df,kk,ro,hf⟩
 have htd:=hf.todo
 rw [hto] at htd
 obtain ⟨y,K,rfl,h1,hK⟩:=htd
 have h1':y=.inRegion ops (i::rest):=h1
 subst h1'
 have heq:=hf.eq
 unfold opS
 split
 ·trivial
 ·rename_i o ho
  split
  ·rename_i hw
   have hw':=(wantS_ok hcc hh hf.tm hw).1 false rfl
   split
   ·rename_i f' hf'
    obtain ⟨k1,k2,k3⟩:=finS_ok (u:=undef) hfr (by simp only [SV.Is];exact ⟨[],SV.isL_nil.2 rfl,rfl⟩) hf'
    refine ⟨ρ,_,(by exact Tn.refl ρ H w),.one ?_,⟨_,frs,w,rfl,k1,hfs,hh⟩,botOf_upd fs k2 k3⟩
    rw [heq,Frame.finish_atR]
    exact stepR_op_skip (by simp only [ho,Option.map_some,Option.getD_some];exact hw')
   ·trivial
  ·rename_i hw
   have hw':=(wantS_ok hcc hh hf.tm hw).1 true rfl
   have hop:=symOp_ok hcc hh (evOk_of (a:={ tmps:=tmps,defers:=df }) hf.tm) o
   have hnd:∀ z,symOp cc H f.tm o.op=z→(∀ n,z≠.bad n)→∀ c,o.op≠.defer c:=by
    intro z hz hb c hcd
    rw [hcd,symOp_defer] at hz
    exact hb 117 hz.symm
   split
   ·rename_i z H' hsym
    have hnd':=hnd _ hsym (by simp)
    rw [hsym] at hop
    obtain ⟨ρ',n,u,w',h2,h3,h4,h5,h6⟩:=hop
    have hle:=Dyn.Ag.le hh h2.ag
    split
    ·rename_i f' hf'
     obtain ⟨k1,k2,k3⟩:=finS_ok (hfr.mono hle) h5 hf'
     refine ⟨ρ',_,(by exact h2),.one ?_,⟨_,frs,w',rfl,k1,hfs.mono hle,h6⟩,botOf_upd fs k2 k3⟩
     rw [heq]
     exact step_val ho hw' hnd' h3 h4
    ·trivial
   ·rename_i g args hsym
    have hnd':=hnd _ hsym (by simp)
    rw [hsym] at hop
    obtain ⟨us,h2,h3,_⟩:=hop
    refine callS_ok hE hfr hfs hh h3 rfl (.one ?_)
    rw [heq]
    exact step_enter ho hw' hnd' h2
   ·rename_i id args hsym
    have hnd':=hnd _ hsym (by simp)
    rw [hsym] at hop
    obtain ⟨b,us,h2,h3,h4⟩:=hop
    split
    ·rename_i g hg
     obtain ⟨gf,tm',asg,body,h5,h6⟩:=roundF_ok (P:=cc.P) hh h2 h4 hg
     refine ⟨ρ,_,(by exact Tn.refl ρ H w),.one ?_,⟨_,fr::frs,w,rfl,h6,⟨fr,frs,rfl,hfr,hfs⟩,hh⟩,botOf_push f _ fs⟩
     rw [heq]
     exact step_round ho hw' hnd' (h3.trans h5)
    ·trivial
   ·rename_i p hsym
    rw [hsym] at hop
    exact hop
   ·trivial
  ·rename_i q hw
   exact (wantS_ok hcc hh hf.tm hw).2 q rfl
  ·trivial
theorem run_resolve_range {P:Program} {w:World} {e:Operand→Value} {g:Operand} {l:Nat} {gf:FuncId} {as cp:Array Value} (hg:e g=.func (.func gf) as cp) :
  (resolve e (rangeCall g l) 0).run P w=.ok { target:=.fn (.func gf) cp,args:=as++(rangeCall g l).args.map e } w:=by
 simp [resolve,rangeCall,Deferred.ofValue,hg]
theorem codeS_ok (hcc:cc.Ok C) (hd:DrOk cc C draw) {fr:Frame} {frs:List Frame} {tmps:Array Value} {df:List Deferred} {kk:List Item} {ro:Option Nat} {c:Code} {k:List It}
  (hf:FrRel C.σ ρ f fr tmps df kk ro) (hto:f.todo=.code c::k) (hfs:FsRel C.σ ρ fs frs) (hh:HpRel C hc w0 ρ H w):(codeS cc E draw f fs H c k).Ok cc C hc w0 cs ρ f fs H (lone fr (frs++cs) w):=by
 have htd:=hf.todo
 rw [hto] at htd
 obtain ⟨y,K,rfl,h1,hK⟩:=htd
 have h1':y=.code c:=h1
 subst h1'
 have heq:=hf.eq
 have hroundOf:((bF f.fn ro).atR { tmps:=tmps,defers:=df } (.code c::K)).roundOf=ro:=rfl
 have one:∀ {todo:List It} {k':List Item},TdRel ρ todo k'→step cc.P (lone ((bF f.fn ro).atR { tmps:=tmps,defers:=df } (.code c::K)) (frs++cs) w)=.next (lone ((bF f.fn ro).atR { tmps:=tmps,defers:=df } k') (frs++cs) w)→
   (Sp.go { f with todo:=todo } fs H).Ok cc C hc w0 cs ρ f fs H (lone fr (frs++cs) w):=fun ht hs=>Sp.ok_todo hf hfs hh ht (.one (by rw [heq];exact hs))
 unfold codeS
 cases c with
 | ret=>
   refine leaveS_ok hcc hf hfs hh (fun hrd _=>?_) (fun l b hrd hb=>?_)
   ·have:=hf.rd
    rw [hrd] at this
    have hro:ro=none:=this
    subst hro
    rw [heq]
    exact .one (stepR_ret rfl)
   ·intro c t w v w' he
    obtain ⟨b',e1,e2⟩:=(by have:=hf.rd;rw [hrd] at this;exact this:∃ b',ρ.bl l=some b'∧ro=some b')
    rw [hb] at e1;cases e1
    subst e2
    rw [heq]
    exact stepR_round_ret rfl rfl he
 | skip=>exact one hK stepR_skip
 | label l=>exact one hK stepR_label
 | seq a b=>exact one ⟨_,_,rfl,rfl,_,_,rfl,rfl,hK⟩ stepR_seq
 | cond x a b=>
   dsimp only
   have hx:=evOk_of (a:={ tmps:=tmps,defers:=df }) hf.tm x
   split
   ·rename_i p hp
    rw [hp] at hx
    simp only [SV.Is] at hx
    obtain ⟨t,e1,e2⟩:=hx
    split
    ·rename_i he
     have:=dec_ok (bdOf_ok hcc hh) hh.facts e1 he;subst this
     exact one ⟨_,_,rfl,rfl,hK⟩ (stepR_cond (t:=true) e2)
    ·rename_i he
     have:=dec_ok (bdOf_ok hcc hh) hh.facts e1 he;subst this
     exact one ⟨_,_,rfl,rfl,hK⟩ (stepR_cond (t:=false) e2)
    ·rename_i q he
     exact ask_den (bdOf_ok hcc hh) hh.facts e1 he
   ·trivial
 | block id b=>exact one ⟨_,_,rfl,rfl,_,_,rfl,rfl,hK⟩ stepR_block
 | loop b=>exact one ⟨_,_,rfl,rfl,_,_,rfl,rfl,hK⟩ stepR_loop
 | scope b=>exact one ⟨_,_,rfl,rfl,_,_,rfl,rfl,hK⟩ stepR_scope
 | exit id=>
   dsimp only
   have hx:=exitS_ok (id:=id) hK
   split
   ·rename_i k' hk'
    obtain ⟨K',e1,e2⟩:=hx.1 k' hk'
    exact one e2 (stepR_exit e1)
   ·rename_i hk'
    split
    ·rename_i l hrd
     refine leaveS_ok hcc hf hfs hh (fun h=>by rw [hrd] at h;cases h) (fun l' b hrd' hb=>?_)
     intro c t w v w' he
     obtain ⟨b',e1,e2⟩:=(by have:=hf.rd;rw [hrd'] at this;exact this:∃ b',ρ.bl l'=some b'∧ro=some b')
     rw [hb] at e1;cases e1
     subst e2
     rw [heq]
     exact stepR_round_exit rfl rfl (hx.2 hk') he
    ·trivial
 | goto l=>
   dsimp only
   have hx:=gotoS_ok (l:=l) hK
   split
   ·rename_i k' hk'
    obtain ⟨K',e1,e2⟩:=hx.1 k' hk'
    exact one e2 (stepR_goto e1)
   ·rename_i hk'
    split
    ·rename_i l hrd
     refine leaveS_ok hcc hf hfs hh (fun h=>by rw [hrd] at h;cases h) (fun l' b hrd' hb=>?_)
     intro c t w v w' he
     obtain ⟨b',e1,e2⟩:=(by have:=hf.rd;rw [hrd'] at this;exact this:∃ b',ρ.bl l'=some b'∧ro=some b')
     rw [hb] at e1;cases e1
     subst e2
     rw [heq]
     exact stepR_round_goto rfl rfl (hx.2 hk') he
    ·trivial
 | rangeFunc g ps asg body=>
   dsimp only
   have hx:=evOk_of (a:={ tmps:=tmps,defers:=df }) hf.tm g
   split
   ·rename_i gf a cp hg
    rw [hg] at hx
    simp only [SV.Is] at hx
    obtain ⟨as,cps,e1,e2,e3⟩:=hx
    split
    ·rename_i fn hfn
     split
     ·rename_i gb hgb
      have hnm:=hcc.names gf fn hfn
      split
      ·rename_i hrd
       have hro:ro=none:=by have:=hf.rd;rw [hrd] at this;exact this
       subst hro
       have hl1:=hh.le_alloc w.heap.size
       have a1:=hh.alloc' (bk:=.dfr) (o:=.deferred (some [])) rfl
       have hsz:(w.alloc (.deferred (some []))).heap.size=w.heap.size+1:=by simp
       have hl2:=a1.le_alloc (w.alloc (.deferred (some []))).heap.size
       have hdf:(((ρ.setBl H.nb w.heap.size).setBl (H.alloc .dfr).nb (w.alloc (.deferred (some []))).heap.size)).bl H.nb=some w.heap.size:=hl2.bl _ _ (Dyn.setBl_same _ _ _)
       have a2:=a1.alloc' (bk:=.loop .ready none f.fn f.nt f.tm ps asg body H.nb) (o:=.loop { state:=.ready,pending:=none,fn:=f.fn,tmps:=tmps,params:=ps,assign:=asg,body,defers:=w.heap.size })
        ⟨tmps,w.heap.size,hf.tm.mono (hl1.trans hl2),hdf,rfl⟩
       have hle:=hl1.trans hl2
       have hnew:((ρ.setBl H.nb w.heap.size).setBl (H.alloc .dfr).nb (w.alloc (.deferred (some []))).heap.size).bl (Nat.succ H.nb)=some (w.heap.size+1):=by
        have:=Dyn.setBl_same (ρ.setBl H.nb w.heap.size) (H.alloc .dfr).nb (w.alloc (.deferred (some []))).heap.size
        rw [hsz] at this ⊢;exact this
       have hen:=run_enterLoop_outer (P:=cc.P) (w:=w) f.fn tmps ps asg body
       have hres:=run_resolve_range (P:=cc.P) (w:=(w.alloc (.deferred (some []))).alloc (.loop { state:=.ready,pending:=none,fn:=f.fn,tmps:=tmps,params:=ps,assign:=asg,body,defers:=w.heap.size })) (e:=({ tmps:=tmps,defers:=df }:Act).eval) (g:=g) (l:=w.heap.size+1) e3
       have hargs:SV.IsL C.σ ((ρ.setBl H.nb w.heap.size).setBl (H.alloc .dfr).nb (w.alloc (.deferred (some []))).heap.size) (lapp a (.yl (Nat.succ H.nb)::cp)) (as++(.func (.yield (w.heap.size+1)) #[] #[]::cps)):=by
        rw [lapp_eq]
        exact SV.isL_append (SV.isL_mono hle _ _ e1) (SV.isL_cons.2 ⟨_,_,rfl,by simp only [SV.Is];exact ⟨_,hnew,rfl⟩,SV.isL_mono hle _ _ e2⟩)
       have hst:step cc.P (lone fr (frs++cs) w)=.next (lone (Frame.enter cc.P gf (as++(.func (.yield (w.heap.size+1)) #[] #[]::cps)).toArray .normal)
         ((bF f.fn none).atR { tmps:=tmps,defers:=[{ target:=.collected w.heap.size,args:=#[] }]++df } (.inRangeFunc (w.heap.size+1)::K)::(frs++cs))
         ((w.alloc (.deferred (some []))).alloc (.loop { state:=.ready,pending:=none,fn:=f.fn,tmps:=tmps,params:=ps,assign:=asg,body,defers:=w.heap.size }))):=by
        rw [heq]
        refine stepR_rangeFunc (b:=bF f.fn none) (a:={ tmps:=tmps,defers:=df }) hen hres ?_
        simp [invoke,callFunc,hfn,hnm,hgb,Act.eval]
        simpa using hnm
       refine ⟨_,_,?_,.one hst,⟨_,_::frs,_,rfl,enterF_ok hfn hgb hargs,⟨_,_,rfl,⟨tmps,_,_,none,rfl,hf.tm.mono hle,⟨_,_,rfl,⟨_,hnew,rfl⟩,hK.mono hle⟩,⟨_,_,rfl,hdf,hf.df.mono hle⟩,hf.rd.mono hle⟩,hfs.mono hle⟩,a2⟩,?_⟩
       ·exact (Tn.of_alloc ρ H w _ _).trans (Tn.of_alloc _ _ _ _ _)
       ·rw [botOf_push];exact botOf_upd fs rfl rfl
      ·rename_i l hrd
       obtain ⟨b0,r1,r2⟩:=(by have:=hf.rd;rw [hrd] at this;exact this:∃ b',ρ.bl l=some b'∧ro=some b')
       subst r2
       split
       ·rename_i st pd fn' nt' tm' ps' asg' body' dfb hgl
        obtain ⟨b1,o,q1,q2,tmps',d,q3,q4,rfl⟩:=hh.blk l _ hgl rfl
        rw [r1] at q1;cases q1
        have hl1:=hh.le_alloc w.heap.size
        have a1:=hh.alloc' (bk:=.loop .ready none f.fn f.nt f.tm ps asg body dfb) (o:=.loop { state:=.ready,pending:=none,fn:=f.fn,tmps:=tmps,params:=ps,assign:=asg,body,defers:=d })
         ⟨tmps,d,hf.tm.mono hl1,hl1.bl _ _ q4,rfl⟩
        have hnew:(ρ.setBl H.nb w.heap.size).bl H.nb=some w.heap.size:=Dyn.setBl_same _ _ _
        have hen:=run_enterLoop_inner (P:=cc.P) (w:=w) q2 f.fn tmps ps asg body
        have hres:=run_resolve_range (P:=cc.P) (w:=w.alloc (.loop { state:=.ready,pending:=none,fn:=f.fn,tmps:=tmps,params:=ps,assign:=asg,body,defers:=d })) (e:=({ tmps:=tmps,defers:=df }:Act).eval) (g:=g) (l:=w.heap.size) e3
        have hargs:SV.IsL C.σ (ρ.setBl H.nb w.heap.size) (lapp a (.yl H.nb::cp)) (as++(.func (.yield w.heap.size) #[] #[]::cps)):=by
         rw [lapp_eq]
         exact SV.isL_append (SV.isL_mono hl1 _ _ e1) (SV.isL_cons.2 ⟨_,_,rfl,by simp only [SV.Is];exact ⟨_,hnew,rfl⟩,SV.isL_mono hl1 _ _ e2⟩)
        have hst:step cc.P (lone fr (frs++cs) w)=.next (lone (Frame.enter cc.P gf (as++(.func (.yield w.heap.size) #[] #[]::cps)).toArray .normal)
          ((bF f.fn (some b0)).atR { tmps:=tmps,defers:=[]++df } (.inRangeFunc w.heap.size::K)::(frs++cs))
          (w.alloc (.loop { state:=.ready,pending:=none,fn:=f.fn,tmps:=tmps,params:=ps,assign:=asg,body,defers:=d }))):=by
         rw [heq]
         refine stepR_rangeFunc (b:=bF f.fn (some b0)) (a:={ tmps:=tmps,defers:=df }) hen hres ?_
         simp [invoke,callFunc,hfn,hnm,hgb,Act.eval]
         simpa using hnm
        refine ⟨_,_,(by exact Tn.of_alloc ρ H w _ _),.one hst,⟨_,_::frs,_,rfl,enterF_ok hfn hgb hargs,⟨_,_,rfl,⟨tmps,_,_,some b0,rfl,hf.tm.mono hl1,⟨_,_,rfl,⟨_,hnew,rfl⟩,hK.mono hl1⟩,hf.df.mono hl1,hf.rd.mono hl1⟩,hfs.mono hl1⟩,a1⟩,?_⟩
        ·rw [botOf_push];exact botOf_upd fs rfl rfl
       ·trivial
     ·trivial
    ·trivial
   ·trivial
 | region id ops d=>
   dsimp only
   cases d with
   | false=>exact one ⟨_,_,rfl,rfl,hK⟩ stepR_region
   | true=>
     dsimp only
     have:=hd hc w0 (frs++cs) ρ H w f.nt f.tm tmps df ro f.fn K ops id hh hf.tm
     split
     ·rename_i T' H' hdr
      rw [hdr] at this
      obtain ⟨ρ',tmps',w',k1,k2,k3,k4⟩:=this
      have hle:=Dyn.Ag.le hh k1.ag
      rw [← heq] at k2
      exact ⟨ρ',_,(by exact k1),k2,⟨_,frs,w',rfl,⟨tmps',df,K,ro,rfl,k3,hK.mono hle,hf.df.mono hle,hf.rd.mono hle⟩,hfs.mono hle,k4⟩,botOf_upd fs rfl rfl⟩
     ·rename_i x l hdr
      rw [hdr] at this
      obtain ⟨y,hy,ρ',tmps',w',k1,k2,k3,k4⟩:=this
      have hle:=Dyn.Ag.le hh k1.ag
      rw [← heq] at k2
      refine ⟨({ f with tm:=y.1,todo:=k },fs,y.2),?_,ρ',_,(by exact k1),k2,⟨_,frs,w',rfl,⟨tmps',df,K,ro,rfl,k3,hK.mono hle,hf.df.mono hle,hf.rd.mono hle⟩,hfs.mono hle,k4⟩,botOf_upd fs rfl rfl⟩
      rw [lmap_eq]
      rcases List.mem_cons.1 hy with rfl | hy
      ·exact List.mem_cons_self ..
      ·exact List.mem_cons_of_mem _ (List.mem_map.2 ⟨y,hy,rfl⟩)
     ·rename_i p hdr
      rw [hdr] at this
      exact this
     ·trivial
 | refuse why=>trivial
theorem stp_ok (hcc:cc.Ok C) (hE:EntsOk cc C E) (hd:DrOk cc C draw) {m:Machine} (hm:Sat C hc w0 cs ρ f fs H m):(stp cc E draw f fs H).Ok cc C hc w0 cs ρ f fs H m:=by
 obtain ⟨fr,frs,w,rfl,⟨tmps,df,kk,ro,hf⟩,hfs,hh⟩:=hm
 have htd:=hf.todo
 have heq:=hf.eq
 unfold stp
 split
 ·rename_i hto
  rw [hto] at htd
  have hkk:kk=[]:=htd
  subst hkk
  refine leaveS_ok hcc hf hfs hh (fun hrd _=>?_) (fun l b hrd hb=>?_)
  ·have hro:ro=none:=by have:=hf.rd;rw [hrd] at this;exact this
   subst hro
   rw [heq]
   exact .one (stepR_end rfl)
  ·intro c t w v w' he
   obtain ⟨b',e1,e2⟩:=(by have:=hf.rd;rw [hrd] at this;exact this:∃ b',ρ.bl l=some b'∧ro=some b')
   rw [hb] at e1;cases e1
   subst e2
   rw [heq]
   exact stepR_round_end rfl rfl he
 ·rename_i x k hto
  rw [hto] at htd
  obtain ⟨y,K,rfl,h1,hK⟩:=htd
  have one:∀ {todo:List It} {k':List Item},TdRel ρ todo k'→step cc.P (lone ((bF f.fn ro).atR { tmps:=tmps,defers:=df } (y::K)) (frs++cs) w)=.next (lone ((bF f.fn ro).atR { tmps:=tmps,defers:=df } k') (frs++cs) w)→
    (Sp.go { f with todo:=todo } fs H).Ok cc C hc w0 cs ρ f fs H (lone fr (frs++cs) w):=fun ht hs=>Sp.ok_todo hf hfs hh ht (.one (by rw [heq];exact hs))
  cases x with
  | code c=>exact codeS_ok hcc hd hf hto hfs hh
  | inBlock id=>
    have h1':y=.inBlock id:=h1
    subst h1'
    exact one hK stepR_inBlock
  | inScope c=>
    have h1':y=.inScope c:=h1
    subst h1'
    exact one hK stepR_inScope
  | inLoop b=>
    have h1':y=.inLoop b:=h1
    subst h1'
    exact one ⟨_,_,rfl,rfl,_,_,rfl,rfl,hK⟩ stepR_inLoop
  | inRegion ops l=>
    have h1':y=.inRegion ops l:=h1
    subst h1'
    cases l with
    | nil=>exact one hK stepR_region_end
    | cons i rest=>exact opS_ok hcc hE hf hto hfs hh
  | inRangeFunc l=>trivial
  | beginRound=>
    have h1':y=.beginRound:=h1
    subst h1'
    dsimp only
    split
    ·rename_i l hrd
     obtain ⟨b0,r1,r2⟩:=(by have:=hf.rd;rw [hrd] at this;exact this:∃ b',ρ.bl l=some b'∧ro=some b')
     subst r2
     split
     ·rename_i pd fn nt tm ps asg body dfb hg
      obtain ⟨b1,o,q1,q2,tmps',d,q3,q4,rfl⟩:=hh.blk l _ hg rfl
      rw [r1] at q1;cases q1
      have hput:=hh.put' hg rfl r1 q2 (bk':=.loop .busy pd fn nt tm ps asg body dfb) (o':=.loop { state:=.busy,pending:=pd,fn,tmps:=tmps',params:=ps,assign:=asg,body,defers:=d }) rfl ⟨tmps',d,q3,q4,rfl⟩
      refine ⟨ρ,_,(by exact Tn.of_putObj r1),.one ?_,⟨_,frs,_,rfl,⟨tmps,df,K,some b0,rfl,hf.tm,hK,hf.df,hf.rd⟩,hfs,hput⟩,botOf_upd fs rfl rfl⟩
      ·rw [heq]
       exact stepR_beginRound rfl (run_beginRound q2 rfl)
     ·trivial
    ·trivial
  | endRangeFunc l=>
    obtain ⟨b,hb,rfl⟩:=h1
    dsimp only
    split
    ·rename_i st pd fn nt tm ps asg body dfb hg
     obtain ⟨b1,o,q1,q2,tmps',d,q3,q4,rfl⟩:=hh.blk l _ hg rfl
     rw [hb] at q1;cases q1
     split
     ·trivial
     ·rename_i hst
      have hput:=hh.put' hg rfl hb q2 (bk':=.loop .exhausted pd fn nt tm ps asg body dfb) (o':=.loop { state:=.exhausted,pending:=pd,fn,tmps:=tmps',params:=ps,assign:=asg,body,defers:=d }) rfl ⟨tmps',d,q3,q4,rfl⟩
      have hend:=run_endLoop (P:=cc.P) q2 (fun h=>hst h)
      have htd':TdRel ρ (pdS pd k) ((pd.map Item.code).toList++K):=by
       cases pd with
       | none=>exact hK
       | some c=>exact ⟨_,_,rfl,rfl,hK⟩
      refine ⟨ρ,_,(by exact Tn.of_putObj hb),.one ?_,⟨_,frs,_,rfl,⟨tmps,df,(pd.map Item.code).toList++K,ro,rfl,hf.tm,htd',hf.df,hf.rd⟩,hfs,hput⟩,botOf_upd fs rfl rfl⟩
      ·rw [heq]
       exact stepR_endRangeFunc hend
    ·trivial
end
end Go.Sx
