/- A symbolic executor: one step, proved. -/
import Derived.Test.YtfgdpkceoadgjaaSxI
namespace Go.Sx
set_option linter.unusedSectionVars false
set_option linter.unusedVariables false
set_option linter.unusedSimpArgs false
open Go.RowKit
inductive Ap where
 | no
 | ok (z:SV) (H:Hp)
 | ask (p:SB)
 | bad
abbrev Ents:=List (Nat×(Hp→List SV→Ap))
noncomputable def fent (E:Ents) (H:Hp) (f:FuncId) (args:List SV):Ap:=
 List.rec (motive:=fun _=>Ap) .no (fun e _ ih=>bif Nat.beq e.1 f then (match e.2 H args with | .no=>ih | r=>r) else ih) E
def CallOk (cc:Cc) (C:Ct) (f:FuncId) (app:Hp→List SV→Ap):Prop:=
 ∀ hc w0 ρ H w args us,HpRel C hc w0 ρ H w→SV.IsL C.σ ρ args us→
   (∀ z H',app H args=.ok z H'→Calls cc.P f us.toArray w fun e w'=>∃ ρ' u,e=.returned u∧Tn ρ H w ρ' H' w'∧z.Is C.σ ρ' u∧HpRel C hc w0 ρ' H' w')∧
   (∀ p,app H args=.ask p→∃ b,p.den C.σ ρ=some b)
def EntsOk (cc:Cc) (C:Ct) (E:Ents):Prop:=∀ f app,(f,app)∈E→CallOk cc C f app
theorem fent_mem {E:Ents} {H:Hp} {f:FuncId} {args:List SV} {r:Ap} (h:fent E H f args=r) (hr:r≠.no):∃ app,(f,app)∈E∧app H args=r:=by
 induction E with
 | nil=>exact absurd h.symm hr
 | cons e E ih=>
   have h':(bif Nat.beq e.1 f then (match e.2 H args with | .no=>fent E H f args | r=>r) else fent E H f args)=r:=h
   cases hb:Nat.beq e.1 f with
   | false=>
     rw [hb] at h'
     obtain ⟨app,h1,h2⟩:=ih h'
     exact ⟨app,List.mem_cons_of_mem _ h1,h2⟩
   | true=>
     have he:=Nat.eq_of_beq_eq_true hb
     rw [hb] at h'
     simp only [cond_true] at h'
     split at h'
     ·obtain ⟨app,h1,h2⟩:=ih h'
      exact ⟨app,List.mem_cons_of_mem _ h1,h2⟩
     ·rename_i r' hne
      exact ⟨e.2,by rw [← he];simp,h'⟩
theorem fent_ok {cc:Cc} {C:Ct} {E:Ents} (hE:EntsOk cc C E) {H:Hp} {f:FuncId} {args:List SV} {z:SV} {H':Hp} (h:fent E H f args=.ok z H'):∃ app,CallOk cc C f app∧app H args=.ok z H':=by
 obtain ⟨app,h1,h2⟩:=fent_mem h (by simp)
 exact ⟨app,hE f app h1,h2⟩
theorem fent_ask {cc:Cc} {C:Ct} {E:Ents} (hE:EntsOk cc C E) {H:Hp} {f:FuncId} {args:List SV} {p:SB} (h:fent E H f args=.ask p):∃ app,CallOk cc C f app∧app H args=.ask p:=by
 obtain ⟨app,h1,h2⟩:=fent_mem h (by simp)
 exact ⟨app,hE f app h1,h2⟩
noncomputable def enumS (l:List SV):Nat→List (Nat×SV):=
 List.rec (motive:=fun _=>Nat→List (Nat×SV)) (fun _=>[]) (fun a _ ih n=>(n,a)::ih (Nat.succ n)) l
theorem enumS_get {σ:Sta} {ρ:Dyn}:∀ {l:List SV} {us:List Value} {n t:Nat} {z:SV},SV.IsL σ ρ l us→get (enumS l n) t=some z→n≤t∧∃ u,us[t - n]? = some u∧z.Is σ ρ u
 | [],_,_,_,_,_,h=>by cases h
 | a::l,us,n,t,z,hl,h=>by
   rw [SV.isL_cons] at hl
   obtain ⟨u,r,rfl,h1,h2⟩:=hl
   have h':get ((n,a)::enumS l (Nat.succ n)) t=some z:=h
   rw [get_cons] at h'
   split at h'
   ·rename_i e
    cases h'
    simp only at e
    subst e
    exact ⟨Nat.le_refl _,u,by simp,h1⟩
   ·obtain ⟨h3,v,h4,h5⟩:=enumS_get h2 h'
    refine ⟨by omega,v,?_,h5⟩
    have:t - n=(t - (n+1))+1:=by omega
    rw [this];simpa using h4
noncomputable def enterF (f:FuncId) (fn:Func) (body:Code) (args:List SV):Fr:=
 { fn:=f,nt:=Nat.add (llen args) (Nat.sub fn.ntmps (llen args)),tm:=enumS args 0,todo:=[.code body],df:=[],rd:=none }
theorem enterF_ok {P:Program} {σ:Sta} {ρ:Dyn} {f:FuncId} {fn:Func} {body:Code} {args:List SV} {us:List Value} (hf:P.funcs[f]? = some fn) (hb:fn.body=some body) (ha:SV.IsL σ ρ args us) :
  FrIs σ ρ (enterF f fn body args) (Frame.enter P f us.toArray .normal):=by
 refine ⟨us.toArray++Array.replicate (fn.ntmps - us.toArray.size) undef,[],[.code body],none,⟨?_,⟨?_,?_⟩,⟨_,_,rfl,rfl,rfl⟩,rfl,rfl⟩⟩
 ·simp [Frame.enter,Frame.atR,bF,hf,hb,enterF]
 ·simp only [enterF,llen_eq,← SV.isL_length ha,Array.size_append,Array.size_replicate,List.size_toArray];rfl
 ·intro t z h
  obtain ⟨_,u,h1,h2⟩:=enumS_get ha h
  have hlt:t < us.length:=(List.getElem?_eq_some_iff.1 (by simpa using h1)).1
  have:(us.toArray++Array.replicate (fn.ntmps - us.toArray.size) undef).getD t undef=u:=by
   rw [Array.getD_eq_getD_getElem?,Array.getElem?_append_left (by simpa using hlt)]
   simp at h1
   simp [h1]
  rw [this];exact h2
noncomputable def setsS (nt:Nat) (ps:List Tmp):List SV→List (Nat×SV)→Option (List (Nat×SV)):=
 List.rec (motive:=fun _=>List SV→List (Nat×SV)→Option (List (Nat×SV))) (fun as T=>match as with | []=>some T | _=>none)
  (fun p _ ih as T=>match as with | a::as=>bif Nat.blt p nt then ih as ((p,a)::T) else none | []=>none) ps
theorem setsS_ok {σ:Sta} {ρ:Dyn} {nt:Nat}:∀ {ps:List Tmp} {as:List SV} {us:List Value} {T T':List (Nat×SV)} {tmps:Array Value},SV.IsL σ ρ as us→TmRel σ ρ nt T tmps→setsS nt ps as T=some T'→
  us.length=ps.length∧TmRel σ ρ nt T' ((ps.zip us).foldl (fun tmps (p:Tmp×Value)=>tmps.setIfInBounds p.1 p.2) tmps)
 | [],as,us,T,T',tmps,ha,ht,h=>by
   cases as with
   | nil=>
     rw [SV.isL_nil] at ha;subst ha
     have h':some T=some T':=h
     cases h'
     exact ⟨rfl,ht⟩
   | cons a as=>cases h
 | p::ps,as,us,T,T',tmps,ha,ht,h=>by
   cases as with
   | nil=>cases h
   | cons a as=>
     rw [SV.isL_cons] at ha
     obtain ⟨u,r,rfl,h1,h2⟩:=ha
     have h':(bif Nat.blt p nt then setsS nt ps as ((p,a)::T) else none)=some T':=h
     cases hb:Nat.blt p nt with
     | false=>rw [hb] at h';cases h'
     | true=>
       rw [hb] at h'
       have hlt:p < nt:=by simpa using hb
       obtain ⟨h3,h4⟩:=setsS_ok h2 (ht.set hlt h1) h'
       exact ⟨by simp [h3],by simpa using h4⟩
noncomputable def roundF (H:Hp) (id:Nat) (args:List SV):Option Fr:=
 match get H.heap id with
 | some (.loop _ _ fn nt tm ps asg body _)=>match setsS nt ps.toList args tm with
   | some T=>some { fn,nt,tm:=T,todo:=[.code asg,.beginRound,.code body],df:=[],rd:=some id }
   | none=>none
 | _=>none
theorem roundF_ok {C:Ct} {hc:Nat→Option Obj} {w0:World} {ρ:Dyn} {H:Hp} {w:World} {P:Program} (hh:HpRel C hc w0 ρ H w) {id b:Nat} {args:List SV} {us:List Value} {f':Fr} (hb:ρ.bl id=some b) (ha:SV.IsL C.σ ρ args us) (h:roundF H id args=some f') :
  ∃ g tmps asg body,(Instr.yield b us.toArray).run P w=.ok (.round b g tmps asg body) w∧FrIs C.σ ρ f' (Frame.round b g tmps asg body .normal):=by
 unfold roundF at h
 split at h
 ·rename_i st pd fn nt tm ps asg body df hg
  obtain ⟨b',o,e1,e2,tmps,d,e3,e4,rfl⟩:=hh.blk id _ hg rfl
  rw [hb] at e1;cases e1
  split at h
  ·rename_i T hT
   cases h
   obtain ⟨h3,h4⟩:=setsS_ok ha e3 hT
   refine ⟨fn,_,asg,body,run_yield e2 (by simpa using h3),?_⟩
   refine ⟨(ps.toList.zip us).foldl (fun tmps (p:Tmp×Value)=>tmps.setIfInBounds p.1 p.2) tmps,[],[.code asg,.beginRound,.code body],some b,⟨?_,h4,⟨_,_,rfl,rfl,_,_,rfl,rfl,_,_,rfl,rfl,rfl⟩,rfl,b,hb,rfl⟩⟩
   simp only [Frame.round,Frame.atR,bF]
   congr 1
   rw [← Array.foldl_toList,Array.toList_zip]
  ·cases h
 ·cases h
noncomputable def wantS (cc:Cc) (H:Hp) (T:List (Nat×SV)) (ops:Array Oper) (o:Oper):Option DR:=
 match o.guard with
 | none=>some (.yes true)
 | some (j,b)=>match (ops[j]?).bind (·.dst) with
   | some d=>match get T d with
     | some (.bo p)=>match dec (bdOf cc H) H.facts p with
       | .yes x=>some (.yes (x == b))
       | .ask q=>some (.ask q)
     | some (.tp _)=>some (.yes false)
     | _=>none
   | none=>none
theorem wantS_ok {cc:Cc} {C:Ct} (hcc:cc.Ok C) {hc:Nat→Option Obj} {w0:World} {ρ:Dyn} {H:Hp} {w:World} (hh:HpRel C hc w0 ρ H w) {nt:Nat} {T:List (Nat×SV)} {tmps:Array Value} (ht:TmRel C.σ ρ nt T tmps) {ops:Array Oper} {o:Oper} {r:DR}
  (h:wantS cc H T ops o=some r):(∀ x,r=.yes x→Region.wanted o (yielded ops tmps)=x)∧(∀ q,r=.ask q→∃ b,q.den C.σ ρ=some b):=by
 unfold wantS at h
 split at h
 ·rename_i hg
  cases h
  exact ⟨(fun x e=>by cases e;simp [Region.wanted,hg]),(fun q e=>by cases e)⟩
 ·rename_i j b hg
  split at h
  ·rename_i d hd
   split at h
   ·rename_i p hp
    have h1:=ht.get d _ hp
    simp only [SV.Is] at h1
    obtain ⟨x,e1,e2⟩:=h1
    have hlt:d < tmps.size:=by
     rcases Nat.lt_or_ge d tmps.size with h | h
     ·exact h
     ·simp [Array.getElem?_eq_none h,undef] at e2
    have hget:tmps[d]? = some (.bool x):=by
     rw [Array.getD_eq_getD_getElem?,Array.getElem?_eq_getElem hlt] at e2
     rw [Array.getElem?_eq_getElem hlt];simpa using e2
    have hy:yielded ops tmps j=some x:=by simp [yielded,hd,hget]
    split at h
    ·rename_i y he
     cases h
     have:=dec_ok (bdOf_ok hcc hh) hh.facts e1 he;subst this
     refine ⟨fun z e=>?_,(fun q e=>by cases e)⟩
     cases e
     simp only [Region.wanted,hg,hy]
     cases y<;>cases b<;>rfl
    ·rename_i q he
     cases h
     refine ⟨(fun z e=>by cases e),fun q' e=>?_⟩
     cases e
     exact ask_den (bdOf_ok hcc hh) hh.facts e1 he
   ·rename_i l hp
    cases h
    have h1:=ht.get d _ hp
    simp only [SV.Is] at h1
    obtain ⟨vs,e1,e2⟩:=h1
    have hy:yielded ops tmps j=none:=by
     unfold yielded
     rw [hd]
     simp only [Option.bind_some]
     rcases Nat.lt_or_ge d tmps.size with hlt | h
     ·rw [Array.getD_eq_getD_getElem?,Array.getElem?_eq_getElem hlt] at e2
      rw [Array.getElem?_eq_getElem hlt]
      simp only [Option.getD_some] at e2
      rw [e2]
     ·rw [Array.getElem?_eq_none h]
    refine ⟨fun z e=>?_,(fun q e=>by cases e)⟩
    cases e
    simp only [Region.wanted,hg,hy]
    cases b<;>rfl
   ·cases h
  ·cases h
end Go.Sx
namespace Go.Sx
open Go.RowKit
inductive Dr where
 | ok (T:List (Nat×SV)) (H:Hp)
 | par (x:List (Nat×SV)×Hp) (l:List (List (Nat×SV)×Hp))
 | ask (p:SB)
 | bad (why:Nat)
def DrOk (cc:Cc) (C:Ct) (draw:Nat→List (Nat×SV)→Hp→Array Oper→Dr):Prop:=
 ∀ hc w0 (cs:List Frame) ρ H w nt T tmps df (ro:Option Nat) fn k ops id,HpRel C hc w0 ρ H w→TmRel C.σ ρ nt T tmps→
   match draw nt T H ops with
   | .ok T' H'=>∃ ρ' tmps' w',Tn ρ H w ρ' H' w'∧Steps cc.P (lone ((bF fn ro).atR { tmps:=tmps,defers:=df } (.code (.region id ops true)::k)) cs w) (lone ((bF fn ro).atR { tmps:=tmps',defers:=df } k) cs w')∧
     TmRel C.σ ρ' nt T' tmps'∧HpRel C hc w0 ρ' H' w'
   | .par x l=>∃ y∈x::l,∃ ρ' tmps' w',Tn ρ H w ρ' y.2 w'∧Steps cc.P (lone ((bF fn ro).atR { tmps:=tmps,defers:=df } (.code (.region id ops true)::k)) cs w) (lone ((bF fn ro).atR { tmps:=tmps',defers:=df } k) cs w')∧
     TmRel C.σ ρ' nt y.1 tmps'∧HpRel C hc w0 ρ' y.2 w'
   | .ask p=>∃ b,p.den C.σ ρ=some b
   | .bad _=>True
noncomputable def callS (cc:Cc) (E:Ents) (f:Fr) (fs:List Fr) (H:Hp) (g:FuncId) (args:List SV):Sp:=
 match fent E H g args with
 | .ok z H'=>match finS f z with
   | some f'=>.go f' fs H'
   | none=>.bad 210
 | .ask p=>.ask p
 | .bad=>.bad 213
 | .no=>match cc.P.funcs[g]? with
   | some fn=>match fn.body with
     | some body=>.go (enterF g fn body args) (f::fs) H
     | none=>.bad 211
   | none=>.bad 212
noncomputable def codeS (cc:Cc) (_:Ents) (draw:Nat→List (Nat×SV)→Hp→Array Oper→Dr) (f:Fr) (fs:List Fr) (H:Hp) (c:Code) (k:List It):Sp:=
 match c with
 | .ret=>leaveS cc f fs H (some .ret)
 | .skip=>.go { f with todo:=k } fs H
 | .label _=>.go { f with todo:=k } fs H
 | .seq a b=>.go { f with todo:=.code a::.code b::k } fs H
 | .cond x a b=>match ev f.tm x with
   | .bo p=>match dec (bdOf cc H) H.facts p with
     | .yes true=>.go { f with todo:=.code a::k } fs H
     | .yes false=>.go { f with todo:=.code b::k } fs H
     | .ask q=>.ask q
   | _=>.bad 220
 | .block id b=>.go { f with todo:=.code b::.inBlock id::k } fs H
 | .loop b=>.go { f with todo:=.code b::.inLoop b::k } fs H
 | .scope b=>.go { f with todo:=.code b::.inScope b::k } fs H
 | .exit id=>match exitS id k with
   | some k'=>.go { f with todo:=k' } fs H
   | none=>match f.rd with
     | some _=>leaveS cc f fs H (some (.exit id))
     | none=>.bad 221
 | .goto l=>match gotoS l k with
   | some k'=>.go { f with todo:=k' } fs H
   | none=>match f.rd with
     | some _=>leaveS cc f fs H (some (.goto l))
     | none=>.bad 222
 | .rangeFunc g ps asg body=>match ev f.tm g with
   | .fn gf a cp=>match cc.P.funcs[gf]? with
     | some fn=>match fn.body with
       | some gb=>match f.rd with
         | none=>
           let H1:=H.alloc .dfr
           let H2:=H1.alloc (.loop .ready none f.fn f.nt f.tm ps asg body H.nb)
           .go (enterF gf fn gb (lapp a (.yl (Nat.succ H.nb)::cp))) ({ f with todo:=.inRangeFunc (Nat.succ H.nb)::k,df:=H.nb::f.df }::fs) H2
         | some l=>match get H.heap l with
           | some (.loop _ _ _ _ _ _ _ _ df)=>
             .go (enterF gf fn gb (lapp a (.yl H.nb::cp))) ({ f with todo:=.inRangeFunc H.nb::k }::fs) (H.alloc (.loop .ready none f.fn f.nt f.tm ps asg body df))
           | _=>.bad 223
       | none=>.bad 224
     | none=>.bad 225
   | _=>.bad 226
 | .region _ ops d=>match d with
   | false=>.go { f with todo:=.inRegion ops (List.range ops.size)::k } fs H
   | true=>match draw f.nt f.tm H ops with
     | .ok T' H'=>.go { f with tm:=T',todo:=k } fs H'
     | .par x l=>.par ({ f with tm:=x.1,todo:=k },fs,x.2) (lmap (fun y=>({ f with tm:=y.1,todo:=k },fs,y.2)) l)
     | .ask p=>.ask p
     | .bad n=>.bad n
 | .refuse _=>.bad 227
noncomputable def opS (cc:Cc) (E:Ents) (f:Fr) (fs:List Fr) (H:Hp) (ops:Array Oper) (i:Nat):Sp:=
 match ops[i]? with
 | none=>.bad 230
 | some o=>match wantS cc H f.tm ops o with
   | some (.yes false)=>match finS f (.tp []) with
     | some f'=>.go f' fs H
     | none=>.bad 231
   | some (.yes true)=>match symOp cc H f.tm o.op with
     | .val z H'=>match finS f z with
       | some f'=>.go f' fs H'
       | none=>.bad 232
     | .enter g args=>callS cc E f fs H g args
     | .round id args=>match roundF H id args with
       | some g=>.go g (f::fs) H
       | none=>.bad 233
     | .ask p=>.ask p
     | .bad n=>.bad n
   | some (.ask q)=>.ask q
   | none=>.bad 234
def pdS (pd:Option Code) (k:List It):List It:=match pd with | some c=>.code c::k | none=>k
noncomputable def stp (cc:Cc) (E:Ents) (draw:Nat→List (Nat×SV)→Hp→Array Oper→Dr) (f:Fr) (fs:List Fr) (H:Hp):Sp:=
 match f.todo with
 | []=>leaveS cc f fs H none
 | x::k=>match x with
   | .code c=>codeS cc E draw f fs H c k
   | .inBlock _=>.go { f with todo:=k } fs H
   | .inScope _=>.go { f with todo:=k } fs H
   | .inLoop b=>.go { f with todo:=.code b::.inLoop b::k } fs H
   | .inRegion ops l=>match l with
     | []=>.go { f with todo:=k } fs H
     | i::_=>opS cc E f fs H ops i
   | .inRangeFunc _=>.bad 240
   | .beginRound=>match f.rd with
     | some l=>match get H.heap l with
       | some (.loop .ready pd fn nt tm ps asg body df)=>.go { f with todo:=k } fs (H.put l (.loop .busy pd fn nt tm ps asg body df))
       | _=>.bad 241
     | none=>.bad 242
   | .endRangeFunc l=>match get H.heap l with
     | some (.loop st pd fn nt tm ps asg body df)=>match st with
       | .busy=>.bad 243
       | _=>.go { f with todo:=pdS pd k } fs (H.put l (.loop .exhausted pd fn nt tm ps asg body df))
     | _=>.bad 244
section
variable {cc:Cc} {C:Ct} {hc:Nat→Option Obj} {w0:World} {cs:List Frame} {ρ ρ':Dyn} {f:Fr} {fs:List Fr} {H:Hp} {w:World}
theorem stepR_scope {P:Program} {b:Frame} {a:Act} {k:List Item} {cs:List Frame} {w:World} {c:Code} :
  step P (lone (b.atR a (.code (.scope c)::k)) cs w)=.next (lone (b.atR a (.code c::.inScope c::k)) cs w):=
 step_lone_go (by simp [stepG,stepG.exec,Frame.atR])
theorem stepR_inScope {P:Program} {b:Frame} {a:Act} {k:List Item} {cs:List Frame} {w:World} {c:Code} :
  step P (lone (b.atR a (.inScope c::k)) cs w)=.next (lone (b.atR a k) cs w):=
 step_lone_go (by simp [stepG,stepG.exec,Frame.atR])
theorem step_val {P:Program} {b:Frame} {a:Act} {k:List Item} {cs:List Frame} {w w':World} {ops:Array Oper} {i:Nat} {rest:List Nat} {o:Oper} {n:Next} {u:Value} (ho:ops[i]? = some o)
  (hw:Region.wanted o (yielded ops a.tmps)=true) (hd:∀ c,o.op≠.defer c) (hr:(execOp a.eval o).run P w=.ok n w') (hn:n=.value u∨(n=.skip∧u=undef)) :
  step P (lone (b.atR a (.inRegion ops (i::rest)::k)) cs w)=.next (lone ((b.atR a (.inRegion ops (i::rest)::k)).finish u) cs w'):=by
 refine step_lone_go ?_
 rw [stepGR_op ho hw,Oper.semAt_eq _ _ _ hd]
 rcases hn with rfl | ⟨rfl,rfl⟩<;>simp [stepG.apply,Sem.runT_eq,hr,GStep.bare_after]
theorem step_enter {P:Program} {b:Frame} {a:Act} {k:List Item} {cs:List Frame} {w w':World} {ops:Array Oper} {i:Nat} {rest:List Nat} {o:Oper} {g:FuncId} {args:Array Value} (ho:ops[i]? = some o)
  (hw:Region.wanted o (yielded ops a.tmps)=true) (hd:∀ c,o.op≠.defer c) (hr:(execOp a.eval o).run P w=.ok (.enter g args) w') :
  step P (lone (b.atR a (.inRegion ops (i::rest)::k)) cs w)=.next (lone (Frame.enter P g args .normal) (b.atR a (.inRegion ops (i::rest)::k)::cs) w'):=by
 refine step_lone_go ?_
 rw [stepGR_op ho hw,Oper.semAt_eq _ _ _ hd]
 simp [stepG.apply,Sem.runT_eq,hr,GStep.bare_after,Frame.atR]
theorem step_round {P:Program} {b:Frame} {a:Act} {k:List Item} {cs:List Frame} {w w':World} {ops:Array Oper} {i:Nat} {rest:List Nat} {o:Oper} {l g:Nat} {tmps:Array Value} {asg body:Code} (ho:ops[i]? = some o)
  (hw:Region.wanted o (yielded ops a.tmps)=true) (hd:∀ c,o.op≠.defer c) (hr:(execOp a.eval o).run P w=.ok (.round l g tmps asg body) w') :
  step P (lone (b.atR a (.inRegion ops (i::rest)::k)) cs w)=.next (lone (Frame.round l g tmps asg body .normal) (b.atR a (.inRegion ops (i::rest)::k)::cs) w'):=by
 refine step_lone_go ?_
 rw [stepGR_op ho hw,Oper.semAt_eq _ _ _ hd]
 simp [stepG.apply,Sem.runT_eq,hr,GStep.bare_after,Frame.atR]
theorem symOp_defer (c:Call) (T:List (Nat×SV)):symOp cc H T (.defer c)=.bad 117:=rfl
end
end Go.Sx
