/- A symbolic executor: frames, and one step of the machine. -/
import Derived.Test.YtfgdpkceoadgjaaSxH
import Derived.AtR
import Derived.RangeFuncNested
import Derived.RangeFuncLeaves
namespace Go.Sx
set_option linter.unusedSectionVars false
set_option linter.unusedVariables false
set_option linter.unusedSimpArgs false
open Go.RowKit
inductive It where
 | code (c:Code)
 | inBlock (id:Nat)
 | inLoop (c:Code)
 | inScope (c:Code)
 | inRegion (ops:Array Oper) (todo:List Nat)
 | inRangeFunc (l:Nat)
 | endRangeFunc (l:Nat)
 | beginRound
structure Fr where
 fn:FuncId
 nt:Nat
 tm:List (Nat×SV)
 todo:List It
 df:List Nat
 rd:Option Nat
def It.Is (ρ:Dyn):It→Item→Prop
 | .code c,x=>x=.code c
 | .inBlock id,x=>x=.inBlock id
 | .inLoop c,x=>x=.inLoop c
 | .inScope c,x=>x=.inScope c
 | .inRegion ops l,x=>x=.inRegion ops l
 | .inRangeFunc l,x=>∃ b,ρ.bl l=some b∧x=.inRangeFunc b
 | .endRangeFunc l,x=>∃ b,ρ.bl l=some b∧x=.endRangeFunc b
 | .beginRound,x=>x=.beginRound
def TdRel (ρ:Dyn):List It→List Item→Prop
 | [],k=>k=[]
 | x::l,k=>∃ y r,k=y::r∧x.Is ρ y∧TdRel ρ l r
def DfRel (ρ:Dyn):List Nat→List Deferred→Prop
 | [],k=>k=[]
 | id::l,k=>∃ b r,k={ target:=.collected b,args:=#[] }::r∧ρ.bl id=some b∧DfRel ρ l r
def RdRel (ρ:Dyn):Option Nat→Option Nat→Prop
 | none,r=>r=none
 | some id,r=>∃ b,ρ.bl id=some b∧r=some b
theorem It.is_mono {ρ ρ':Dyn} (h:ρ.Le ρ') {x:It} {y:Item} (hx:x.Is ρ y):x.Is ρ' y:=by
 cases x<;>first | exact hx | (obtain ⟨b,h1,h2⟩:=hx;exact ⟨b,h.bl _ _ h1,h2⟩)
theorem TdRel.mono {ρ ρ':Dyn} (h:ρ.Le ρ'):∀ {l:List It} {k:List Item},TdRel ρ l k→TdRel ρ' l k
 | [],_,e=>e
 | _::_,_,⟨y,r,h1,h2,h3⟩=>⟨y,r,h1,It.is_mono h h2,TdRel.mono h h3⟩
theorem DfRel.mono {ρ ρ':Dyn} (h:ρ.Le ρ'):∀ {l:List Nat} {k:List Deferred},DfRel ρ l k→DfRel ρ' l k
 | [],_,e=>e
 | _::_,_,⟨b,r,h1,h2,h3⟩=>⟨b,r,h1,h.bl _ _ h2,DfRel.mono h h3⟩
theorem RdRel.mono {ρ ρ':Dyn} (h:ρ.Le ρ'):∀ {l:Option Nat} {k:Option Nat},RdRel ρ l k→RdRel ρ' l k
 | none,_,e=>e
 | some _,_,⟨b,h1,h2⟩=>⟨b,h.bl _ _ h1,h2⟩
def bF (fn:FuncId) (ro:Option Nat):Frame:={ (default:Frame) with fn,kind:=.normal,roundOf:=ro }
structure FrRel (σ:Sta) (ρ:Dyn) (s:Fr) (fr:Frame) (tmps:Array Value) (df:List Deferred) (k:List Item) (ro:Option Nat):Prop where
 eq:fr=(bF s.fn ro).atR { tmps:=tmps,defers:=df } k
 tm:TmRel σ ρ s.nt s.tm tmps
 todo:TdRel ρ s.todo k
 df:DfRel ρ s.df df
 rd:RdRel ρ s.rd ro
def FrIs (σ:Sta) (ρ:Dyn) (s:Fr) (fr:Frame):Prop:=∃ tmps df k ro,FrRel σ ρ s fr tmps df k ro
theorem FrIs.mono {σ:Sta} {ρ ρ':Dyn} (h:ρ.Le ρ') {s:Fr} {fr:Frame}:FrIs σ ρ s fr→FrIs σ ρ' s fr:=
 fun ⟨a,b,c,d,e⟩=>⟨a,b,c,d,e.eq,e.tm.mono h,e.todo.mono h,e.df.mono h,e.rd.mono h⟩
def FsRel (σ:Sta) (ρ:Dyn):List Fr→List Frame→Prop
 | [],l=>l=[]
 | s::r,l=>∃ f t,l=f::t∧FrIs σ ρ s f∧FsRel σ ρ r t
theorem FsRel.mono {σ:Sta} {ρ ρ':Dyn} (h:ρ.Le ρ'):∀ {s:List Fr} {l:List Frame},FsRel σ ρ s l→FsRel σ ρ' s l
 | [],_,e=>e
 | _::_,_,⟨f,t,h1,h2,h3⟩=>⟨f,t,h1,h2.mono h,FsRel.mono h h3⟩
noncomputable def exitS (id:Nat) (k:List It):Option (List It):=
 List.rec (motive:=fun _=>Option (List It)) none (fun x r ih=>match x with
  | .inBlock id'=>bif Nat.beq id' id then some r else ih
  | _=>ih) k
theorem exitS_ok {ρ:Dyn} {id:Nat}:∀ {k:List It} {K:List Item},TdRel ρ k K→
  (∀ k',exitS id k=some k'→∃ K',exitTo id K=some K'∧TdRel ρ k' K')∧(exitS id k=none→exitTo id K=none)
 | [],_,h=>by cases h;exact ⟨(fun _ e=>by cases e),(fun _=>rfl)⟩
 | x::k,_,⟨y,r,h1,h2,h3⟩=>by
   subst h1
   have ih:=exitS_ok (id:=id) h3
   cases x
   case inBlock id'=>
    have h2':y=.inBlock id':=h2
    subst h2'
    have e:exitS id (.inBlock id'::k)=(bif Nat.beq id' id then some k else exitS id k):=rfl
    rw [e]
    cases hb:Nat.beq id' id with
    | true=>
      have:=Nat.eq_of_beq_eq_true hb;subst this
      refine ⟨fun k' hk=>?_,fun hk=>by cases hk⟩
      cases hk
      exact ⟨r,by simp [exitTo],h3⟩
    | false=>
      have hne:id'≠id:=fun e=>by subst e;simp at hb
      simp only [cond_false]
      have e2:exitTo id (.inBlock id'::r)=exitTo id r:=by simp [exitTo,hne]
      rw [e2];exact ih
   all_goals
    first
     | (have h2':y=_:=h2;subst h2';exact ih)
     | (obtain ⟨b,_,h2'⟩:=h2;subst h2';exact ih)
noncomputable def gotoS (l:Nat) (k:List It):Option (List It):=
 List.rec (motive:=fun _=>Option (List It)) none (fun x r ih=>match x with
  | .inScope body=>match findLabel body l with
    | some c=>some (.code c::.inScope body::r)
    | none=>ih
  | _=>ih) k
theorem gotoS_ok {ρ:Dyn} {l:Nat}:∀ {k:List It} {K:List Item},TdRel ρ k K→
  (∀ k',gotoS l k=some k'→∃ K',gotoIn l K=some K'∧TdRel ρ k' K')∧(gotoS l k=none→gotoIn l K=none)
 | [],_,h=>by cases h;exact ⟨(fun _ e=>by cases e),(fun _=>rfl)⟩
 | x::k,_,⟨y,r,h1,h2,h3⟩=>by
   subst h1
   have ih:=gotoS_ok (l:=l) h3
   cases x
   case inScope body=>
    have h2':y=.inScope body:=h2
    subst h2'
    have e:gotoS l (.inScope body::k)=(match findLabel body l with | some c=>some (.code c::.inScope body::k) | none=>gotoS l k):=rfl
    rw [e]
    cases hf:findLabel body l with
    | some c=>
      refine ⟨fun k' hk=>?_,fun hk=>by cases hk⟩
      cases hk
      exact ⟨_,by simp only [gotoIn,hf],_,_,rfl,rfl,_,_,rfl,rfl,h3⟩
    | none=>
      have e2:gotoIn l (.inScope body::r)=gotoIn l r:=by simp only [gotoIn,hf]
      rw [e2];exact ih
   all_goals
    first
     | (have h2':y=_:=h2;subst h2';exact ih)
     | (obtain ⟨b,_,h2'⟩:=h2;subst h2';exact ih)
inductive Sp where
 | go (f:Fr) (fs:List Fr) (H:Hp)
 | par (x:Fr×List Fr×Hp) (l:List (Fr×List Fr×Hp))
 | done (z:SV) (H:Hp)
 | ask (p:SB)
 | bad (why:Nat)
structure Ends (P:Program) (m:Machine) (cs:List Frame) (fn:FuncId) (plain:Bool) (u:Value) (w':World):Prop where
 ret:plain=true→∃ fr,Steps P m (lone fr cs w')∧fr.fn=fn∧fr.leaving P w' (.returned u)
 fin:∀ c t,cs=c::t→Steps P m (lone (c.finish u) t w')
theorem Ends.of_steps {P:Program} {m m₁:Machine} {cs:List Frame} {fn:FuncId} {plain:Bool} {u:Value} {w':World} (h:Steps P m m₁) (k:Ends P m₁ cs fn plain u w'):Ends P m cs fn plain u w':=
 ⟨fun e=>let ⟨fr,h1,h2⟩:=k.ret e;⟨fr,h.trans h1,h2⟩,fun c t e=>h.trans (k.fin c t e)⟩
def botOf (f:Fr) (fs:List Fr):FuncId×Bool:=match fs.getLast? with | some g=>(g.fn,g.rd.isNone) | none=>(f.fn,f.rd.isNone)
theorem botOf_upd {f f':Fr} (fs:List Fr) (h1:f'.fn=f.fn) (h2:f'.rd=f.rd):botOf f' fs=botOf f fs:=by
 unfold botOf;cases fs.getLast? <;> simp [h1,h2]
theorem botOf_push (f g:Fr) (fs:List Fr):botOf g (f::fs)=botOf f fs:=by
 unfold botOf
 cases fs with
 | nil=>rfl
 | cons a l=>
   rw [List.getLast?_cons_cons]
   cases hx:(a::l).getLast? with
   | some g=>rfl
   | none=>simp at hx
theorem botOf_pop (f g g':Fr) (fs:List Fr) (h1:g'.fn=g.fn) (h2:g'.rd=g.rd):botOf g' fs=botOf f (g::fs):=by
 rw [botOf_push g f fs];exact botOf_upd fs h1 h2
def Sat (C:Ct) (hc:Nat→Option Obj) (w0:World) (cs:List Frame) (ρ:Dyn) (f:Fr) (fs:List Fr) (H:Hp) (m:Machine):Prop:=
 ∃ fr frs w,m=lone fr (frs++cs) w∧FrIs C.σ ρ f fr∧FsRel C.σ ρ fs frs∧HpRel C hc w0 ρ H w
def Sp.Ok (cc:Cc) (C:Ct) (hc:Nat→Option Obj) (w0:World) (cs:List Frame) (ρ:Dyn) (f:Fr) (fs:List Fr) (H:Hp) (m:Machine):Sp→Prop
 | .par x l=>∃ y∈x::l,∃ ρ' m',Tn ρ H m.world ρ' y.2.2 m'.world∧Steps cc.P m m'∧Sat C hc w0 cs ρ' y.1 y.2.1 y.2.2 m'∧botOf y.1 y.2.1=botOf f fs
 | .go f' fs' H'=>∃ ρ' m',Tn ρ H m.world ρ' H' m'.world∧Steps cc.P m m'∧Sat C hc w0 cs ρ' f' fs' H' m'∧botOf f' fs'=botOf f fs
 | .done z H'=>∃ ρ' u w',Tn ρ H m.world ρ' H' w'∧Ends cc.P m cs (botOf f fs).1 (botOf f fs).2 u w'∧z.Is C.σ ρ' u∧HpRel C hc w0 ρ' H' w'
 | .ask p=>∃ b,p.den C.σ ρ=some b
 | .bad _=>True
section
variable {cc:Cc} {C:Ct} {hc:Nat→Option Obj} {w0:World} {cs:List Frame} {ρ ρ':Dyn} {f:Fr} {fs:List Fr} {H:Hp} {w:World}
theorem Sp.ok_todo {fr:Frame} {frs:List Frame} {tmps:Array Value} {df:List Deferred} {k:List Item} {ro:Option Nat} (hf:FrRel C.σ ρ f fr tmps df k ro) (hfs:FsRel C.σ ρ fs frs) (hh:HpRel C hc w0 ρ H w)
  {todo:List It} {k':List Item} (hk:TdRel ρ todo k') (hs:Steps cc.P (lone fr (frs++cs) w) (lone ((bF f.fn ro).atR { tmps:=tmps,defers:=df } k') (frs++cs) w)) :
  (Sp.go { f with todo:=todo } fs H).Ok cc C hc w0 cs ρ f fs H (lone fr (frs++cs) w):=
 ⟨ρ,_,(by exact Tn.refl ρ H w),hs,⟨_,frs,w,rfl,⟨tmps,df,k',ro,rfl,hf.tm,hk,hf.df,hf.rd⟩,hfs,hh⟩,botOf_upd fs rfl rfl⟩
noncomputable def finS (f:Fr) (z:SV):Option Fr:=
 match f.todo with
 | .inRegion ops (i::rest)::k=>match ops[i]? with
   | some o=>match o.dst with
     | some d=>bif Nat.blt d f.nt then some { f with tm:=(d,z)::f.tm,todo:=.inRegion ops rest::k } else none
     | none=>some { f with todo:=.inRegion ops rest::k }
   | none=>none
 | .inRangeFunc l::k=>some { f with todo:=.endRangeFunc l::k }
 | _=>none
theorem finS_ok {f f':Fr} {z:SV} {u:Value} {fr:Frame} (hf:FrIs C.σ ρ f fr) (hz:z.Is C.σ ρ u) (h:finS f z=some f'):FrIs C.σ ρ f' (fr.finish u)∧f'.fn=f.fn∧f'.rd=f.rd:=by
 obtain ⟨tmps,df,k,ro,he,ht,htd,hd,hr⟩:=hf
 unfold finS at h
 split at h
 ·rename_i ops i rest kk hto
  rw [hto] at htd
  obtain ⟨y,r,rfl,h1,h2⟩:=htd
  have h1':y=.inRegion ops (i::rest):=h1
  subst h1'
  split at h
  ·rename_i o ho
   have hfin:fr.finish u=(bF f.fn ro).atR (({ tmps:=tmps,defers:=df }:Act).put o.dst u) (.inRegion ops rest::r):=by
    rw [he,Frame.finish_atR,ho];rfl
   split at h
   ·rename_i d hdst
    cases hb:Nat.blt d f.nt with
    | false=>rw [hb] at h;cases h
    | true=>
      rw [hb] at h;cases h
      have hlt:d < f.nt:=by simpa using hb
      refine ⟨⟨tmps.setIfInBounds d u,df,.inRegion ops rest::r,ro,?_,ht.set hlt hz,⟨_,_,rfl,rfl,h2⟩,hd,hr⟩,rfl,rfl⟩
      rw [hfin,hdst];rfl
   ·rename_i hdst
    cases h
    refine ⟨⟨tmps,df,.inRegion ops rest::r,ro,?_,ht,⟨_,_,rfl,rfl,h2⟩,hd,hr⟩,rfl,rfl⟩
    rw [hfin,hdst];rfl
  ·cases h
 ·rename_i l kk hto
  cases h
  rw [hto] at htd
  obtain ⟨y,r,rfl,⟨b,hb,rfl⟩,h2⟩:=htd
  refine ⟨⟨tmps,df,.endRangeFunc b::r,ro,?_,ht,⟨_,_,rfl,⟨b,hb,rfl⟩,h2⟩,hd,hr⟩,rfl,rfl⟩
  rw [he,finish_atR_inRangeFunc]
 ·cases h
noncomputable def popS (fs:List Fr) (z:SV) (H:Hp):Sp:=
 match fs with
 | []=>.done z H
 | c::t=>match finS c z with
   | some c'=>.go c' t H
   | none=>.bad 200
theorem popS_ok {m:Machine} {frs:List Frame} {z:SV} {u:Value} {w':World} {H':Hp} (hh:HpRel C hc w0 ρ H m.world) (ht:Tn ρ H m.world ρ' H' w') (hfs:FsRel C.σ ρ fs frs) (hz:z.Is C.σ ρ' u) (hh':HpRel C hc w0 ρ' H' w')
  (hend:Ends cc.P m (frs++cs) f.fn f.rd.isNone u w'):(popS fs z H').Ok cc C hc w0 cs ρ f fs H m:=by
 unfold popS
 split
 ·cases hfs
  exact ⟨ρ',u,w',ht,hend,hz,hh'⟩
 ·rename_i c t
  obtain ⟨c0,t0,rfl,h1,h2⟩:=hfs
  have hle:=Dyn.Ag.le hh ht.ag
  split
  ·rename_i c' hc'
   obtain ⟨h3,h4,h5⟩:=finS_ok (h1.mono hle) hz hc'
   exact ⟨ρ',_,(by exact ht),hend.fin c0 (t0++cs) rfl,⟨_,t0,w',rfl,h3,h2.mono hle,hh'⟩,botOf_pop f c c' t h4 h5⟩
  ·trivial
theorem HpRel.put' (h:HpRel C hc w0 ρ H w) {id b:Nat} {bk bk':Bk} (hg:get H.heap id=some bk) (hl:bk.live=true) (hb:ρ.bl id=some b) {o o':Obj} (hw:w.heap[b]? = some o) (hl':bk'.live=true) (ho:bk'.Is C.σ ρ o') :
  HpRel C hc w0 ρ (H.put id bk') (w.putObj b o'):=by
 have hlt:b < w.heap.size:=(Array.getElem?_eq_some_iff.1 hw).1
 exact h.put hg hl hb hl' ho (fun i hi=>World.putObj_heap_other hi) (World.putObj_heap_same hlt) (by simp [World.putObj]) rfl rfl rfl
theorem Tn.of_putObj {id b:Nat} {bk:Bk} {o:Obj} (hb:ρ.bl id=some b):Tn ρ H w ρ (H.put id bk) (w.putObj b o):=
 Tn.of_put hb (fun i hi=>World.putObj_heap_other hi) (by simp [World.putObj])
noncomputable def takeS (l:List Nat):Hp→Option Hp:=
 List.rec (motive:=fun _=>Hp→Option Hp) (fun H=>some H) (fun id _ ih H=>match get H.heap id with
  | some .dfr=>ih (H.put id .dfn)
  | _=>none) l
theorem takeS_ok {fr:Frame} (hm:fr.mode=.returning):∀ {l:List Nat} {ds:List Deferred} {H H':Hp} {w:World} {cs:List Frame},HpRel C hc w0 ρ H w→DfRel ρ l ds→takeS l H=some H'→
  ∃ w',Steps cc.P (lone { fr with defers:=ds } cs w) (lone { fr with defers:=[] } cs w')∧HpRel C hc w0 ρ H' w'∧Tn ρ H w ρ H' w'
 | [],ds,H,H',w,cs,hh,hd,h=>by
   cases hd
   have h':some H=some H':=h
   cases h'
   exact ⟨w,.refl _ _,hh,Tn.refl ρ H w⟩
 | id::l,ds,H,H',w,cs,hh,hd,h=>by
   obtain ⟨b,r,rfl,h1,h2⟩:=hd
   have h':(match get H.heap id with
    | some .dfr=>takeS l (H.put id .dfn)
    | _=>none)=some H':=h
   split at h'
   ·rename_i hg
    obtain ⟨b',o,e1,e2,e3⟩:=hh.blk id _ hg rfl
    rw [h1] at e1;cases e1
    have e3':o=.deferred (some []):=e3
    subst e3'
    have hput:=hh.put' hg rfl h1 e2 (bk':=.dfn) (o':=.deferred none) rfl rfl
    obtain ⟨w',s1,s2,s3⟩:=takeS_ok (cs:=cs) hm hput h2 h'
    refine ⟨w',Steps.head ?_ s1,s2,(Tn.of_putObj h1).trans s3⟩
    exact step_collected (fr:={ fr with defers:={ target:=.collected b,args:=#[] }::r }) (by simp [hm]) rfl rfl (run_takeDeferred e2)
   ·cases h'
noncomputable def resE (cc:Cc) (H:Hp) (T:List (Nat×SV)) (r:ResultVar):Option SV:=
 match r with
 | .tmp t=>get T t
 | .cell a t=>match get T a with
   | some (.pt r o)=>lodV cc H t r o
   | _=>none
noncomputable def resS (cc:Cc) (H:Hp) (T:List (Nat×SV)) (l:List ResultVar):Option (List SV):=
 List.rec (motive:=fun _=>Option (List SV)) (some []) (fun r _ ih=>match resE cc H T r,ih with
  | some z,some rest=>some (z::rest)
  | _,_=>none) l
noncomputable def valS (l:List SV):SV:=match l with | [z]=>z | l=>.tp l
theorem resE_ok (hcc:cc.Ok C) (hh:HpRel C hc w0 ρ H w) {nt:Nat} {T:List (Nat×SV)} {tmps:Array Value} (ht:TmRel C.σ ρ nt T tmps) {r:ResultVar} {z:SV} (h:resE cc H T r=some z) :
  ∃ u,((fun | .tmp t=>pure (tmps.getD t undef) | .cell a t=>do loadVar t (← asAddr (tmps.getD a undef)):ResultVar→Sem Value) r).run cc.P w=.ok u w∧z.Is C.σ ρ u:=by
 cases r with
 | tmp t=>exact ⟨tmps.getD t undef,rfl,ht.get t z h⟩
 | cell a t=>
   simp only [resE] at h
   split at h
   ·rename_i rr o hz
    have h3:=ht.get a _ hz
    simp only [SV.Is] at h3
    obtain ⟨b,k,e3,e4,e5⟩:=h3
    obtain ⟨u,e6,e7⟩:=lodV_ok hcc hh e3 e4 h
    exact ⟨u,by simp only [e5,asAddr,Sem.run_bind,Sem.run_pure,Result.andThen_ok,e6],e7⟩
   ·cases h
theorem resS_ok (hcc:cc.Ok C) (hh:HpRel C hc w0 ρ H w) {nt:Nat} {T:List (Nat×SV)} {tmps:Array Value} (ht:TmRel C.σ ρ nt T tmps):∀ {l:List ResultVar} {zs:List SV},resS cc H T l=some zs→
  ∃ us,(l.mapM (fun | .tmp t=>pure (tmps.getD t undef) | .cell a t=>do loadVar t (← asAddr (tmps.getD a undef)):ResultVar→Sem Value)).run cc.P w=.ok us w∧SV.IsL C.σ ρ zs us:=by
 intro l
 induction l with
 | nil=>
   intro zs h
   have h':some []=some zs:=h
   cases h'
   exact ⟨[],by simp,SV.isL_nil.2 rfl⟩
 | cons r l ih=>
   intro zs h
   have h':(match resE cc H T r,resS cc H T l with
    | some z,some rest=>some (z::rest)
    | _,_=>none)=some zs:=h
   split at h'
   ·rename_i z rest hz hrest
    cases h'
    obtain ⟨us,e1,e2⟩:=ih hrest
    obtain ⟨u,e3,e4⟩:=resE_ok hcc hh ht hz
    exact ⟨u::us,by simp only [List.mapM_cons,Sem.run_bind,e3,Result.andThen_ok,e1,Sem.run_pure],SV.isL_cons.2 ⟨_,_,rfl,e4,e2⟩⟩
   ·cases h'
theorem results_ok (hcc:cc.Ok C) (hh:HpRel C hc w0 ρ H w) {nt:Nat} {T:List (Nat×SV)} {tmps:Array Value} (ht:TmRel C.σ ρ nt T tmps) {fn:Func} {zs:List SV} (h:resS cc H T fn.results.toList=some zs) :
  ∃ u,(results fn tmps).run cc.P w=.ok u w∧(valS zs).Is C.σ ρ u:=by
 obtain ⟨us,e1,e2⟩:=resS_ok hcc hh ht h
 have e3:(fn.results.mapM (fun | .tmp t=>pure (tmps.getD t undef) | .cell a t=>do loadVar t (← asAddr (tmps.getD a undef)):ResultVar→Sem Value)).run cc.P w=.ok us.toArray w:=by
  rw [Array.mapM_eq_mapM_toList]
  simp only [Sem.run_map,e1,Result.andThen_ok]
 have e5:(results fn tmps).run cc.P w=.ok (if h:us.toArray.size=1 then us.toArray[0] else .tuple us.toArray) w:=by
  have e6:results fn tmps=(fn.results.mapM (fun | .tmp t=>pure (tmps.getD t undef) | .cell a t=>do loadVar t (← asAddr (tmps.getD a undef)):ResultVar→Sem Value)) >>= (fun vs=>pure (if h:vs.size=1 then vs[0] else .tuple vs)):=rfl
  rw [e6,Sem.run_bind,e3]
  rfl
 refine ⟨_,e5,?_⟩
 unfold valS
 split
 ·rename_i z
  obtain ⟨u,rfl,hu⟩:=isL_one e2
  simpa using hu
 ·rename_i hne
  have hlen:=SV.isL_length e2
  have:¬ us.toArray.size=1:=by
   intro hs
   simp only [List.size_toArray] at hs
   rw [hlen] at hs
   obtain ⟨z,hz⟩:=List.length_eq_one_iff.1 hs
   exact hne z hz
  rw [dif_neg this]
  simp only [SV.Is]
  exact ⟨us,e2,rfl⟩
noncomputable def leaveS (cc:Cc) (f:Fr) (fs:List Fr) (H:Hp) (jump:Option Code):Sp:=
 match f.rd with
 | none=>match jump with
   | none | some .ret=>match takeS f.df H,cc.P.funcs[f.fn]? with
     | some H',some fn=>match resS cc H' f.tm fn.results.toList with
       | some zs=>popS fs (valS zs) H'
       | none=>.bad 201
     | _,_=>.bad 202
   | _=>.bad 203
 | some l=>match get H.heap l with
   | some (.loop _ _ fn nt tm ps asg body df)=>match jump with
     | none=>popS fs (.bo (.c true)) (H.put l (.loop .ready none fn nt tm ps asg body df))
     | some j=>popS fs (.bo (.c false)) (H.put l (.loop .done (some j) fn nt tm ps asg body df))
   | _=>.bad 204
def LeavesBy (P:Program) (fr:Frame) (l:Nat) (jump:Option Code):Prop:=
 ∀ (c:Frame) (t:List Frame) (w:World) (v:Value) (w':World),(Instr.endRound l jump).run P w=.ok v w'→step P (lone fr (c::t) w)=.next (lone (c.finish v) t w')
theorem leaveS_ok (hcc:cc.Ok C) {fr:Frame} {frs:List Frame} {tmps:Array Value} {df:List Deferred} {k:List Item} {ro:Option Nat} (hf:FrRel C.σ ρ f fr tmps df k ro) (hfs:FsRel C.σ ρ fs frs) (hh:HpRel C hc w0 ρ H w) {jump:Option Code}
  (hn:f.rd=none→(jump=none∨jump=some .ret)→Steps cc.P (lone fr (frs++cs) w) (lone { fr with mode:=.returning } (frs++cs) w))
  (hr:∀ l b,f.rd=some l→ρ.bl l=some b→LeavesBy cc.P fr b jump) :
  (leaveS cc f fs H jump).Ok cc C hc w0 cs ρ f fs H (lone fr (frs++cs) w):=by
 have normal:f.rd=none→(jump=none∨jump=some .ret)→(match takeS f.df H,cc.P.funcs[f.fn]? with
   | some H',some fn=>match resS cc H' f.tm fn.results.toList with
     | some zs=>popS fs (valS zs) H'
     | none=>.bad 201
   | _,_=>.bad 202:Sp).Ok cc C hc w0 cs ρ f fs H (lone fr (frs++cs) w):=by
  intro hrd hj
  split
  ·rename_i H' fn htk hfn
   split
   ·rename_i zs hzs
    have s0:=hn hrd hj
    have hfr:({ fr with mode:=.returning }:Frame)={ ({ fr with mode:=.returning }:Frame) with defers:=df }:=by rw [hf.eq];rfl
    rw [hfr] at s0
    obtain ⟨w',s1,h1,h2⟩:=takeS_ok (cc:=cc) (fr:={ fr with mode:=.returning }) (cs:=frs++cs) rfl hh hf.df htk
    obtain ⟨u,e1,e2⟩:=results_ok hcc h1 hf.tm hzs
    have hleave:Frame.leaving cc.P ({ ({ fr with mode:=.returning }:Frame) with defers:=[] }) w' (.returned u):=by
     refine ⟨rfl,rfl,?_,fn,?_,?_⟩
     ·rw [hf.eq];rfl
     ·rw [hf.eq];exact hfn
     ·rw [hf.eq];exact e1
    refine popS_ok hh h2 hfs e2 h1 ⟨fun _=>⟨_,s0.trans s1,by rw [hf.eq];rfl,hleave⟩,fun c t hct=>?_⟩
    have s2:=s0.trans s1
    rw [hct] at s2 ⊢
    exact s2.trans (.one (step_leave_returned hleave))
   ·trivial
  ·trivial
 unfold leaveS
 split
 ·rename_i hrd
  split
  ·exact normal hrd (.inl rfl)
  ·exact normal hrd (.inr rfl)
  ·trivial
 ·rename_i l hrd
  split
  ·rename_i st pd fn nt tm ps asg body dfb hg
   obtain ⟨b,o,e1,e2,tmps',d,e3,e4,rfl⟩:=hh.blk l _ hg rfl
   have hl:=hr l b hrd e1
   have ends:∀ v w',(Instr.endRound b jump).run cc.P w=.ok v w'→Ends cc.P (lone fr (frs++cs) w) (frs++cs) f.fn f.rd.isNone v w':=fun v w' he=>
    ⟨fun h=>(by rw [hrd] at h;cases h),fun c t hct=>by rw [hct];exact .one (hl c t w v w' he)⟩
   split
   ·have he:=run_endRound (P:=cc.P) none e2
    have hput:=hh.put' hg rfl e1 e2 (bk':=.loop .ready none fn nt tm ps asg body dfb) (o':=.loop { state:=.ready,pending:=none,fn,tmps:=tmps',params:=ps,assign:=asg,body,defers:=d }) rfl ⟨tmps',d,e3,e4,rfl⟩
    exact popS_ok hh (Tn.of_putObj e1) hfs (by simp only [SV.Is];exact ⟨true,rfl,rfl⟩) hput (ends _ _ he)
   ·rename_i j
    have he:=run_endRound (P:=cc.P) (some j) e2
    have hput:=hh.put' hg rfl e1 e2 (bk':=.loop .done (some j) fn nt tm ps asg body dfb) (o':=.loop { state:=.done,pending:=some j,fn,tmps:=tmps',params:=ps,assign:=asg,body,defers:=d }) rfl ⟨tmps',d,e3,e4,rfl⟩
    exact popS_ok hh (Tn.of_putObj e1) hfs (by simp only [SV.Is];exact ⟨false,rfl,rfl⟩) hput (ends _ _ he)
  ·trivial
end
end Go.Sx
