/- A symbolic executor: frames, and one step of the machine. -/
import Derived.Test.YtfailpbjhlhhiaaGreatSxH
import Derived.AtR
import Derived.RangeFuncNested
import Derived.RangeFuncLeaves
import Derived.Defers
import Derived.Recover
namespace Go.Sx
noncomputable section
set_option linter.unusedVariables false
set_option linter.unusedSimpArgs false
open Go.RowKit
inductive It where
 | code (c:Code)
 | inBlock (id:Nat)
 | inLoop (c:Code)
 | inScope (c:Code)
 | inRegion (ops:Array Oper) (todo:List Nat)
 | inRangeFunc (l:Nat)
 | endRangeFunc (l:Nat)
 | beginRound
 | dfd
 | dc (g:FuncId) (a c:List SV)
 | mdR
 | mdP (v:SV) (r:Bool)
structure Fr where
 fn:FuncId
 nt:Nat
 tm:List (Nat×SV)
 todo:List It
 df:List Nat
 rd:Option Nat
def It.Is (ρ:Dyn):It→Item→Prop
 | .code c,x=>x=.code c
 | .inBlock id,x=>x=.inBlock id
 | .inLoop c,x=>x=.inLoop c
 | .inScope c,x=>x=.inScope c
 | .inRegion ops l,x=>x=.inRegion ops l
 | .inRangeFunc l,x=>∃ b,ρ.bl l=some b∧x=.inRangeFunc b
 | .endRangeFunc l,x=>∃ b,ρ.bl l=some b∧x=.endRangeFunc b
 | .beginRound,x=>x=.beginRound
 | _,_=>False
def TdRel (ρ:Dyn):List It→List Item→Prop
 | [],k=>k=[]
 | .dfd::l,k=>k=[]∧TdRel ρ l []
 | .dc _ _ _::l,k=>k=[]∧TdRel ρ l []
 | .mdR::_,_=>False
 | .mdP _ _::_,_=>False
 | x::l,k=>∃ y r,k=y::r∧x.Is ρ y∧TdRel ρ l r
def It.vt:It→Bool
 | .dfd=>true
 | .dc _ _ _=>true
 | .mdR=>true
 | .mdP _ _=>true
 | _=>false
theorem TdRel.real {ρ:Dyn} {x:It} {l:List It} {k:List Item} (hx:x.vt=false):TdRel ρ (x::l) k↔∃ y r,k=y::r∧x.Is ρ y∧TdRel ρ l r:=by
 cases x<;>first | exact Iff.rfl | cases hx
def kdOf (l:List It):CallKind:=List.rec (motive:=fun _=>CallKind) .normal (fun x _ ih=>match x with | .dfd=>.deferred | _=>ih) l
def dcsOf (l:List It):List It:=List.rec (motive:=fun _=>List It) [] (fun x r ih=>match x with | .dc _ _ _=>x::ih | _=>ih) l
def DcRel (σ:Sta) (ρ:Dyn):List It→List Deferred→Prop
 | [],k=>k=[]
 | .dc g a c::l,k=>∃ as cp r,k={ target:=.fn (.func g) (List.toArray cp),args:=List.toArray as }::r∧SV.IsL σ ρ a as∧SV.IsL σ ρ c cp∧DcRel σ ρ l r
 | _::l,k=>DcRel σ ρ l k
theorem DcRel.skip {σ:Sta} {ρ:Dyn} {x:It} {l:List It} {k:List Deferred} (hx:∀ g a c,x≠.dc g a c):DcRel σ ρ (x::l) k↔DcRel σ ρ l k:=by
 cases x<;>first | exact Iff.rfl | exact absurd rfl (hx _ _ _)
theorem DcRel.dcsOf {σ:Sta} {ρ:Dyn}:∀ {l:List It} {k:List Deferred},DcRel σ ρ l k↔DcRel σ ρ (dcsOf l) k
 | [],_=>Iff.rfl
 | x::l,k=>by
   cases x
   case dc g a c=>
    show (∃ as cp r,_∧_∧_∧_)↔(∃ as cp r,_∧_∧_∧_)
    constructor<;>rintro ⟨as,cp,r,h1,h2,h3,h4⟩<;>exact ⟨as,cp,r,h1,h2,h3,by first | exact DcRel.dcsOf.1 h4 | exact DcRel.dcsOf.2 h4⟩
   all_goals exact DcRel.dcsOf (l:=l)
theorem DcRel.mono {σ:Sta} {ρ ρ':Dyn} (h:ρ.Le ρ'):∀ {l:List It} {k:List Deferred},DcRel σ ρ l k→DcRel σ ρ' l k
 | [],_,e=>e
 | x::l,k,hk=>by
   cases x
   case dc g a c=>
    obtain ⟨as,cp,r,h1,h2,h3,h4⟩:=hk
    exact ⟨as,cp,r,h1,SV.isL_mono h _ _ h2,SV.isL_mono h _ _ h3,DcRel.mono h h4⟩
   all_goals exact DcRel.mono h (l:=l) hk
def vr (l:List It):List It:=List.rec (motive:=fun _=>List It) [] (fun x _ ih=>match x with | .dfd=>.dfd::ih | .dc g a c=>.dc g a c::ih | _=>ih) l
theorem kdOf_vr:∀ l:List It,kdOf (vr l)=kdOf l
 | []=>rfl
 | x::l=>by
   cases x
   case dfd=>rfl
   case dc g a c=>exact kdOf_vr l
   all_goals exact kdOf_vr l
theorem DcRel.vr {σ:Sta} {ρ:Dyn}:∀ {l:List It} {k:List Deferred},DcRel σ ρ (Go.Sx.vr l) k↔DcRel σ ρ l k
 | [],_=>Iff.rfl
 | x::l,k=>by
   cases x
   case dc g a c=>
    show (∃ as cp r,_∧_∧_∧_)↔(∃ as cp r,_∧_∧_∧_)
    constructor<;>rintro ⟨as,cp,r,h1,h2,h3,h4⟩<;>exact ⟨as,cp,r,h1,h2,h3,by first | exact DcRel.vr.1 h4 | exact DcRel.vr.2 h4⟩
   all_goals exact DcRel.vr (l:=l)
def DfRel (ρ:Dyn):List Nat→List Deferred→Prop
 | [],k=>k=[]
 | id::l,k=>∃ b r,k={ target:=.collected b,args:=#[] }::r∧ρ.bl id=some b∧DfRel ρ l r
def RdRel (ρ:Dyn):Option Nat→Option Nat→Prop
 | none,r=>r=none
 | some id,r=>∃ b,ρ.bl id=some b∧r=some b
theorem It.is_mono {ρ ρ':Dyn} (h:ρ.Le ρ') {x:It} {y:Item} (hx:x.Is ρ y):x.Is ρ' y:=by
 cases x<;>first | exact hx | (obtain ⟨b,h1,h2⟩:=hx;exact ⟨b,h.bl _ _ h1,h2⟩)
theorem TdRel.mono {ρ ρ':Dyn} (h:ρ.Le ρ'):∀ {l:List It} {k:List Item},TdRel ρ l k→TdRel ρ' l k
 | [],_,e=>e
 | x::l,k,hk=>by
   cases hv:x.vt with
   | false=>
     obtain ⟨y,r,h1,h2,h3⟩:=(TdRel.real hv).1 hk
     exact (TdRel.real hv).2 ⟨y,r,h1,It.is_mono h h2,TdRel.mono h h3⟩
   | true=>
     cases x
     case dfd=>exact ⟨hk.1,TdRel.mono h hk.2⟩
     case dc=>exact ⟨hk.1,TdRel.mono h hk.2⟩
     case mdR=>exact hk
     case mdP=>exact hk
     all_goals cases hv
theorem DfRel.mono {ρ ρ':Dyn} (h:ρ.Le ρ'):∀ {l:List Nat} {k:List Deferred},DfRel ρ l k→DfRel ρ' l k
 | [],_,e=>e
 | _::_,_,⟨b,r,h1,h2,h3⟩=>⟨b,r,h1,h.bl _ _ h2,DfRel.mono h h3⟩
theorem RdRel.mono {ρ ρ':Dyn} (h:ρ.Le ρ'):∀ {l:Option Nat} {k:Option Nat},RdRel ρ l k→RdRel ρ' l k
 | none,_,e=>e
 | some _,_,⟨b,h1,h2⟩=>⟨b,h.bl _ _ h1,h2⟩
def bF (fn:FuncId) (ro:Option Nat) (kd:CallKind):Frame:={ (default:Frame) with fn,kind:=kd,roundOf:=ro }
def DfR (σ:Sta) (ρ:Dyn) (s:Fr) (df:List Deferred):Prop:=∃ d1 d2,df=d1++d2∧DfRel ρ s.df d1∧DcRel σ ρ s.todo d2
theorem DfR.mono {σ:Sta} {ρ ρ':Dyn} (h:ρ.Le ρ') {s:Fr} {df:List Deferred}:DfR σ ρ s df→DfR σ ρ' s df:=
 fun ⟨a,b,c,d,e⟩=>⟨a,b,c,d.mono h,e.mono h⟩
theorem DfR.upd {σ:Sta} {ρ:Dyn} {s s':Fr} {df:List Deferred} (h:DfR σ ρ s df) (h1:s'.df=s.df) (h2:vr s'.todo=vr s.todo):DfR σ ρ s' df:=by
 obtain ⟨a,b,c,d,e⟩:=h
 exact ⟨a,b,c,by rw [h1];exact d,DcRel.vr.1 (by rw [h2];exact DcRel.vr.2 e)⟩
theorem kdOf_upd {l l':List It} (h:vr l'=vr l):kdOf l'=kdOf l:=by rw [← kdOf_vr l',h,kdOf_vr]
structure FrRel (σ:Sta) (ρ:Dyn) (s:Fr) (fr:Frame) (tmps:Array Value) (df:List Deferred) (k:List Item) (ro:Option Nat):Prop where
 eq:fr=(bF s.fn ro (kdOf s.todo)).atR { tmps:=tmps,defers:=df } k
 tm:TmRel σ ρ s.nt s.tm tmps
 todo:TdRel ρ s.todo k
 df:DfR σ ρ s df
 rd:RdRel ρ s.rd ro
def FrIs (σ:Sta) (ρ:Dyn) (s:Fr) (fr:Frame):Prop:=∃ tmps df k ro,FrRel σ ρ s fr tmps df k ro
theorem FrIs.mono {σ:Sta} {ρ ρ':Dyn} (h:ρ.Le ρ') {s:Fr} {fr:Frame}:FrIs σ ρ s fr→FrIs σ ρ' s fr:=
 fun ⟨a,b,c,d,e⟩=>⟨a,b,c,d,e.eq,e.tm.mono h,e.todo.mono h,e.df.mono h,e.rd.mono h⟩
def MdIs (σ:Sta) (ρ:Dyn):It→FrameMode→Prop
 | .mdR,m=>m=.returning
 | .mdP v r,m=>∃ u,v.Is σ ρ u∧m=.panicking [{ v:=u,recovered:=r }]
 | _,_=>False
structure UR (σ:Sta) (ρ:Dyn) (s:Fr) (l:List It) (fr:Frame):Prop where
 fn:fr.fn=s.fn
 tm:TmRel σ ρ s.nt s.tm fr.tmps
 df:DcRel σ ρ l fr.defers
 kd:fr.kind=.normal
 ro:fr.roundOf=none
 rd:s.rd=none
theorem UR.mono {σ:Sta} {ρ ρ':Dyn} (h:ρ.Le ρ') {s:Fr} {l:List It} {fr:Frame} (u:UR σ ρ s l fr):UR σ ρ' s l fr:=⟨u.fn,u.tm.mono h,u.df.mono h,u.kd,u.ro,u.rd⟩
def FrU (σ:Sta) (ρ:Dyn) (s:Fr) (fr:Frame):Prop:=∃ m l,s.todo=m::l∧s.df=[]∧MdIs σ ρ m fr.mode∧UR σ ρ s l fr
theorem MdIs.mono {σ:Sta} {ρ ρ':Dyn} (h:ρ.Le ρ') {m:It} {x:FrameMode} (hm:MdIs σ ρ m x):MdIs σ ρ' m x:=by
 cases m<;>first | exact hm | (obtain ⟨u,h1,h2⟩:=hm;exact ⟨u,SV.is_mono h _ _ h1,h2⟩) | exact hm.elim
theorem FrU.mono {σ:Sta} {ρ ρ':Dyn} (h:ρ.Le ρ') {s:Fr} {fr:Frame}:FrU σ ρ s fr→FrU σ ρ' s fr:=
 fun ⟨m,l,a,b,c,d⟩=>⟨m,l,a,b,c.mono h,d.mono h⟩
def FuIs (σ:Sta) (ρ:Dyn) (s:Fr) (fr:Frame):Prop:=FrIs σ ρ s fr∨FrU σ ρ s fr
theorem FuIs.mono {σ:Sta} {ρ ρ':Dyn} (h:ρ.Le ρ') {s:Fr} {fr:Frame}:FuIs σ ρ s fr→FuIs σ ρ' s fr:=fun x=>x.elim (fun y=>.inl (y.mono h)) (fun y=>.inr (y.mono h))
theorem MdIs.ne_run {σ:Sta} {ρ:Dyn} {m:It} {x:FrameMode} (hm:MdIs σ ρ m x):x≠.run:=by
 cases m<;>first | exact hm.elim | (rintro rfl;cases hm;done) | (rintro rfl;obtain ⟨u,h1,h2⟩:=hm;cases h2)
def FsRel (σ:Sta) (ρ:Dyn):List Fr→List Frame→Prop
 | [],l=>l=[]
 | s::r,l=>∃ f t,l=f::t∧FuIs σ ρ s f∧FsRel σ ρ r t
theorem FsRel.mono {σ:Sta} {ρ ρ':Dyn} (h:ρ.Le ρ'):∀ {s:List Fr} {l:List Frame},FsRel σ ρ s l→FsRel σ ρ' s l
 | [],_,e=>e
 | _::_,_,⟨f,t,h1,h2,h3⟩=>⟨f,t,h1,h2.mono h,FsRel.mono h h3⟩
def exitS (id:Nat) (k:List It):Option (List It):=
 List.rec (motive:=fun _=>Option (List It)) none (fun x r ih=>match x with
  | .inBlock id'=>bif Nat.beq id' id then some r else ih
  | .dfd=>none
  | .dc _ _ _=>none
  | _=>ih) k
theorem exitS_vr {id:Nat}:∀ {k k':List It},exitS id k=some k'→vr k'=vr k
 | [],_,h=>by cases h
 | x::k,k',h=>by
   cases x
   case inBlock id'=>
    have h':(bif Nat.beq id' id then some k else exitS id k)=some k':=h
    cases hb:Nat.beq id' id with
    | true=>rw [hb] at h';cases h';rfl
    | false=>rw [hb] at h';exact exitS_vr (k:=k) h'
   case dfd=>cases h
   case dc=>cases h
   all_goals exact exitS_vr (k:=k) h
theorem exitS_ok {ρ:Dyn} {id:Nat}:∀ {k:List It} {K:List Item},TdRel ρ k K→
  (∀ k',exitS id k=some k'→∃ K',exitTo id K=some K'∧TdRel ρ k' K')∧(exitS id k=none→exitTo id K=none)
 | [],_,h=>by cases h;exact ⟨(fun _ e=>by cases e),(fun _=>rfl)⟩
 | x::k,K,hk=>by
   cases x
   case dfd=>obtain ⟨rfl,_⟩:=hk;exact ⟨(fun _ e=>by cases e),(fun _=>rfl)⟩
   case dc=>obtain ⟨rfl,_⟩:=hk;exact ⟨(fun _ e=>by cases e),(fun _=>rfl)⟩
   case mdR=>exact hk.elim
   case mdP=>exact hk.elim
   all_goals
    obtain ⟨y,r,rfl,h2,h3⟩:=hk
    have ih:=exitS_ok (id:=id) h3
   case inBlock id'=>
    have h2':y=.inBlock id':=h2
    subst h2'
    have e:exitS id (.inBlock id'::k)=(bif Nat.beq id' id then some k else exitS id k):=rfl
    rw [e]
    cases hb:Nat.beq id' id with
    | true=>
      have:=Nat.eq_of_beq_eq_true hb;subst this
      refine ⟨fun k' hk=>?_,fun hk=>by cases hk⟩
      cases hk
      exact ⟨r,by simp [exitTo],h3⟩
    | false=>
      have hne:id'≠id:=fun e=>by subst e;simp at hb
      simp only [cond_false]
      have e2:exitTo id (.inBlock id'::r)=exitTo id r:=by simp [exitTo,hne]
      rw [e2];exact ih
   all_goals
    first
     | (have h2':y=_:=h2;subst h2';exact ih)
     | (obtain ⟨b,_,h2'⟩:=h2;subst h2';exact ih)
def gotoS (l:Nat) (k:List It):Option (List It):=
 List.rec (motive:=fun _=>Option (List It)) none (fun x r ih=>match x with
  | .inScope body=>match findLabel body l with
    | some c=>some (.code c::.inScope body::r)
    | none=>ih
  | .dfd=>none
  | .dc _ _ _=>none
  | _=>ih) k
theorem gotoS_vr {l:Nat}:∀ {k k':List It},gotoS l k=some k'→vr k'=vr k
 | [],_,h=>by cases h
 | x::k,k',h=>by
   cases x
   case inScope body=>
    have h':(match findLabel body l with | some c=>some (.code c::.inScope body::k) | none=>gotoS l k)=some k':=h
    split at h'
    ·cases h';rfl
    ·exact gotoS_vr (k:=k) h'
   case dfd=>cases h
   case dc=>cases h
   all_goals exact gotoS_vr (k:=k) h
theorem gotoS_ok {ρ:Dyn} {l:Nat}:∀ {k:List It} {K:List Item},TdRel ρ k K→
  (∀ k',gotoS l k=some k'→∃ K',gotoIn l K=some K'∧TdRel ρ k' K')∧(gotoS l k=none→gotoIn l K=none)
 | [],_,h=>by cases h;exact ⟨(fun _ e=>by cases e),(fun _=>rfl)⟩
 | x::k,K,hk=>by
   cases x
   case dfd=>obtain ⟨rfl,_⟩:=hk;exact ⟨(fun _ e=>by cases e),(fun _=>rfl)⟩
   case dc=>obtain ⟨rfl,_⟩:=hk;exact ⟨(fun _ e=>by cases e),(fun _=>rfl)⟩
   case mdR=>exact hk.elim
   case mdP=>exact hk.elim
   all_goals
    obtain ⟨y,r,rfl,h2,h3⟩:=hk
    have ih:=gotoS_ok (l:=l) h3
   case inScope body=>
    have h2':y=.inScope body:=h2
    subst h2'
    have e:gotoS l (.inScope body::k)=(match findLabel body l with | some c=>some (.code c::.inScope body::k) | none=>gotoS l k):=rfl
    rw [e]
    cases hf:findLabel body l with
    | some c=>
      refine ⟨fun k' hk=>?_,fun hk=>by cases hk⟩
      cases hk
      exact ⟨_,by simp only [gotoIn,hf],_,_,rfl,rfl,_,_,rfl,rfl,h3⟩
    | none=>
      have e2:gotoIn l (.inScope body::r)=gotoIn l r:=by simp only [gotoIn,hf]
      rw [e2];exact ih
   all_goals
    first
     | (have h2':y=_:=h2;subst h2';exact ih)
     | (obtain ⟨b,_,h2'⟩:=h2;subst h2';exact ih)
inductive Sp where
 | go (f:Fr) (fs:List Fr) (H:Hp)
 | par (x:Fr×List Fr×Hp) (l:List (Fr×List Fr×Hp))
 | done (z:SV) (H:Hp)
 | ask (p:SB)
 | bad (why:Nat)
structure Ends (P:Program) (m:Machine) (cs:List Frame) (fn:FuncId) (plain:Bool) (u:Value) (w':World):Prop where
 ret:plain=true→∃ fr,Steps P m (lone fr cs w')∧fr.fn=fn∧fr.leaving P w' (.returned u)
 fin:∀ c t,cs=c::t→Steps P m (lone (c.finish u) t w')
theorem Ends.of_steps {P:Program} {m m₁:Machine} {cs:List Frame} {fn:FuncId} {plain:Bool} {u:Value} {w':World} (h:Steps P m m₁) (k:Ends P m₁ cs fn plain u w'):Ends P m cs fn plain u w':=
 ⟨fun e=>let ⟨fr,h1,h2⟩:=k.ret e;⟨fr,h.trans h1,h2⟩,fun c t e=>h.trans (k.fin c t e)⟩
def botOf (f:Fr) (fs:List Fr):FuncId×Bool:=match fs.getLast? with | some g=>(g.fn,g.rd.isNone) | none=>(f.fn,f.rd.isNone)
theorem botOf_upd {f f':Fr} (fs:List Fr) (h1:f'.fn=f.fn) (h2:f'.rd=f.rd):botOf f' fs=botOf f fs:=by
 unfold botOf;cases fs.getLast? <;> simp [h1,h2]
theorem botOf_push (f g:Fr) (fs:List Fr):botOf g (f::fs)=botOf f fs:=by
 unfold botOf
 cases fs with
 | nil=>rfl
 | cons a l=>
   rw [List.getLast?_cons_cons]
   cases hx:(a::l).getLast? with
   | some g=>rfl
   | none=>simp at hx
theorem botOf_pop (f g g':Fr) (fs:List Fr) (h1:g'.fn=g.fn) (h2:g'.rd=g.rd):botOf g' fs=botOf f (g::fs):=by
 rw [botOf_push g f fs];exact botOf_upd fs h1 h2
def Sat (C:Ct) (hc:Nat→Option Obj) (w0:World) (cs:List Frame) (ρ:Dyn) (f:Fr) (fs:List Fr) (H:Hp) (m:Machine):Prop:=
 ∃ fr frs w,m=lone fr (frs++cs) w∧FrIs C.σ ρ f fr∧FsRel C.σ ρ fs frs∧HpRel C hc w0 ρ H w
def Sp.Ok (cc:Cc) (C:Ct) (hc:Nat→Option Obj) (w0:World) (cs:List Frame) (ρ:Dyn) (f:Fr) (fs:List Fr) (H:Hp) (m:Machine):Sp→Prop
 | .par x l=>∃ y∈x::l,∃ ρ' m',Tn ρ H m.world ρ' y.2.2 m'.world∧Steps cc.P m m'∧Sat C hc w0 cs ρ' y.1 y.2.1 y.2.2 m'∧botOf y.1 y.2.1=botOf f fs
 | .go f' fs' H'=>∃ ρ' m',Tn ρ H m.world ρ' H' m'.world∧Steps cc.P m m'∧Sat C hc w0 cs ρ' f' fs' H' m'∧botOf f' fs'=botOf f fs
 | .done z H'=>∃ ρ' u w',Tn ρ H m.world ρ' H' w'∧Ends cc.P m cs (botOf f fs).1 (botOf f fs).2 u w'∧z.Is C.σ ρ' u∧HpRel C hc w0 ρ' H' w'
 | .ask p=>∃ b,p.den C.σ ρ=some b
 | .bad _=>True
section
variable {cc:Cc} {C:Ct} {hc:Nat→Option Obj} {w0:World} {cs:List Frame} {ρ ρ':Dyn} {f:Fr} {fs:List Fr} {H:Hp} {w:World}
theorem Sp.ok_todo {fr:Frame} {frs:List Frame} {tmps:Array Value} {df:List Deferred} {k:List Item} {ro:Option Nat} (hf:FrRel C.σ ρ f fr tmps df k ro) (hfs:FsRel C.σ ρ fs frs) (hh:HpRel C hc w0 ρ H w)
  {todo:List It} {k':List Item} (hk:TdRel ρ todo k') (hv:vr todo=vr f.todo) (hs:Steps cc.P (lone fr (frs++cs) w) (lone ((bF f.fn ro (kdOf f.todo)).atR { tmps:=tmps,defers:=df } k') (frs++cs) w)) :
  (Sp.go { f with todo:=todo } fs H).Ok cc C hc w0 cs ρ f fs H (lone fr (frs++cs) w):=
 ⟨ρ,_,(by exact Tn.refl ρ H w),hs,⟨_,frs,w,rfl,⟨tmps,df,k',ro,by rw [kdOf_upd hv],hf.tm,hk,hf.df.upd rfl hv,hf.rd⟩,hfs,hh⟩,botOf_upd fs rfl rfl⟩
def finS (f:Fr) (z:SV):Option Fr:=
 match f.todo with
 | .inRegion ops (i::rest)::k=>match ops[i]? with
   | some o=>match o.dst with
     | some d=>bif Nat.blt d f.nt then some { f with tm:=(d,z)::f.tm,todo:=.inRegion ops rest::k } else none
     | none=>some { f with todo:=.inRegion ops rest::k }
   | none=>none
 | .inRangeFunc l::k=>some { f with todo:=.endRangeFunc l::k }
 | _=>none
theorem finS_ok {f f':Fr} {z:SV} {u:Value} {fr:Frame} (hf:FrIs C.σ ρ f fr) (hz:z.Is C.σ ρ u) (h:finS f z=some f'):FrIs C.σ ρ f' (fr.finish u)∧f'.fn=f.fn∧f'.rd=f.rd:=by
 obtain ⟨tmps,df,k,ro,he,ht,htd,hd,hr⟩:=hf
 unfold finS at h
 split at h
 ·rename_i ops i rest kk hto
  rw [hto] at htd
  obtain ⟨y,r,rfl,h1,h2⟩:=htd
  have h1':y=.inRegion ops (i::rest):=h1
  subst h1'
  split at h
  ·rename_i o ho
   have hfin:fr.finish u=(bF f.fn ro (kdOf f.todo)).atR (({ tmps:=tmps,defers:=df }:Act).put o.dst u) (.inRegion ops rest::r):=by
    rw [he,Frame.finish_atR,ho];rfl
   split at h
   ·rename_i d hdst
    cases hb:Nat.blt d f.nt with
    | false=>rw [hb] at h;cases h
    | true=>
      rw [hb] at h;cases h
      have hlt:d < f.nt:=by simpa using hb
      refine ⟨⟨tmps.setIfInBounds d u,df,.inRegion ops rest::r,ro,?_,ht.set hlt hz,⟨_,_,rfl,rfl,h2⟩,hd.upd rfl (by rw [hto];rfl),hr⟩,rfl,rfl⟩
      rw [hfin,hdst,hto];rfl
   ·rename_i hdst
    cases h
    refine ⟨⟨tmps,df,.inRegion ops rest::r,ro,?_,ht,⟨_,_,rfl,rfl,h2⟩,hd.upd rfl (by rw [hto];rfl),hr⟩,rfl,rfl⟩
    rw [hfin,hdst,hto];rfl
  ·cases h
 ·rename_i l kk hto
  cases h
  rw [hto] at htd
  obtain ⟨y,r,rfl,⟨b,hb,rfl⟩,h2⟩:=htd
  refine ⟨⟨tmps,df,.endRangeFunc b::r,ro,?_,ht,⟨_,_,rfl,⟨b,hb,rfl⟩,h2⟩,hd.upd rfl (by rw [hto];rfl),hr⟩,rfl,rfl⟩
  rw [he,finish_atR_inRangeFunc,hto];rfl
 ·cases h
def popS (fs:List Fr) (z:SV) (H:Hp):Sp:=
 match fs with
 | []=>.done z H
 | c::t=>match finS c z with
   | some c'=>.go c' t H
   | none=>.bad 200
theorem finS_fu {f f':Fr} {z:SV} {u:Value} {fr:Frame} (hf:FuIs C.σ ρ f fr) (hz:z.Is C.σ ρ u) (h:finS f z=some f'):FrIs C.σ ρ f' (fr.finish u)∧f'.fn=f.fn∧f'.rd=f.rd:=by
 rcases hf with hf | ⟨m,l,h1,h2,h3,h4⟩
 ·exact finS_ok hf hz h
 ·unfold finS at h
  rw [h1] at h
  cases m<;>first | exact h3.elim | cases h
theorem popS_ok {m:Machine} {frs:List Frame} {z:SV} {u:Value} {w':World} {H':Hp} (ht:Tn ρ H m.world ρ' H' w') (hfs:FsRel C.σ ρ' fs frs) (hz:z.Is C.σ ρ' u) (hh':HpRel C hc w0 ρ' H' w')
  (hend:Ends cc.P m (frs++cs) f.fn f.rd.isNone u w'):(popS fs z H').Ok cc C hc w0 cs ρ f fs H m:=by
 unfold popS
 split
 ·cases hfs
  exact ⟨ρ',u,w',ht,hend,hz,hh'⟩
 ·rename_i c t
  obtain ⟨c0,t0,rfl,h1,h2⟩:=hfs
  split
  ·rename_i c' hc'
   obtain ⟨h3,h4,h5⟩:=finS_fu h1 hz hc'
   exact ⟨ρ',_,(by exact ht),hend.fin c0 (t0++cs) rfl,⟨_,t0,w',rfl,h3,h2,hh'⟩,botOf_pop f c c' t h4 h5⟩
  ·trivial
theorem Sp.Ok.congr {f':Fr} {fs':List Fr} {m:Machine} {x:Sp} (h:botOf f' fs'=botOf f fs) (hx:x.Ok cc C hc w0 cs ρ f' fs' H m):x.Ok cc C hc w0 cs ρ f fs H m:=by
 cases x with
 | go f1 fs1 H1=>obtain ⟨a,b,c,d,e,g⟩:=hx;exact ⟨a,b,c,d,e,g.trans h⟩
 | par y l=>obtain ⟨y',hy,a,b,c,d,e,g⟩:=hx;exact ⟨y',hy,a,b,c,d,e,g.trans h⟩
 | done z H1=>obtain ⟨a,b,c,d,e,g⟩:=hx;exact ⟨a,b,c,d,by rw [← h];exact e,g⟩
 | ask p=>exact hx
 | bad=>trivial
theorem HpRel.put' (h:HpRel C hc w0 ρ H w) {id b:Nat} {bk bk':Bk} (hg:get H.heap id=some bk) (hl:bk.live=true) (hb:ρ.bl id=some b) {o o':Obj} (hw:w.heap[b]? = some o) (hl':bk'.live=true) (ho:bk'.Is C.σ ρ o') :
  HpRel C hc w0 ρ (H.put id bk') (w.putObj b o'):=by
 have hlt:b < w.heap.size:=(Array.getElem?_eq_some_iff.1 hw).1
 exact h.put hg hl hb hl' ho (fun i hi=>World.putObj_heap_other hi) (World.putObj_heap_same hlt) (by simp [World.putObj]) rfl rfl rfl
theorem Tn.of_putObj {id b:Nat} {bk:Bk} {o:Obj} (hb:ρ.bl id=some b):Tn ρ H w ρ (H.put id bk) (w.putObj b o):=
 Tn.of_put hb (fun i hi=>World.putObj_heap_other hi) (by simp [World.putObj])
def takeS (l:List Nat):Hp→Option Hp:=
 List.rec (motive:=fun _=>Hp→Option Hp) (fun H=>some H) (fun id _ ih H=>match get H.heap id with
  | some .dfr=>ih (H.put id .dfn)
  | _=>none) l
theorem takeS_ok {fr:Frame} (hm:fr.mode≠.run) {d2:List Deferred}:∀ {l:List Nat} {ds:List Deferred} {H H':Hp} {w:World} {cs:List Frame},HpRel C hc w0 ρ H w→DfRel ρ l ds→takeS l H=some H'→
  ∃ w',Steps cc.P (lone { fr with defers:=ds++d2 } cs w) (lone { fr with defers:=d2 } cs w')∧HpRel C hc w0 ρ H' w'∧Tn ρ H w ρ H' w'
 | [],ds,H,H',w,cs,hh,hd,h=>by
   cases hd
   have h':some H=some H':=h
   cases h'
   exact ⟨w,.refl _ _,hh,Tn.refl ρ H w⟩
 | id::l,ds,H,H',w,cs,hh,hd,h=>by
   obtain ⟨b,r,rfl,h1,h2⟩:=hd
   have h':(match get H.heap id with
    | some .dfr=>takeS l (H.put id .dfn)
    | _=>none)=some H':=h
   split at h'
   ·rename_i hg
    obtain ⟨b',o,e1,e2,e3⟩:=hh.blk id _ hg rfl
    rw [h1] at e1;cases e1
    have e3':o=.deferred (some []):=e3
    subst e3'
    have hput:=hh.put' hg rfl h1 e2 (bk':=.dfn) (o':=.deferred none) rfl rfl
    obtain ⟨w',s1,s2,s3⟩:=takeS_ok (cs:=cs) hm hput h2 h'
    refine ⟨w',Steps.head ?_ s1,s2,(Tn.of_putObj h1).trans s3⟩
    exact step_collected (fr:={ fr with defers:={ target:=.collected b,args:=#[] }::(r++d2) }) (calls:=[]) (ds:=r++d2) hm rfl rfl (run_takeDeferred e2)
   ·cases h'
def resE (cc:Cc) (H:Hp) (T:List (Nat×SV)) (r:ResultVar):Option SV:=
 match r with
 | .tmp t=>get T t
 | .cell a t=>match get T a with
   | some (.pt r o)=>lodV cc H t r o
   | _=>none
def resS (cc:Cc) (H:Hp) (T:List (Nat×SV)) (l:List ResultVar):Option (List SV):=
 List.rec (motive:=fun _=>Option (List SV)) (some []) (fun r _ ih=>match resE cc H T r,ih with
  | some z,some rest=>some (z::rest)
  | _,_=>none) l
def valS (l:List SV):SV:=match l with | [z]=>z | l=>.tp l
theorem resE_ok (hcc:cc.Ok C) (hh:HpRel C hc w0 ρ H w) {nt:Nat} {T:List (Nat×SV)} {tmps:Array Value} (ht:TmRel C.σ ρ nt T tmps) {r:ResultVar} {z:SV} (h:resE cc H T r=some z) :
  ∃ u,((fun | .tmp t=>pure (tmps.getD t undef) | .cell a t=>do loadVar t (← asAddr (tmps.getD a undef)):ResultVar→Sem Value) r).run cc.P w=.ok u w∧z.Is C.σ ρ u:=by
 cases r with
 | tmp t=>exact ⟨tmps.getD t undef,rfl,ht.get t z h⟩
 | cell a t=>
   simp only [resE] at h
   split at h
   ·rename_i rr o hz
    have h3:=ht.get a _ hz
    simp only [SV.Is] at h3
    obtain ⟨b,k,e3,e4,e5⟩:=h3
    obtain ⟨u,e6,e7⟩:=lodV_ok hcc hh e3 e4 h
    exact ⟨u,by simp only [e5,asAddr,Sem.run_bind,Sem.run_pure,Result.andThen_ok,e6],e7⟩
   ·cases h
theorem resS_ok (hcc:cc.Ok C) (hh:HpRel C hc w0 ρ H w) {nt:Nat} {T:List (Nat×SV)} {tmps:Array Value} (ht:TmRel C.σ ρ nt T tmps):∀ {l:List ResultVar} {zs:List SV},resS cc H T l=some zs→
  ∃ us,(l.mapM (fun | .tmp t=>pure (tmps.getD t undef) | .cell a t=>do loadVar t (← asAddr (tmps.getD a undef)):ResultVar→Sem Value)).run cc.P w=.ok us w∧SV.IsL C.σ ρ zs us:=by
 intro l
 induction l with
 | nil=>
   intro zs h
   have h':some []=some zs:=h
   cases h'
   exact ⟨[],by simp,SV.isL_nil.2 rfl⟩
 | cons r l ih=>
   intro zs h
   have h':(match resE cc H T r,resS cc H T l with
    | some z,some rest=>some (z::rest)
    | _,_=>none)=some zs:=h
   split at h'
   ·rename_i z rest hz hrest
    cases h'
    obtain ⟨us,e1,e2⟩:=ih hrest
    obtain ⟨u,e3,e4⟩:=resE_ok hcc hh ht hz
    exact ⟨u::us,by simp only [List.mapM_cons,Sem.run_bind,e3,Result.andThen_ok,e1,Sem.run_pure],SV.isL_cons.2 ⟨_,_,rfl,e4,e2⟩⟩
   ·cases h'
theorem results_ok (hcc:cc.Ok C) (hh:HpRel C hc w0 ρ H w) {nt:Nat} {T:List (Nat×SV)} {tmps:Array Value} (ht:TmRel C.σ ρ nt T tmps) {fn:Func} {zs:List SV} (h:resS cc H T fn.results.toList=some zs) :
  ∃ u,(results fn tmps).run cc.P w=.ok u w∧(valS zs).Is C.σ ρ u:=by
 obtain ⟨us,e1,e2⟩:=resS_ok hcc hh ht h
 have e3:(fn.results.mapM (fun | .tmp t=>pure (tmps.getD t undef) | .cell a t=>do loadVar t (← asAddr (tmps.getD a undef)):ResultVar→Sem Value)).run cc.P w=.ok us.toArray w:=by
  rw [Array.mapM_eq_mapM_toList]
  simp only [Sem.run_map,e1,Result.andThen_ok]
 have e5:(results fn tmps).run cc.P w=.ok (if h:us.toArray.size=1 then us.toArray[0] else .tuple us.toArray) w:=by
  have e6:results fn tmps=(fn.results.mapM (fun | .tmp t=>pure (tmps.getD t undef) | .cell a t=>do loadVar t (← asAddr (tmps.getD a undef)):ResultVar→Sem Value)) >>= (fun vs=>pure (if h:vs.size=1 then vs[0] else .tuple vs)):=rfl
  rw [e6,Sem.run_bind,e3]
  rfl
 refine ⟨_,e5,?_⟩
 unfold valS
 split
 ·rename_i z
  obtain ⟨u,rfl,hu⟩:=isL_one e2
  simpa using hu
 ·rename_i hne
  have hlen:=SV.isL_length e2
  have:¬ us.toArray.size=1:=by
   intro hs
   simp only [List.size_toArray] at hs
   rw [hlen] at hs
   obtain ⟨z,hz⟩:=List.length_eq_one_iff.1 hs
   exact hne z hz
  rw [dif_neg this]
  simp only [SV.Is]
  exact ⟨us,e2,rfl⟩
def enumS (l:List SV):Nat→List (Nat×SV):=
 List.rec (motive:=fun _=>Nat→List (Nat×SV)) (fun _=>[]) (fun a _ ih n=>(n,a)::ih (Nat.succ n)) l
theorem enumS_get {σ:Sta} {ρ:Dyn}:∀ {l:List SV} {us:List Value} {n t:Nat} {z:SV},SV.IsL σ ρ l us→get (enumS l n) t=some z→n≤t∧∃ u,us[t - n]? = some u∧z.Is σ ρ u
 | [],_,_,_,_,_,h=>by cases h
 | a::l,us,n,t,z,hl,h=>by
   rw [SV.isL_cons] at hl
   obtain ⟨u,r,rfl,h1,h2⟩:=hl
   have h':get ((n,a)::enumS l (Nat.succ n)) t=some z:=h
   rw [get_cons] at h'
   split at h'
   ·rename_i e
    cases h'
    simp only at e
    subst e
    exact ⟨Nat.le_refl _,u,by simp,h1⟩
   ·obtain ⟨h3,v,h4,h5⟩:=enumS_get h2 h'
    refine ⟨by omega,v,?_,h5⟩
    have:t - n=(t - (n+1))+1:=by omega
    rw [this];simpa using h4
def enterF (f:FuncId) (fn:Func) (body:Code) (args:List SV):Fr:=
 { fn:=f,nt:=Nat.add (llen args) (Nat.sub fn.ntmps (llen args)),tm:=enumS args 0,todo:=[.code body],df:=[],rd:=none }
def enterD (f:FuncId) (fn:Func) (body:Code) (args:List SV):Fr:=
 { fn:=f,nt:=Nat.add (llen args) (Nat.sub fn.ntmps (llen args)),tm:=enumS args 0,todo:=[.code body,.dfd],df:=[],rd:=none }
theorem enter_tm {σ:Sta} {ρ:Dyn} {fn:Func} {args:List SV} {us:List Value} (ha:SV.IsL σ ρ args us) :
  TmRel σ ρ (Nat.add (llen args) (Nat.sub fn.ntmps (llen args))) (enumS args 0) (us.toArray++Array.replicate (fn.ntmps - us.toArray.size) undef):=by
 refine ⟨?_,?_⟩
 ·simp only [llen_eq,← SV.isL_length ha,Array.size_append,Array.size_replicate,List.size_toArray];rfl
 ·intro t z h
  obtain ⟨_,u,h1,h2⟩:=enumS_get ha h
  have hlt:t < us.length:=(List.getElem?_eq_some_iff.1 (by simpa using h1)).1
  have:(us.toArray++Array.replicate (fn.ntmps - us.toArray.size) undef).getD t undef=u:=by
   rw [Array.getD_eq_getD_getElem?,Array.getElem?_append_left (by simpa using hlt)]
   simp at h1
   simp [h1]
  rw [this];exact h2
theorem enterF_ok {P:Program} {σ:Sta} {ρ:Dyn} {f:FuncId} {fn:Func} {body:Code} {args:List SV} {us:List Value} (hf:P.funcs[f]? = some fn) (hb:fn.body=some body) (ha:SV.IsL σ ρ args us) :
  FrIs σ ρ (enterF f fn body args) (Frame.enter P f us.toArray .normal):=by
 refine ⟨us.toArray++Array.replicate (fn.ntmps - us.toArray.size) undef,[],[.code body],none,⟨?_,enter_tm ha,⟨_,_,rfl,rfl,rfl⟩,⟨[],[],rfl,rfl,rfl⟩,rfl⟩⟩
 simp [Frame.enter,Frame.atR,bF,hf,hb,enterF,kdOf]
theorem enterD_ok {P:Program} {σ:Sta} {ρ:Dyn} {f:FuncId} {fn:Func} {body:Code} {args:List SV} {us:List Value} (hf:P.funcs[f]? = some fn) (hb:fn.body=some body) (ha:SV.IsL σ ρ args us) :
  FrIs σ ρ (enterD f fn body args) (Frame.enter P f us.toArray .deferred):=by
 refine ⟨us.toArray++Array.replicate (fn.ntmps - us.toArray.size) undef,[],[.code body],none,⟨?_,enter_tm ha,⟨_,_,rfl,rfl,rfl,rfl⟩,⟨[],[],rfl,rfl,rfl⟩,rfl⟩⟩
 simp [Frame.enter,Frame.atR,bF,hf,hb,enterD,kdOf]
def goD (cc:Cc) (c:Fr) (m:It) (fs:List Fr) (H:Hp) (g:FuncId) (a cp:List SV) (rest:List It):Sp:=
 match cc.P.funcs[g]? with
 | some fn=>match fn.body with
   | some body=>.go (enterD g fn body (lapp a cp)) ({ c with todo:=m::rest,df:=[] }::fs) H
   | none=>.bad 250
 | none=>.bad 251
theorem goD_ok (hnm:∀ (f:Nat) (fn:Func),cc.P.funcs[f]? = some fn→(fn.name == "runtime.NumGoroutine")=false) {c:Fr} {m:It} {fr:Frame} {frs:List Frame} {g:FuncId} {a cp:List SV} {rest:List It} {M:Machine} {H':Hp} {w':World} (ht:Tn ρ H M.world ρ' H' w') (hfs:FsRel C.σ ρ' fs frs) (hh':HpRel C hc w0 ρ' H' w')
  (hu:UR C.σ ρ' c (.dc g a cp::rest) fr) (hm:MdIs C.σ ρ' m fr.mode) (hs:Steps cc.P M (lone fr (frs++cs) w')):(goD cc c m fs H' g a cp rest).Ok cc C hc w0 cs ρ c fs H M:=by
 unfold goD
 split
 ·rename_i fn hfn
  split
  ·rename_i body hb
   obtain ⟨as,cps,r,hd,ha,hcp,hr⟩:=hu.df
   have hargs:SV.IsL C.σ ρ' (lapp a cp) (as++cps):=by rw [lapp_eq];exact SV.isL_append ha hcp
   have hinv:(invoke (.fn (.func g) cps.toArray) as.toArray).run cc.P w'=.ok (.enter g (as++cps).toArray) w':=by
    have:=hnm g fn hfn
    simp [invoke,callFunc,hfn,hb,this]
    simpa using this
   have hst:=step_defer (P:=cc.P) (cs:=frs++cs) hm.ne_run hd rfl hinv
   refine ⟨ρ',_,(by exact ht),hs.trans (.one hst),⟨_,{ fr with defers:=r }::frs,w',rfl,enterD_ok hfn hb hargs,⟨_,_,rfl,.inr ⟨m,rest,rfl,rfl,hm,⟨hu.fn,hu.tm,hr,hu.kd,hu.ro,hu.rd⟩⟩,hfs⟩,hh'⟩,?_⟩
   rw [botOf_push];exact botOf_upd fs rfl rfl
  ·trivial
 ·trivial
def retS (cc:Cc) (c:Fr) (l:List It) (fs:List Fr) (H:Hp):Sp:=
 match l with
 | []=>match cc.P.funcs[c.fn]? with
   | some fn=>match resS cc H c.tm fn.results.toList with
     | some zs=>popS fs (valS zs) H
     | none=>.bad 201
   | none=>.bad 202
 | .dc g a cp::rest=>goD cc c .mdR fs H g a cp rest
 | _=>.bad 252
theorem retS_ok (hcc:cc.Ok C) {c:Fr} {l:List It} {fr:Frame} {frs:List Frame} {M:Machine} {H':Hp} {w':World} (ht:Tn ρ H M.world ρ' H' w') (hfs:FsRel C.σ ρ' fs frs) (hh':HpRel C hc w0 ρ' H' w')
  (hu:UR C.σ ρ' c l fr) (hm:fr.mode=.returning) (hs:Steps cc.P M (lone fr (frs++cs) w')):(retS cc c l fs H').Ok cc C hc w0 cs ρ c fs H M:=by
 unfold retS
 split
 ·split
  ·rename_i fn hfn
   split
   ·rename_i zs hzs
    obtain ⟨u,e1,e2⟩:=results_ok hcc hh' hu.tm hzs
    have hleave:Frame.leaving cc.P fr w' (.returned u):=⟨hm,hu.df,hu.kd,fn,by rw [hu.fn];exact hfn,e1⟩
    refine popS_ok ht hfs e2 hh' ⟨fun _=>⟨fr,hs,hu.fn,hleave⟩,fun c t hct=>?_⟩
    rw [hct] at hs
    exact hs.trans (.one (step_leave_returned hleave))
   ·trivial
  ·trivial
 ·exact goD_ok hcc.names ht hfs hh' hu hm hs
 ·trivial
def isMd:List It→Bool
 | .mdR::_=>true
 | .mdP _ _::_=>true
 | _=>false
theorem FuIs.run {σ:Sta} {c:Fr} {fr:Frame} (h:FuIs σ ρ c fr) (hm:isMd c.todo=false):FrIs σ ρ c fr:=by
 rcases h with h | ⟨m,l,g1,g2,g3,g4⟩
 ·exact h
 ·rw [g1] at hm
  cases m<;>first | exact g3.elim | cases hm
def panS (cc:Cc) (v:SV) (fs:List Fr):Hp→Sp:=
 List.rec (motive:=fun _=>Hp→Sp) (fun _=>.bad 253) (fun c t ih H=>
  match c.rd,kdOf c.todo,isMd c.todo,takeS c.df H with
  | none,.normal,false,some H'=>match dcsOf c.todo with
    | []=>match cc.P.funcs[c.fn]? with | some _=>ih H' | none=>.bad 254
    | .dc g a cp::rest=>goD cc c (.mdP v false) t H' g a cp rest
    | _=>.bad 255
  | _,_,_,_=>.bad 256) fs
theorem panS_one (hcc:cc.Ok C) {v:SV} {u:Value} {M:Machine} {t:List Fr} {c:Fr} {frs:List Frame} {H':Hp} {w':World} {fr:Frame} (ht:Tn ρ H M.world ρ' H' w') (hfu:FuIs C.σ ρ' c fr) (hfs:FsRel C.σ ρ' t frs) (hh':HpRel C hc w0 ρ' H' w') (hv:v.Is C.σ ρ' u)
  (hs:Steps cc.P M (lone (fr.raise [{ v:=u,recovered:=false }]) (frs++cs) w')) (next:Hp→Sp)
  (hn:∀ H1 w1 fr1 fn,Tn ρ H M.world ρ' H1 w1→HpRel C hc w0 ρ' H1 w1→UR C.σ ρ' c [] fr1→fr1.mode=.panicking [{ v:=u,recovered:=false }]→cc.P.funcs[c.fn]? = some fn→Steps cc.P M (lone fr1 (frs++cs) w1)→(next H1).Ok cc C hc w0 cs ρ c t H M) :
  (match c.rd,kdOf c.todo,isMd c.todo,takeS c.df H' with
  | none,.normal,false,some H'=>match dcsOf c.todo with
    | []=>match cc.P.funcs[c.fn]? with | some _=>next H' | none=>.bad 254
    | .dc g a cp::rest=>goD cc c (.mdP v false) t H' g a cp rest
    | _=>.bad 255
  | _,_,_,_=>.bad 256:Sp).Ok cc C hc w0 cs ρ c t H M:=by
 split
 ·rename_i H1 hrd hkd hmd htk
  obtain ⟨tmps,df,k,ro,hf⟩:=hfu.run hmd
  obtain ⟨d1,d2,hdf,hd1,hd2⟩:=hf.df
  have hro:ro=none:=by have:=hf.rd;rw [hrd] at this;exact this
  subst hro
  have hraise:fr.raise [{ v:=u,recovered:=false }]={ ({ (bF c.fn none .normal).atR { tmps:=tmps,defers:=d2 } k with mode:=.panicking [{ v:=u,recovered:=false }] }:Frame) with defers:=d1++d2 }:=by
   rw [hf.eq,hkd,hdf];rfl
  rw [hraise] at hs
  obtain ⟨w1,s1,h1,t1⟩:=takeS_ok (cc:=cc) (cs:=frs++cs) (fr:={ (bF c.fn none .normal).atR { tmps:=tmps,defers:=d2 } k with mode:=.panicking [{ v:=u,recovered:=false }] }) (by simp) (d2:=d2) hh' hd1 htk
  have hu:UR C.σ ρ' c (dcsOf c.todo) { (bF c.fn none .normal).atR { tmps:=tmps,defers:=d2 } k with mode:=.panicking [{ v:=u,recovered:=false }] }:=⟨rfl,hf.tm,DcRel.dcsOf.1 hd2,rfl,rfl,hrd⟩
  have hs1:=hs.trans s1
  have ht1:=ht.trans t1
  split
  ·rename_i hdcs
   rw [hdcs] at hu
   split
   ·rename_i fn hfn
    exact hn H1 w1 _ fn ht1 h1 hu rfl hfn hs1
   ·trivial
  ·rename_i g a cp rest hdcs
   rw [hdcs] at hu
   exact goD_ok hcc.names ht1 hfs h1 hu (show MdIs C.σ ρ' (.mdP v false) _ from ⟨u,hv,rfl⟩) hs1
  ·trivial
 ·trivial
theorem panS_ok (hcc:cc.Ok C) {v:SV} {u:Value} {M:Machine}:∀ {t:List Fr} {c:Fr} {frs:List Frame} {H':Hp} {w':World} {fr:Frame},Tn ρ H M.world ρ' H' w'→FuIs C.σ ρ' c fr→FsRel C.σ ρ' t frs→HpRel C hc w0 ρ' H' w'→v.Is C.σ ρ' u→
  Steps cc.P M (lone (fr.raise [{ v:=u,recovered:=false }]) (frs++cs) w')→(panS cc v (c::t) H').Ok cc C hc w0 cs ρ c t H M:=by
 intro t
 induction t with
 | nil=>
   intro c frs H' w' fr ht hfu hfs hh' hv hs
   exact panS_one hcc ht hfu hfs hh' hv hs (fun _=>.bad 253) (fun _ _ _ _ _ _ _ _ _ _=>trivial)
 | cons c2 t2 ih=>
   intro c frs H' w' fr ht hfu hfs hh' hv hs
   refine panS_one hcc ht hfu hfs hh' hv hs (fun H=>panS cc v (c2::t2) H) (fun H1 w1 fr1 fn ht1 h1 hu hm hfn hs1=>?_)
   obtain ⟨fr2,frs2,rfl,hfu2,hfs2⟩:=hfs
   have hst:=step_leave_panicked (P:=cc.P) (fr:=fr1) (c:=fr2) (cs:=frs2++cs) (w:=w1) ⟨hm,hu.df,fn,by rw [hu.fn];exact hfn⟩
   exact (ih ht1 hfu2 hfs2 h1 hv (hs1.trans (.one hst))).congr (botOf_push c2 c t2).symm
def popD (cc:Cc) (fs:List Fr) (H:Hp):Sp:=
 match fs with
 | []=>.bad 257
 | c::t=>match c.todo with
   | .mdR::l=>retS cc c l t H
   | .mdP v r::l=>match r,l with
     | true,l=>retS cc c l t H
     | false,.dc g a cp::rest=>goD cc c (.mdP v false) t H g a cp rest
     | _,_=>.bad 258
   | _=>.bad 259
theorem popD_ok (hcc:cc.Ok C) {c0:Fr} {fr:Frame} {fs:List Fr} {frs:List Frame} {M:Machine} {H':Hp} {w':World} {u:Value} (ht:Tn ρ H M.world ρ' H' w') (hfs:FsRel C.σ ρ' fs frs) (hh':HpRel C hc w0 ρ' H' w')
  (hk:fr.kind=.deferred) (hg:fr.going cc.P w' (.returned u)) (hs:Steps cc.P M (lone fr (frs++cs) w')):(popD cc fs H').Ok cc C hc w0 cs ρ c0 fs H M:=by
 unfold popD
 split
 ·trivial
 ·rename_i c t
  obtain ⟨fr2,frs2,rfl,hfu,hfs⟩:=hfs
  have hst:=step_going_returned (P:=cc.P) (fr:=fr) (c:=fr2) (cs:=frs2++cs) (w:=w') (v:=u) hk hg
  have hs1:=hs.trans (.one hst)
  have hbot:=(botOf_push c c0 t)
  split
  ·rename_i l hto
   rcases hfu with ⟨_,_,_,_,hf⟩ | ⟨m,l',g1,g2,g3,g4⟩
   ·have:=hf.todo;rw [hto] at this;exact this.elim
   ·rw [hto] at g1;cases g1
    have hm:fr2.mode=.returning:=g3
    have hset:settle fr2.mode=.returning:=by rw [hm];rfl
    rw [hset] at hs1
    exact (retS_ok hcc (fr:={ fr2 with mode:=.returning }) ht hfs hh' ⟨g4.fn,g4.tm,g4.df,g4.kd,g4.ro,g4.rd⟩ rfl hs1).congr hbot.symm
  ·rename_i v r l hto
   rcases hfu with ⟨_,_,_,_,hf⟩ | ⟨m,l',g1,g2,g3,g4⟩
   ·have:=hf.todo;rw [hto] at this;exact this.elim
   ·rw [hto] at g1;cases g1
    obtain ⟨x,hx,hm⟩:=g3
    split
    ·have hset:settle fr2.mode=.returning:=by rw [hm];rfl
     rw [hset] at hs1
     exact (retS_ok hcc (fr:={ fr2 with mode:=.returning }) ht hfs hh' ⟨g4.fn,g4.tm,g4.df,g4.kd,g4.ro,g4.rd⟩ rfl hs1).congr hbot.symm
    ·rename_i g a cp rest
     have hset:settle fr2.mode=.panicking [{ v:=x,recovered:=false }]:=by rw [hm];rfl
     rw [hset] at hs1
     exact (goD_ok hcc.names (fr:={ fr2 with mode:=.panicking [{ v:=x,recovered:=false }] }) ht hfs hh' ⟨g4.fn,g4.tm,g4.df,g4.kd,g4.ro,g4.rd⟩ (show MdIs C.σ ρ' (.mdP v false) _ from ⟨x,hx,rfl⟩) hs1).congr hbot.symm
    ·trivial
  ·trivial
def leaveS (cc:Cc) (f:Fr) (fs:List Fr) (H:Hp) (jump:Option Code):Sp:=
 match f.rd with
 | none=>match jump with
   | none | some .ret=>match takeS f.df H with
     | some H'=>match kdOf f.todo with
       | .normal=>retS cc f (dcsOf f.todo) fs H'
       | .deferred=>match dcsOf f.todo,cc.P.funcs[f.fn]? with
         | [],some fn=>match resS cc H' f.tm fn.results.toList with
           | some _=>popD cc fs H'
           | none=>.bad 205
         | _,_=>.bad 206
       | _=>.bad 207
     | none=>.bad 202
   | _=>.bad 203
 | some l=>match kdOf f.todo,get H.heap l with
   | .normal,some (.loop _ _ fn nt tm ps asg body df)=>match jump with
     | none=>popS fs (.bo (.c true)) (H.put l (.loop .ready none fn nt tm ps asg body df))
     | some j=>popS fs (.bo (.c false)) (H.put l (.loop .done (some j) fn nt tm ps asg body df))
   | _,_=>.bad 204
def LeavesBy (P:Program) (fr:Frame) (l:Nat) (jump:Option Code):Prop:=
 ∀ (c:Frame) (t:List Frame) (w:World) (v:Value) (w':World),(Instr.endRound l jump).run P w=.ok v w'→step P (lone fr (c::t) w)=.next (lone (c.finish v) t w')
theorem leaveS_ok (hcc:cc.Ok C) {fr:Frame} {frs:List Frame} {tmps:Array Value} {df:List Deferred} {k:List Item} {ro:Option Nat} (hf:FrRel C.σ ρ f fr tmps df k ro) (hfs:FsRel C.σ ρ fs frs) (hh:HpRel C hc w0 ρ H w) {jump:Option Code}
  (hn:f.rd=none→(jump=none∨jump=some .ret)→Steps cc.P (lone fr (frs++cs) w) (lone { fr with mode:=.returning } (frs++cs) w))
  (hr:∀ l b,f.rd=some l→kdOf f.todo=.normal→ρ.bl l=some b→LeavesBy cc.P fr b jump) :
  (leaveS cc f fs H jump).Ok cc C hc w0 cs ρ f fs H (lone fr (frs++cs) w):=by
 have normal:f.rd=none→(jump=none∨jump=some .ret)→(match takeS f.df H with
   | some H'=>match kdOf f.todo with
     | .normal=>retS cc f (dcsOf f.todo) fs H'
     | .deferred=>match dcsOf f.todo,cc.P.funcs[f.fn]? with
       | [],some fn=>match resS cc H' f.tm fn.results.toList with
         | some _=>popD cc fs H'
         | none=>.bad 205
       | _,_=>.bad 206
     | _=>.bad 207
   | none=>.bad 202:Sp).Ok cc C hc w0 cs ρ f fs H (lone fr (frs++cs) w):=by
  intro hrd hj
  split
  ·rename_i H' htk
   have s0:=hn hrd hj
   obtain ⟨d1,d2,hdf,hd1,hd2⟩:=hf.df
   have hro:ro=none:=by have:=hf.rd;rw [hrd] at this;exact this
   subst hro
   have hfr:({ fr with mode:=.returning }:Frame)={ ({ (bF f.fn none (kdOf f.todo)).atR { tmps:=tmps,defers:=d2 } k with mode:=.returning }:Frame) with defers:=d1++d2 }:=by rw [hf.eq,hdf];rfl
   rw [hfr] at s0
   obtain ⟨w',s1,h1,h2⟩:=takeS_ok (cc:=cc) (fr:={ (bF f.fn none (kdOf f.todo)).atR { tmps:=tmps,defers:=d2 } k with mode:=.returning }) (by simp) (d2:=d2) (cs:=frs++cs) hh hd1 htk
   have s2:=s0.trans s1
   have h2':Tn ρ H (lone fr (frs++cs) w).world ρ H' w':=h2
   split
   ·rename_i hkd
    rw [hkd] at s2
    exact retS_ok hcc (M:=lone fr (frs++cs) w) h2' hfs h1 ⟨rfl,hf.tm,DcRel.dcsOf.1 hd2,rfl,rfl,hrd⟩ rfl s2
   ·rename_i hkd
    split
    ·rename_i fn hdcs hfn
     split
     ·rename_i zs hzs
      obtain ⟨u,e1,e2⟩:=results_ok hcc h1 hf.tm hzs
      have hd0:d2=[]:=by have:=DcRel.dcsOf.1 hd2;rw [hdcs] at this;exact this
      rw [hkd] at s2
      exact popD_ok hcc (M:=lone fr (frs++cs) w) (u:=u) h2' hfs h1 rfl ⟨rfl,hd0,fn,hfn,e1⟩ s2
     ·trivial
    ·trivial
   ·trivial
  ·trivial
 unfold leaveS
 split
 ·rename_i hrd
  split
  ·exact normal hrd (.inl rfl)
  ·exact normal hrd (.inr rfl)
  ·trivial
 ·rename_i l hrd
  split
  ·rename_i st pd fn nt tm ps asg body dfb hkd hg
   obtain ⟨b,o,e1,e2,tmps',d,e3,e4,rfl⟩:=hh.blk l _ hg rfl
   have hl:=hr l b hrd hkd e1
   have ends:∀ v w',(Instr.endRound b jump).run cc.P w=.ok v w'→Ends cc.P (lone fr (frs++cs) w) (frs++cs) f.fn f.rd.isNone v w':=fun v w' he=>
    ⟨fun h=>(by rw [hrd] at h;cases h),fun c t hct=>by rw [hct];exact .one (hl c t w v w' he)⟩
   split
   ·have he:=run_endRound (P:=cc.P) none e2
    have hput:=hh.put' hg rfl e1 e2 (bk':=.loop .ready none fn nt tm ps asg body dfb) (o':=.loop { state:=.ready,pending:=none,fn,tmps:=tmps',params:=ps,assign:=asg,body,defers:=d }) rfl ⟨tmps',d,e3,e4,rfl⟩
    exact popS_ok (Tn.of_putObj e1) hfs (by simp only [SV.Is];exact ⟨true,rfl,rfl⟩) hput (ends _ _ he)
   ·rename_i j
    have he:=run_endRound (P:=cc.P) (some j) e2
    have hput:=hh.put' hg rfl e1 e2 (bk':=.loop .done (some j) fn nt tm ps asg body dfb) (o':=.loop { state:=.done,pending:=some j,fn,tmps:=tmps',params:=ps,assign:=asg,body,defers:=d }) rfl ⟨tmps',d,e3,e4,rfl⟩
    exact popS_ok (Tn.of_putObj e1) hfs (by simp only [SV.Is];exact ⟨false,rfl,rfl⟩) hput (ends _ _ he)
  ·trivial
end
end
end Go.Sx
namespace Go.Sx
set_option linter.unusedVariables false
set_option linter.unusedSimpArgs false
open Go.RowKit
inductive Ap where
 | no
 | ok (z:SV) (H:Hp)
 | ask (p:SB)
 | bad
abbrev Ents:=List (Nat×(Hp→List SV→Ap))
noncomputable def fent (E:Ents) (H:Hp) (f:FuncId) (args:List SV):Ap:=
 List.rec (motive:=fun _=>Ap) .no (fun e _ ih=>bif Nat.beq e.1 f then (match e.2 H args with | .no=>ih | r=>r) else ih) E
def CallOk (cc:Cc) (C:Ct) (f:FuncId) (app:Hp→List SV→Ap):Prop:=
 ∀ hc w0 ρ H w args us,HpRel C hc w0 ρ H w→SV.IsL C.σ ρ args us→
   (∀ z H',app H args=.ok z H'→Calls cc.P f us.toArray w fun e w'=>∃ ρ' u,e=.returned u∧Tn ρ H w ρ' H' w'∧z.Is C.σ ρ' u∧HpRel C hc w0 ρ' H' w')∧
   (∀ p,app H args=.ask p→∃ b,p.den C.σ ρ=some b)
def EntsOk (cc:Cc) (C:Ct) (E:Ents):Prop:=∀ f app,(f,app)∈E→CallOk cc C f app
theorem fent_mem {E:Ents} {H:Hp} {f:FuncId} {args:List SV} {r:Ap} (h:fent E H f args=r) (hr:r≠.no):∃ app,(f,app)∈E∧app H args=r:=by
 induction E with
 | nil=>exact absurd h.symm hr
 | cons e E ih=>
   have h':(bif Nat.beq e.1 f then (match e.2 H args with | .no=>fent E H f args | r=>r) else fent E H f args)=r:=h
   cases hb:Nat.beq e.1 f with
   | false=>
     rw [hb] at h'
     obtain ⟨app,h1,h2⟩:=ih h'
     exact ⟨app,List.mem_cons_of_mem _ h1,h2⟩
   | true=>
     have he:=Nat.eq_of_beq_eq_true hb
     rw [hb] at h'
     simp only [cond_true] at h'
     split at h'
     ·obtain ⟨app,h1,h2⟩:=ih h'
      exact ⟨app,List.mem_cons_of_mem _ h1,h2⟩
     ·rename_i r' hne
      exact ⟨e.2,by rw [← he];simp,h'⟩
theorem fent_ok {cc:Cc} {C:Ct} {E:Ents} (hE:EntsOk cc C E) {H:Hp} {f:FuncId} {args:List SV} {z:SV} {H':Hp} (h:fent E H f args=.ok z H'):∃ app,CallOk cc C f app∧app H args=.ok z H':=by
 obtain ⟨app,h1,h2⟩:=fent_mem h (by simp)
 exact ⟨app,hE f app h1,h2⟩
theorem fent_ask {cc:Cc} {C:Ct} {E:Ents} (hE:EntsOk cc C E) {H:Hp} {f:FuncId} {args:List SV} {p:SB} (h:fent E H f args=.ask p):∃ app,CallOk cc C f app∧app H args=.ask p:=by
 obtain ⟨app,h1,h2⟩:=fent_mem h (by simp)
 exact ⟨app,hE f app h1,h2⟩
noncomputable def setsS (nt:Nat) (ps:List Tmp):List SV→List (Nat×SV)→Option (List (Nat×SV)):=
 List.rec (motive:=fun _=>List SV→List (Nat×SV)→Option (List (Nat×SV))) (fun as T=>match as with | []=>some T | _=>none)
  (fun p _ ih as T=>match as with | a::as=>bif Nat.blt p nt then ih as ((p,a)::T) else none | []=>none) ps
theorem setsS_ok {σ:Sta} {ρ:Dyn} {nt:Nat}:∀ {ps:List Tmp} {as:List SV} {us:List Value} {T T':List (Nat×SV)} {tmps:Array Value},SV.IsL σ ρ as us→TmRel σ ρ nt T tmps→setsS nt ps as T=some T'→
  us.length=ps.length∧TmRel σ ρ nt T' ((ps.zip us).foldl (fun tmps (p:Tmp×Value)=>tmps.setIfInBounds p.1 p.2) tmps)
 | [],as,us,T,T',tmps,ha,ht,h=>by
   cases as with
   | nil=>
     rw [SV.isL_nil] at ha;subst ha
     have h':some T=some T':=h
     cases h'
     exact ⟨rfl,ht⟩
   | cons a as=>cases h
 | p::ps,as,us,T,T',tmps,ha,ht,h=>by
   cases as with
   | nil=>cases h
   | cons a as=>
     rw [SV.isL_cons] at ha
     obtain ⟨u,r,rfl,h1,h2⟩:=ha
     have h':(bif Nat.blt p nt then setsS nt ps as ((p,a)::T) else none)=some T':=h
     cases hb:Nat.blt p nt with
     | false=>rw [hb] at h';cases h'
     | true=>
       rw [hb] at h'
       have hlt:p < nt:=by simpa using hb
       obtain ⟨h3,h4⟩:=setsS_ok h2 (ht.set hlt h1) h'
       exact ⟨by simp [h3],by simpa using h4⟩
noncomputable def roundF (H:Hp) (id:Nat) (args:List SV):Option Fr:=
 match get H.heap id with
 | some (.loop _ _ fn nt tm ps asg body _)=>match setsS nt ps.toList args tm with
   | some T=>some { fn,nt,tm:=T,todo:=[.code asg,.beginRound,.code body],df:=[],rd:=some id }
   | none=>none
 | _=>none
theorem roundF_ok {C:Ct} {hc:Nat→Option Obj} {w0:World} {ρ:Dyn} {H:Hp} {w:World} {P:Program} (hh:HpRel C hc w0 ρ H w) {id b:Nat} {args:List SV} {us:List Value} {f':Fr} (hb:ρ.bl id=some b) (ha:SV.IsL C.σ ρ args us) (h:roundF H id args=some f') :
  ∃ g tmps asg body,(Instr.yield b us.toArray).run P w=.ok (.round b g tmps asg body) w∧FrIs C.σ ρ f' (Frame.round b g tmps asg body .normal):=by
 unfold roundF at h
 split at h
 ·rename_i st pd fn nt tm ps asg body df hg
  obtain ⟨b',o,e1,e2,tmps,d,e3,e4,rfl⟩:=hh.blk id _ hg rfl
  rw [hb] at e1;cases e1
  split at h
  ·rename_i T hT
   cases h
   obtain ⟨h3,h4⟩:=setsS_ok ha e3 hT
   refine ⟨fn,_,asg,body,run_yield e2 (by simpa using h3),?_⟩
   refine ⟨(ps.toList.zip us).foldl (fun tmps (p:Tmp×Value)=>tmps.setIfInBounds p.1 p.2) tmps,[],[.code asg,.beginRound,.code body],some b,⟨?_,h4,⟨_,_,rfl,rfl,_,_,rfl,rfl,_,_,rfl,rfl,rfl⟩,⟨[],[],rfl,rfl,rfl⟩,b,hb,rfl⟩⟩
   simp only [Frame.round,Frame.atR,bF,kdOf]
   congr 1
   rw [← Array.foldl_toList,Array.toList_zip]
  ·cases h
 ·cases h
noncomputable def wantS (cc:Cc) (H:Hp) (T:List (Nat×SV)) (ops:Array Oper) (o:Oper):Option DR:=
 match o.guard with
 | none=>some (.yes true)
 | some (j,b)=>match (ops[j]?).bind (·.dst) with
   | some d=>match get T d with
     | some (.bo p)=>match dec (bdOf cc H) H.facts p with
       | .yes x=>some (.yes (x == b))
       | .ask q=>some (.ask q)
     | some (.tp _)=>some (.yes false)
     | _=>none
   | none=>none
theorem wantS_ok {cc:Cc} {C:Ct} (hcc:cc.Ok C) {hc:Nat→Option Obj} {w0:World} {ρ:Dyn} {H:Hp} {w:World} (hh:HpRel C hc w0 ρ H w) {nt:Nat} {T:List (Nat×SV)} {tmps:Array Value} (ht:TmRel C.σ ρ nt T tmps) {ops:Array Oper} {o:Oper} {r:DR}
  (h:wantS cc H T ops o=some r):(∀ x,r=.yes x→Region.wanted o (yielded ops tmps)=x)∧(∀ q,r=.ask q→∃ b,q.den C.σ ρ=some b):=by
 unfold wantS at h
 split at h
 ·rename_i hg
  cases h
  exact ⟨(fun x e=>by cases e;simp [Region.wanted,hg]),(fun q e=>by cases e)⟩
 ·rename_i j b hg
  split at h
  ·rename_i d hd
   split at h
   ·rename_i p hp
    have h1:=ht.get d _ hp
    simp only [SV.Is] at h1
    obtain ⟨x,e1,e2⟩:=h1
    have hlt:d < tmps.size:=by
     rcases Nat.lt_or_ge d tmps.size with h | h
     ·exact h
     ·simp [Array.getElem?_eq_none h,undef] at e2
    have hget:tmps[d]? = some (.bool x):=by
     rw [Array.getD_eq_getD_getElem?,Array.getElem?_eq_getElem hlt] at e2
     rw [Array.getElem?_eq_getElem hlt];simpa using e2
    have hy:yielded ops tmps j=some x:=by simp [yielded,hd,hget]
    split at h
    ·rename_i y he
     cases h
     have:=dec_ok (bdOf_ok hcc hh) hh.facts e1 he;subst this
     refine ⟨fun z e=>?_,(fun q e=>by cases e)⟩
     cases e
     simp only [Region.wanted,hg,hy]
     cases y<;>cases b<;>rfl
    ·rename_i q he
     cases h
     refine ⟨(fun z e=>by cases e),fun q' e=>?_⟩
     cases e
     exact ask_den (bdOf_ok hcc hh) hh.facts e1 he
   ·rename_i l hp
    cases h
    have h1:=ht.get d _ hp
    simp only [SV.Is] at h1
    obtain ⟨vs,e1,e2⟩:=h1
    have hy:yielded ops tmps j=none:=by
     unfold yielded
     rw [hd]
     simp only [Option.bind_some]
     rcases Nat.lt_or_ge d tmps.size with hlt | h
     ·rw [Array.getD_eq_getD_getElem?,Array.getElem?_eq_getElem hlt] at e2
      rw [Array.getElem?_eq_getElem hlt]
      simp only [Option.getD_some] at e2
      rw [e2]
     ·rw [Array.getElem?_eq_none h]
    refine ⟨fun z e=>?_,(fun q e=>by cases e)⟩
    cases e
    simp only [Region.wanted,hg,hy]
    cases b<;>rfl
   ·cases h
  ·cases h
end Go.Sx
namespace Go.Sx
open Go.RowKit
inductive Dr where
 | ok (T:List (Nat×SV)) (H:Hp)
 | par (x:List (Nat×SV)×Hp) (l:List (List (Nat×SV)×Hp))
 | upto (i:Nat) (T:List (Nat×SV)) (H:Hp)
 | ask (p:SB)
 | bad (why:Nat)
def DrOk (cc:Cc) (C:Ct) (draw:Nat→List (Nat×SV)→Hp→Array Oper→Dr):Prop:=
 ∀ hc w0 (cs:List Frame) ρ H w nt T tmps df (ro:Option Nat) fn kd k ops id,HpRel C hc w0 ρ H w→TmRel C.σ ρ nt T tmps→
   match draw nt T H ops with
   | .ok T' H'=>∃ ρ' tmps' w',Tn ρ H w ρ' H' w'∧Steps cc.P (lone ((bF fn ro kd).atR { tmps:=tmps,defers:=df } (.code (.region id ops true)::k)) cs w) (lone ((bF fn ro kd).atR { tmps:=tmps',defers:=df } k) cs w')∧
     TmRel C.σ ρ' nt T' tmps'∧HpRel C hc w0 ρ' H' w'
   | .par x l=>∃ y∈x::l,∃ ρ' tmps' w',Tn ρ H w ρ' y.2 w'∧Steps cc.P (lone ((bF fn ro kd).atR { tmps:=tmps,defers:=df } (.code (.region id ops true)::k)) cs w) (lone ((bF fn ro kd).atR { tmps:=tmps',defers:=df } k) cs w')∧
     TmRel C.σ ρ' nt y.1 tmps'∧HpRel C hc w0 ρ' y.2 w'
   | .upto i T' H'=>∃ ρ' tmps' w',Tn ρ H w ρ' H' w'∧Steps cc.P (lone ((bF fn ro kd).atR { tmps:=tmps,defers:=df } (.code (.region id ops true)::k)) cs w) (lone ((bF fn ro kd).atR { tmps:=tmps',defers:=df } (.inRegion ops [i]::k)) cs w')∧
     TmRel C.σ ρ' nt T' tmps'∧HpRel C hc w0 ρ' H' w'
   | .ask p=>∃ b,p.den C.σ ρ=some b
   | .bad _=>True
noncomputable def inD (D:List Nat) (es:List Edge):Bool:=
 List.rec (motive:=fun _=>Bool) true (fun e _ ih=>bif Region.binds .any e then (bif lmem D e.on then ih else false) else ih) es
noncomputable def rdyL (D:List Nat) (ops:List Oper):Nat→List Nat:=
 List.rec (motive:=fun _=>Nat→List Nat) (fun _=>[]) (fun o _ ih i=>bif lmem D i then ih (Nat.succ i) else (bif inD D o.after.toList then i::ih (Nat.succ i) else ih (Nat.succ i))) ops
noncomputable def lflat {α β:Type} (f:α→List β) (l:List α):List β:=List.rec (motive:=fun _=>List β) [] (fun a _ ih=>lapp (f a) ih) l
noncomputable def ordsL (ops:List Oper) (n:Nat):List Nat→List (List Nat):=
 Nat.rec (motive:=fun _=>List Nat→List (List Nat)) (fun _=>[[]]) (fun _ ih D=>match rdyL D ops 0 with
  | []=>[[]]
  | r::rs=>lflat (fun i=>lmap (fun l=>i::l) (ih (i::D))) (r::rs)) n
noncomputable def ordsC (ops:Array Oper):List (List Nat):=
 bif Nat.ble ops.size 9 then (bif Nat.ble (llen (ordsL ops.toList ops.size [])) 12 then ordsL ops.toList ops.size [] else []) else []
theorem inD_iff {D:List Nat}:∀ {es:List Edge},inD D es=true↔∀ e∈es,Region.binds .any e=true→e.on∈D
 | []=>by simp [inD]
 | e::es=>by
   have h:inD D (e::es)=(bif Region.binds .any e then (bif lmem D e.on then inD D es else false) else inD D es):=rfl
   rw [h]
   cases hb:Region.binds .any e with
   | false=>
     rw [cond_false,inD_iff]
     exact ⟨fun k x hx hb2=>by
      rcases List.mem_cons.1 hx with rfl | hx
      ·rw [hb] at hb2;cases hb2
      ·exact k x hx hb2,fun k x hx=>k x (List.mem_cons_of_mem _ hx)⟩
   | true=>
     rw [cond_true]
     cases hm:lmem D e.on with
     | false=>
       refine ⟨fun k=>(by cases k),fun k=>?_⟩
       have:=lmem_iff.2 (k e (List.mem_cons_self ..) hb)
       rw [hm] at this;cases this
     | true=>
       rw [cond_true,inD_iff]
       exact ⟨fun k x hx hb2=>by
        rcases List.mem_cons.1 hx with rfl | hx
        ·exact lmem_iff.1 hm
        ·exact k x hx hb2,fun k x hx=>k x (List.mem_cons_of_mem _ hx)⟩
theorem mem_rdyL {D:List Nat}:∀ {ops:List Oper} {n i:Nat},i∈rdyL D ops n↔∃ j o,i=n+j∧ops[j]? = some o∧i ∉ D∧∀ e∈o.after,Region.binds .any e=true→e.on∈D
 | [],n,i=>by simp [rdyL]
 | o::ops,n,i=>by
   have h:rdyL D (o::ops) n=(bif lmem D n then rdyL D ops (n+1) else (bif inD D o.after.toList then n::rdyL D ops (n+1) else rdyL D ops (n+1))):=rfl
   have rest:i∈rdyL D ops (n+1)↔∃ j o',i=n+(j+1)∧ops[j]? = some o'∧i ∉ D∧∀ e∈o'.after,Region.binds .any e=true→e.on∈D:=by
    rw [mem_rdyL]
    exact ⟨fun ⟨j,o',a,b⟩=>⟨j,o',by omega,b⟩,fun ⟨j,o',a,b⟩=>⟨j,o',by omega,b⟩⟩
   have all:(∃ j o',i=n+j∧(o::ops)[j]? = some o'∧i ∉ D∧∀ e∈o'.after,Region.binds .any e=true→e.on∈D)↔(i=n∧i ∉ D∧∀ e∈o.after,Region.binds .any e=true→e.on∈D)∨∃ j o',i=n+(j+1)∧ops[j]? = some o'∧i ∉ D∧∀ e∈o'.after,Region.binds .any e=true→e.on∈D:=by
    constructor
    ·rintro ⟨j,o',a,b,c⟩
     cases j with
     | zero=>simp only [List.getElem?_cons_zero,Option.some.injEq] at b;subst b;exact .inl ⟨by omega,c⟩
     | succ j=>exact .inr ⟨j,o',a,by simpa using b,c⟩
    ·rintro (⟨a,c⟩ | ⟨j,o',a,b,c⟩)
     ·exact ⟨0,o,by omega,rfl,c⟩
     ·exact ⟨j+1,o',a,by simpa using b,c⟩
   rw [all,← rest,h]
   cases hm:lmem D n with
   | true=>
     rw [cond_true]
     exact ⟨.inr,fun k=>k.elim (fun ⟨a,b,_⟩=>absurd (by rw [a];exact lmem_iff.1 hm) b) id⟩
   | false=>
     rw [cond_false]
     have hn:n ∉ D:=fun k=>by have:=lmem_iff.2 k;rw [hm] at this;cases this
     cases hi:inD D o.after.toList with
     | true=>
       rw [cond_true,List.mem_cons]
       have:=inD_iff.1 hi
       exact ⟨fun k=>k.elim (fun a=>.inl ⟨a,by rw [a];exact hn,fun e he=>this e (Array.mem_toList_iff.2 he)⟩) .inr,fun k=>k.elim (fun a=>.inl a.1) .inr⟩
     | false=>
       rw [cond_false]
       refine ⟨.inr,fun k=>k.elim (fun ⟨_,_,a⟩=>?_) id⟩
       have:=inD_iff.2 (fun e he=>a e (Array.mem_toList_iff.1 he))
       rw [hi] at this;cases this
theorem mem_lflat {α β:Type} {f:α→List β} {b:β}:∀ {l:List α},b∈lflat f l↔∃ a∈l,b∈f a
 | []=>by simp [lflat]
 | a::l=>by
   show b∈lapp (f a) (lflat f l)↔_
   rw [lapp_eq,List.mem_append,mem_lflat];simp
theorem ordsL_mem {ops:Array Oper}:∀ (fuel t:Nat) (listed:Array Bool) (D:List Nat),listed.size=ops.size→(∀ j,listed.getD j false=true↔j∈D)→Region.linearise.go .any ops fuel t listed []∈ordsL ops.toList fuel D
 | 0,t,listed,D,hs,hD=>by
   show []∈[[]]
   simp
 | fuel+1,t,listed,D,hs,hD=>by
   have hiff:∀ i,i∈Region.ready .any ops listed↔i∈rdyL D ops.toList 0:=by
    intro i
    rw [mem_ready,mem_rdyL]
    constructor
    ·rintro ⟨h0,o,ho,hall⟩
     refine ⟨i,o,by omega,by simpa using ho,fun k=>?_,fun e he hb=>(hD _).1 (hall e he hb)⟩
     have h1:=(hD i).2 k
     have hi:i < listed.size:=by rw [hs];exact (Array.getElem?_eq_some_iff.1 ho).1
     simp only [Array.getD_eq_getD_getElem?,Array.getElem?_eq_getElem hi,Option.getD_some] at h0 h1
     rw [h0] at h1;cases h1
    ·rintro ⟨j,o,e,ho,hn,hall⟩
     have:i=j:=by omega
     subst this
     have ho':ops[i]? = some o:=by simpa using ho
     refine ⟨?_,o,ho',fun e he hb=>(hD _).2 (hall e he hb)⟩
     have hi:i < listed.size:=by rw [hs];exact (Array.getElem?_eq_some_iff.1 ho').1
     have h1:¬ listed.getD i false=true:=fun k=>hn ((hD i).1 k)
     simp only [Array.getD_eq_getD_getElem?,Array.getElem?_eq_getElem hi,Option.getD_some] at h1 ⊢
     simpa using h1
   show (match (Region.ready .any ops listed)[t % (Region.ready .any ops listed).length]? with
    | some i=>Region.linearise.go .any ops fuel (t / (Region.ready .any ops listed).length) (listed.setIfInBounds i true) [i]
    | none=>[].reverse)∈(match rdyL D ops.toList 0 with
    | []=>[[]]
    | r::rs=>lflat (fun i=>lmap (fun l=>i::l) (ordsL ops.toList fuel (i::D))) (r::rs))
   cases hr:(Region.ready .any ops listed)[t % (Region.ready .any ops listed).length]? with
   | none=>
     have hnil:rdyL D ops.toList 0=[]:=by
      cases hc:rdyL D ops.toList 0 with
      | nil=>rfl
      | cons r rs=>
        exfalso
        have:=(hiff r).2 (by rw [hc];exact List.mem_cons_self ..)
        have hp:=List.length_pos_of_mem this
        have h1:=List.getElem?_eq_none_iff.1 hr
        have:=Nat.mod_lt t hp
        omega
     rw [hnil];simp
   | some i=>
     have hmem:=List.mem_of_getElem? hr
     have hi:=(hiff i).1 hmem
     obtain ⟨_,o,ho,_⟩:=mem_ready.1 hmem
     have hlt:i < listed.size:=by rw [hs];exact (Array.getElem?_eq_some_iff.1 ho).1
     have e:Region.linearise.go .any ops fuel (t / (Region.ready .any ops listed).length) (listed.setIfInBounds i true) [i]=i::Region.linearise.go .any ops fuel (t / (Region.ready .any ops listed).length) (listed.setIfInBounds i true) []:=by
      rw [linearise_go_acc];rfl
     have ih:=ordsL_mem fuel (t / (Region.ready .any ops listed).length) (listed.setIfInBounds i true) (i::D) (by simpa using hs) (fun j=>by
      rw [List.mem_cons,← hD j]
      by_cases hj:j=i
      ·subst hj;simp [hlt]
      ·simp only [hj,false_or]
       simp only [Array.getD_eq_getD_getElem?,Array.getElem?_setIfInBounds_ne (show i≠j from fun k=>hj k.symm)])
     dsimp only
     rw [e]
     cases hc:rdyL D ops.toList 0 with
     | nil=>rw [hc] at hi;cases hi
     | cons r rs=>
       rw [hc] at hi
       exact mem_lflat.2 ⟨i,hi,by rw [lmap_eq];exact List.mem_map.2 ⟨_,ih,rfl⟩⟩
noncomputable def callS (cc:Cc) (E:Ents) (f:Fr) (fs:List Fr) (H:Hp) (g:FuncId) (args:List SV):Sp:=
 match fent E H g args with
 | .ok z H'=>match finS f z with
   | some f'=>.go f' fs H'
   | none=>.bad 210
 | .ask p=>.ask p
 | .bad=>.bad 213
 | .no=>match cc.P.funcs[g]? with
   | some fn=>match fn.body with
     | some body=>.go (enterF g fn body args) (f::fs) H
     | none=>.bad 211
   | none=>.bad 212
noncomputable def codeS (cc:Cc) (_:Ents) (draw:Nat→List (Nat×SV)→Hp→Array Oper→Dr) (f:Fr) (fs:List Fr) (H:Hp) (c:Code) (k:List It):Sp:=
 match c with
 | .ret=>leaveS cc f fs H (some .ret)
 | .skip=>.go { f with todo:=k } fs H
 | .label _=>.go { f with todo:=k } fs H
 | .seq a b=>.go { f with todo:=.code a::.code b::k } fs H
 | .cond x a b=>match ev f.tm x with
   | .bo p=>match dec (bdOf cc H) H.facts p with
     | .yes true=>.go { f with todo:=.code a::k } fs H
     | .yes false=>.go { f with todo:=.code b::k } fs H
     | .ask q=>.ask q
   | _=>.bad 220
 | .block id b=>.go { f with todo:=.code b::.inBlock id::k } fs H
 | .loop b=>.go { f with todo:=.code b::.inLoop b::k } fs H
 | .scope b=>.go { f with todo:=.code b::.inScope b::k } fs H
 | .exit id=>match exitS id k with
   | some k'=>.go { f with todo:=k' } fs H
   | none=>match f.rd with
     | some _=>leaveS cc f fs H (some (.exit id))
     | none=>.bad 221
 | .goto l=>match gotoS l k with
   | some k'=>.go { f with todo:=k' } fs H
   | none=>match f.rd with
     | some _=>leaveS cc f fs H (some (.goto l))
     | none=>.bad 222
 | .rangeFunc g ps asg body=>match ev f.tm g with
   | .fn gf a cp=>match cc.P.funcs[gf]? with
     | some fn=>match fn.body with
       | some gb=>match f.rd with
         | none=>
           let H1:=H.alloc .dfr
           let H2:=H1.alloc (.loop .ready none f.fn f.nt f.tm ps asg body H.nb)
           .go (enterF gf fn gb (lapp a (.yl (Nat.succ H.nb)::cp))) ({ f with todo:=.inRangeFunc (Nat.succ H.nb)::k,df:=H.nb::f.df }::fs) H2
         | some l=>match get H.heap l with
           | some (.loop _ _ _ _ _ _ _ _ df)=>
             .go (enterF gf fn gb (lapp a (.yl H.nb::cp))) ({ f with todo:=.inRangeFunc H.nb::k }::fs) (H.alloc (.loop .ready none f.fn f.nt f.tm ps asg body df))
           | _=>.bad 223
       | none=>.bad 224
     | none=>.bad 225
   | _=>.bad 226
 | .region _ ops d=>match d with
   | false=>.go { f with todo:=.inRegion ops (List.range ops.size)::k } fs H
   | true=>match draw f.nt f.tm H ops with
     | .ok T' H'=>.go { f with tm:=T',todo:=k } fs H'
     | .par x l=>.par ({ f with tm:=x.1,todo:=k },fs,x.2) (lmap (fun y=>({ f with tm:=y.1,todo:=k },fs,y.2)) l)
     | .upto i T' H'=>.go { f with tm:=T',todo:=.inRegion ops [i]::k } fs H'
     | .ask p=>.ask p
     | .bad n=>match (bif Nat.beq n 253 then ordsC ops else []) with
       | []=>.bad n
       | o::l=>.par ({ f with todo:=.inRegion ops o::k },fs,H) (lmap (fun o=>({ f with todo:=.inRegion ops o::k },fs,H)) l)
 | .refuse _=>.bad 227
noncomputable def insDc (x:It) (l:List It):List It:=
 List.rec (motive:=fun _=>List It) [x] (fun y r ih=>match y with | .dc _ _ _=>x::y::r | _=>y::ih) l
noncomputable def spcS (cc:Cc) (f:Fr) (fs:List Fr) (H:Hp) (op:Op):Option Sp:=
 match op with
 | .panic x=>match ev f.tm x with
   | .fc t z=>some (panS cc (.fc t z) (f::fs) H)
   | _=>some (.bad 270)
 | .defer c=>match f.rd,f.df,c.callee with
   | none,[],.value g=>match ev f.tm g with
     | .fn gf a cp=>match finS f (.tp []) with
       | some f'=>some (.go { f' with todo:=insDc (.dc gf (lapp a (evs f.tm c.args)) cp) f'.todo } fs H)
       | none=>some (.bad 271)
     | _=>some (.bad 272)
   | _,_,_=>some (.bad 273)
 | .call c=>match c.callee with
   | .builtin .recover=>match f.rd,kdOf f.todo with
     | none,.normal=>match finS f .fcn with | some f'=>some (.go f' fs H) | none=>some (.bad 274)
     | none,.deferred=>match fs with
       | p::t=>match p.todo with
         | .mdR::_=>match finS f .fcn with | some f'=>some (.go f' fs H) | none=>some (.bad 274)
         | .mdP v r::l=>match r with
           | true=>match finS f .fcn with | some f'=>some (.go f' fs H) | none=>some (.bad 274)
           | false=>match finS f v with | some f'=>some (.go f' ({ p with todo:=.mdP v true::l }::t) H) | none=>some (.bad 274)
         | _=>some (.bad 275)
       | []=>some (.bad 276)
     | _,_=>some (.bad 277)
   | _=>none
 | _=>none
noncomputable def opS (cc:Cc) (E:Ents) (f:Fr) (fs:List Fr) (H:Hp) (ops:Array Oper) (i:Nat):Sp:=
 match ops[i]? with
 | none=>.bad 230
 | some o=>match wantS cc H f.tm ops o with
   | some (.yes false)=>match finS f (.tp []) with
     | some f'=>.go f' fs H
     | none=>.bad 231
   | some (.yes true)=>match spcS cc f fs H o.op with
     | some x=>x
     | none=>match symOp cc H f.tm o.op with
     | .val z H'=>match finS f z with
       | some f'=>.go f' fs H'
       | none=>.bad 232
     | .enter g args=>callS cc E f fs H g args
     | .round id args=>match roundF H id args with
       | some g=>.go g (f::fs) H
       | none=>.bad 233
     | .ask p=>.ask p
     | .bad n=>.bad n
   | some (.ask q)=>.ask q
   | none=>.bad 234
def pdS (pd:Option Code) (k:List It):List It:=match pd with | some c=>.code c::k | none=>k
noncomputable def stp (cc:Cc) (E:Ents) (draw:Nat→List (Nat×SV)→Hp→Array Oper→Dr) (f:Fr) (fs:List Fr) (H:Hp):Sp:=
 match f.todo with
 | []=>leaveS cc f fs H none
 | x::k=>match x with
   | .code c=>codeS cc E draw f fs H c k
   | .inBlock _=>.go { f with todo:=k } fs H
   | .inScope _=>.go { f with todo:=k } fs H
   | .inLoop b=>.go { f with todo:=.code b::.inLoop b::k } fs H
   | .inRegion ops l=>match l with
     | []=>.go { f with todo:=k } fs H
     | i::_=>opS cc E f fs H ops i
   | .inRangeFunc _=>.bad 240
   | .dfd=>leaveS cc f fs H none
   | .dc _ _ _=>leaveS cc f fs H none
   | .mdR=>.bad 245
   | .mdP _ _=>.bad 246
   | .beginRound=>match f.rd with
     | some l=>match get H.heap l with
       | some (.loop .ready pd fn nt tm ps asg body df)=>.go { f with todo:=k } fs (H.put l (.loop .busy pd fn nt tm ps asg body df))
       | _=>.bad 241
     | none=>.bad 242
   | .endRangeFunc l=>match get H.heap l with
     | some (.loop st pd fn nt tm ps asg body df)=>match st with
       | .busy=>.bad 243
       | _=>.go { f with todo:=pdS pd k } fs (H.put l (.loop .exhausted pd fn nt tm ps asg body df))
     | _=>.bad 244
section
variable {cc:Cc} {C:Ct} {hc:Nat→Option Obj} {w0:World} {cs:List Frame} {ρ ρ':Dyn} {f:Fr} {fs:List Fr} {H:Hp} {w:World}
theorem stepR_scope {P:Program} {b:Frame} {a:Act} {k:List Item} {cs:List Frame} {w:World} {c:Code} :
  step P (lone (b.atR a (.code (.scope c)::k)) cs w)=.next (lone (b.atR a (.code c::.inScope c::k)) cs w):=
 step_lone_go (by simp [stepG,stepG.exec,Frame.atR])
theorem stepR_inScope {P:Program} {b:Frame} {a:Act} {k:List Item} {cs:List Frame} {w:World} {c:Code} :
  step P (lone (b.atR a (.inScope c::k)) cs w)=.next (lone (b.atR a k) cs w):=
 step_lone_go (by simp [stepG,stepG.exec,Frame.atR])
theorem step_val {P:Program} {b:Frame} {a:Act} {k:List Item} {cs:List Frame} {w w':World} {ops:Array Oper} {i:Nat} {rest:List Nat} {o:Oper} {n:Next} {u:Value} (ho:ops[i]? = some o)
  (hw:Region.wanted o (yielded ops a.tmps)=true) (hd:∀ c,o.op≠.defer c) (hr:(execOp a.eval o).run P w=.ok n w') (hn:n=.value u∨(n=.skip∧u=undef)) :
  step P (lone (b.atR a (.inRegion ops (i::rest)::k)) cs w)=.next (lone ((b.atR a (.inRegion ops (i::rest)::k)).finish u) cs w'):=by
 refine step_lone_go ?_
 rw [stepGR_op ho hw,Oper.semAt_eq _ _ _ hd]
 rcases hn with rfl | ⟨rfl,rfl⟩<;>simp [stepG.apply,Sem.runT_eq,hr,GStep.bare_after]
theorem step_enter {P:Program} {b:Frame} {a:Act} {k:List Item} {cs:List Frame} {w w':World} {ops:Array Oper} {i:Nat} {rest:List Nat} {o:Oper} {g:FuncId} {args:Array Value} (ho:ops[i]? = some o)
  (hw:Region.wanted o (yielded ops a.tmps)=true) (hd:∀ c,o.op≠.defer c) (hr:(execOp a.eval o).run P w=.ok (.enter g args) w') :
  step P (lone (b.atR a (.inRegion ops (i::rest)::k)) cs w)=.next (lone (Frame.enter P g args .normal) (b.atR a (.inRegion ops (i::rest)::k)::cs) w'):=by
 refine step_lone_go ?_
 rw [stepGR_op ho hw,Oper.semAt_eq _ _ _ hd]
 simp [stepG.apply,Sem.runT_eq,hr,GStep.bare_after,Frame.atR]
theorem step_round {P:Program} {b:Frame} {a:Act} {k:List Item} {cs:List Frame} {w w':World} {ops:Array Oper} {i:Nat} {rest:List Nat} {o:Oper} {l g:Nat} {tmps:Array Value} {asg body:Code} (ho:ops[i]? = some o)
  (hw:Region.wanted o (yielded ops a.tmps)=true) (hd:∀ c,o.op≠.defer c) (hr:(execOp a.eval o).run P w=.ok (.round l g tmps asg body) w') :
  step P (lone (b.atR a (.inRegion ops (i::rest)::k)) cs w)=.next (lone (Frame.round l g tmps asg body .normal) (b.atR a (.inRegion ops (i::rest)::k)::cs) w'):=by
 refine step_lone_go ?_
 rw [stepGR_op ho hw,Oper.semAt_eq _ _ _ hd]
 simp [stepG.apply,Sem.runT_eq,hr,GStep.bare_after,Frame.atR]
theorem symOp_defer (c:Call) (T:List (Nat×SV)):symOp cc H T (.defer c)=.bad 117:=rfl
end
end Go.Sx
namespace Go.Sx
set_option linter.unusedVariables false
set_option linter.unusedSimpArgs false
open Go.RowKit
section
variable {cc:Cc} {C:Ct} {E:Ents} {draw:Nat→List (Nat×SV)→Hp→Array Oper→Dr} {hc:Nat→Option Obj} {w0:World} {cs:List Frame} {ρ ρ':Dyn} {f:Fr} {fs:List Fr} {H:Hp} {w:World}
theorem callS_ok (hE:EntsOk cc C E) {fr:Frame} {frs:List Frame} {g:FuncId} {args:List SV} {us:List Value} (hf:FrIs C.σ ρ f fr) (hfs:FsRel C.σ ρ fs frs) (hh:HpRel C hc w0 ρ H w) (ha:SV.IsL C.σ ρ args us) {m:Machine} (hm:m.world=w)
  (hs:Steps cc.P m (lone (Frame.enter cc.P g us.toArray .normal) (fr::(frs++cs)) w)):(callS cc E f fs H g args).Ok cc C hc w0 cs ρ f fs H m:=by
 unfold callS
 split
 ·rename_i z H' he
  split
  ·rename_i f' hf'
   obtain ⟨app,hok,happ⟩:=fent_ok hE he
   obtain ⟨e,w',fr1,⟨ρ',u,rfl,h1,h2,h3⟩,hc1,_,hleave⟩:=(hok hc w0 ρ H w args us hh ha).1 z H' happ (fr::(frs++cs))
   have hle:=Dyn.Ag.le hh h1.ag
   obtain ⟨k1,k2,k3⟩:=finS_ok (hf.mono hle) h2 hf'
   exact ⟨ρ',_,by rw [hm];exact h1,(hs.trans hc1).trans (.one (step_leave_returned hleave)),⟨_,frs,w',rfl,k1,hfs.mono hle,h3⟩,botOf_upd fs k2 k3⟩
  ·trivial
 ·rename_i p he
  obtain ⟨app,hok,happ⟩:=fent_ask hE he
  exact (hok hc w0 ρ H w args us hh ha).2 p happ
 ·trivial
 ·split
  ·rename_i fn hfn
   split
   ·rename_i body hb
    exact ⟨ρ,_,by rw [hm];exact Tn.refl ρ H w,hs,⟨_,fr::frs,w,rfl,enterF_ok hfn hb ha,⟨fr,frs,rfl,.inl hf,hfs⟩,hh⟩,botOf_push f _ fs⟩
   ·trivial
  ·trivial
theorem step_panic {P:Program} {b:Frame} {a:Act} {k:List Item} {cs:List Frame} {w w':World} {ops:Array Oper} {i:Nat} {rest:List Nat} {o:Oper} {v:Value} (ho:ops[i]? = some o)
  (hw:Region.wanted o (yielded ops a.tmps)=true) (hd:∀ c,o.op≠.defer c) (hr:(execOp a.eval o).run P w=.halt (.panic v) w') :
  step P (lone (b.atR a (.inRegion ops (i::rest)::k)) cs w)=.next (lone ((b.atR a (.inRegion ops (i::rest)::k)).raise [{ v:=v,recovered:=false }]) cs w'):=by
 refine step_lone_go ?_
 rw [stepGR_op ho hw,Oper.semAt_eq _ _ _ hd]
 simp [stepG.apply,Sem.runT_eq,hr,GStep.bare_after]
theorem step_dfr {P:Program} {b:Frame} {a:Act} {k:List Item} {cs:List Frame} {w w':World} {ops:Array Oper} {i:Nat} {rest:List Nat} {o:Oper} {d:Deferred} (ho:ops[i]? = some o)
  (hw:Region.wanted o (yielded ops a.tmps)=true) (hb:b.roundOf=none) (hr:(execOp a.eval o).run P w=.ok (.defer d) w') :
  step P (lone (b.atR a (.inRegion ops (i::rest)::k)) cs w)=.next (lone (b.atR (({ tmps:=a.tmps,defers:=d::a.defers }:Act).put o.dst undef) (.inRegion ops rest::k)) cs w'):=by
 have hfin:=Frame.finish_atR b { tmps:=a.tmps,defers:=d::a.defers } ops i rest k undef
 rw [ho] at hfin
 refine step_lone_go ?_
 rw [stepGR_op ho hw,hb,Oper.semAt_none]
 simp only [stepG.apply,Sem.runT_eq,hr,GStep.bare_after]
 exact congrArg (fun fr=>GStep.go { frame:=fr,callers:=cs,status:=.running,dying:=none } w') hfin
theorem step_recover {P:Program} {b:Frame} {a:Act} {k:List Item} {cs:List Frame} {w w':World} {ops:Array Oper} {i:Nat} {rest:List Nat} {o:Oper} (ho:ops[i]? = some o)
  (hw:Region.wanted o (yielded ops a.tmps)=true) (hb:b.roundOf=none) (hr:(execOp a.eval o).run P w=.ok .recover w') :
  step P (lone (b.atR a (.inRegion ops (i::rest)::k)) cs w)=(match tryRecover (b.atR a (.inRegion ops (i::rest)::k)) cs with
   | some (v,cs')=>.next (lone ((b.atR a (.inRegion ops (i::rest)::k)).finish v) cs' w')
   | none=>.next (lone ((b.atR a (.inRegion ops (i::rest)::k)).finish .nilIface) cs w')):=by
 have hro:(b.atR a (.inRegion ops (i::rest)::k)).roundOf=none:=hb
 split
 ·rename_i v cs' ht
  refine step_lone_go ?_
  rw [stepGR_op ho hw,hb,Oper.semAt_none]
  simp [stepG.apply,Sem.runT_eq,hr,GStep.bare_after,hro,ht]
 ·rename_i ht
  refine step_lone_go ?_
  rw [stepGR_op ho hw,hb,Oper.semAt_none]
  simp [stepG.apply,Sem.runT_eq,hr,GStep.bare_after,hro,ht]
theorem insDc_td {ρ:Dyn} {g:FuncId} {a c:List SV}:∀ {l:List It} {k:List Item},TdRel ρ l k→TdRel ρ (insDc (.dc g a c) l) k
 | [],k,h=>⟨h,rfl⟩
 | y::l,k,h=>by
   cases y
   case dc=>exact ⟨h.1,rfl,h.2⟩
   case dfd=>exact ⟨h.1,insDc_td h.2⟩
   case mdR=>exact h
   case mdP=>exact h
   all_goals
    obtain ⟨x,r,h1,h2,h3⟩:=h
    exact ⟨x,r,h1,h2,insDc_td h3⟩
theorem insDc_dc {σ:Sta} {ρ:Dyn} {g:FuncId} {a c:List SV} {as cp:List Value} {ds:List Deferred} (ha:SV.IsL σ ρ a as) (hc:SV.IsL σ ρ c cp):∀ {l:List It},DcRel σ ρ l ds→DcRel σ ρ (insDc (.dc g a c) l) ({ target:=.fn (.func g) cp.toArray,args:=as.toArray }::ds)
 | [],h=>⟨as,cp,ds,rfl,ha,hc,h⟩
 | y::l,h=>by
   cases y
   case dc=>exact ⟨as,cp,ds,rfl,ha,hc,h⟩
   all_goals exact insDc_dc (l:=l) ha hc h
theorem insDc_kd {g:FuncId} {a c:List SV}:∀ {l:List It},kdOf (insDc (.dc g a c) l)=kdOf l
 | []=>rfl
 | y::l=>by
   cases y
   case dc=>rfl
   case dfd=>rfl
   all_goals exact insDc_kd (l:=l)
theorem spcS_ok (hcc:cc.Ok C) {fr:Frame} {frs:List Frame} {tmps:Array Value} {df:List Deferred} {kk:List Item} {ro:Option Nat} {ops:Array Oper} {i:Nat} {rest:List Nat} {k:List It} {o:Oper} {x:Sp}
  (hf:FrRel C.σ ρ f fr tmps df kk ro) (hto:f.todo=.inRegion ops (i::rest)::k) (hfs:FsRel C.σ ρ fs frs) (hh:HpRel C hc w0 ρ H w) (ho:ops[i]? = some o) (hw:Region.wanted o (yielded ops tmps)=true)
  (hx:spcS cc f fs H o.op=some x):x.Ok cc C hc w0 cs ρ f fs H (lone fr (frs++cs) w):=by
 have hfr:FrIs C.σ ρ f fr:=⟨tmps,df,kk,ro,hf⟩
 have htd:=hf.todo
 rw [hto] at htd
 obtain ⟨y,K,rfl,h1,hK⟩:=htd
 have h1':y=.inRegion ops (i::rest):=h1
 subst h1'
 have heq:=hf.eq
 have hev:=evOk_of (a:={ tmps:=tmps,defers:=df }) hf.tm
 unfold spcS at hx
 split at hx
 ·
  rename_i x0 hop
  split at hx
  ·rename_i t z hz
   cases hx
   have hv:=hev x0
   rw [hz] at hv
   have hv':(SV.fc t z).Is C.σ ρ (({ tmps:=tmps,defers:=df }:Act).eval x0):=hv
   obtain ⟨u,e1,e2⟩:=hv
   have hr:(execOp ({ tmps:=tmps,defers:=df }:Act).eval o).run cc.P w=.halt (.panic (.iface t u)) w:=by
    simp only [execOp,hop,e2,Instr.panic,goPanic];rfl
   have hst:=step_panic (P:=cc.P) (b:=bF f.fn ro (kdOf f.todo)) (k:=K) (cs:=frs++cs) (rest:=rest) ho hw (fun c h=>by rw [hop] at h;cases h) hr
   rw [← heq] at hst
   exact panS_ok hcc (M:=lone fr (frs++cs) w) (Tn.refl ρ H w) (.inl hfr) hfs hh (by rw [← e2];exact hv') (.one hst)
  ·cases hx;trivial
 ·
  rename_i c hop
  split at hx
  ·rename_i g hrd hdf hcal
   have hro:ro=none:=by have:=hf.rd;rw [hrd] at this;exact this
   subst hro
   split at hx
   ·rename_i gf a cp hg
    have hv:=hev g
    rw [hg] at hv
    obtain ⟨as,cps,e1,e2,e3⟩:=hv
    split at hx
    ·rename_i f' hf'
     cases hx
     obtain ⟨us,hus,husL⟩:∃ us:List Value,(c.args.map ({ tmps:=tmps,defers:=df }:Act).eval)=us.toArray∧SV.IsL C.σ ρ (evs f.tm c.args) us:=⟨(c.args.map ({ tmps:=tmps,defers:=df }:Act).eval).toList,(Array.toArray_toList).symm,evs_is hev c.args⟩
     obtain ⟨d1,d2,hdd,hd1,hd2⟩:=hf.df
     rw [hdf] at hd1
     have:d1=[]:=hd1
     subst this
     rw [List.nil_append] at hdd
     subst hdd
     have hr:(execOp ({ tmps:=tmps,defers:=df }:Act).eval o).run cc.P w=.ok (.defer { target:=.fn (.func gf) cps.toArray,args:=(as++us).toArray }) w:=by
      simp [execOp,hop,resolve,hcal,e3,Deferred.ofValue,hus]
     have hst:=step_dfr (P:=cc.P) (b:=bF f.fn none (kdOf f.todo)) (k:=K) (cs:=frs++cs) (rest:=rest) ho hw rfl hr
     rw [← heq] at hst
     have hL:SV.IsL C.σ ρ (lapp a (evs f.tm c.args)) (as++us):=by rw [lapp_eq];exact SV.isL_append e1 husL
     have hd2':DcRel C.σ ρ k df:=by rw [hto] at hd2;exact hd2
     unfold finS at hf'
     rw [hto] at hf'
     simp only [ho] at hf'
     split at hf'
     ·rename_i dd hdst
      cases hb:Nat.blt dd f.nt with
      | false=>rw [hb] at hf';cases hf'
      | true=>
        rw [hb] at hf';cases hf'
        have hlt:dd < f.nt:=by simpa using hb
        refine ⟨ρ,_,(by exact Tn.refl ρ H w),.one hst,⟨_,frs,w,rfl,⟨tmps.setIfInBounds dd undef,_,.inRegion ops rest::K,none,?_,hf.tm.set hlt (by simp only [SV.Is];exact ⟨[],SV.isL_nil.2 rfl,rfl⟩),⟨_,_,rfl,rfl,insDc_td hK⟩,⟨[],_,rfl,(show DfRel ρ f.df [] by rw [hdf];rfl),insDc_dc hL e2 hd2'⟩,hf.rd⟩,hfs,hh⟩,botOf_upd fs rfl rfl⟩
        have:kdOf (insDc (.dc gf (lapp a (evs f.tm c.args)) cp) (.inRegion ops rest::k))=kdOf f.todo:=by rw [insDc_kd,hto];rfl
        rw [this,hdst];rfl
     ·rename_i hdst
      cases hf'
      refine ⟨ρ,_,(by exact Tn.refl ρ H w),.one hst,⟨_,frs,w,rfl,⟨tmps,_,.inRegion ops rest::K,none,?_,hf.tm,⟨_,_,rfl,rfl,insDc_td hK⟩,⟨[],_,rfl,(show DfRel ρ f.df [] by rw [hdf];rfl),insDc_dc hL e2 hd2'⟩,hf.rd⟩,hfs,hh⟩,botOf_upd fs rfl rfl⟩
      have:kdOf (insDc (.dc gf (lapp a (evs f.tm c.args)) cp) (.inRegion ops rest::k))=kdOf f.todo:=by rw [insDc_kd,hto];rfl
      rw [this,hdst];rfl
    ·cases hx;trivial
   ·cases hx;trivial
  ·cases hx;trivial
 ·
  rename_i c hop
  split at hx
  ·rename_i hcal
   have hr:(execOp ({ tmps:=tmps,defers:=df }:Act).eval o).run cc.P w=.ok .recover w:=by
    simp [execOp,hop,resolve,hcal,invoke,builtin]
   have nil:∀ {x:Sp},f.rd=none→tryRecover fr (frs++cs)=none→(match finS f .fcn with | some f'=>some (Sp.go f' fs H) | none=>some (.bad 274))=some x→x.Ok cc C hc w0 cs ρ f fs H (lone fr (frs++cs) w):=by
    intro x hrd htr hx
    have hro:ro=none:=by have:=hf.rd;rw [hrd] at this;exact this
    subst hro
    have hst:=step_recover (P:=cc.P) (b:=bF f.fn none (kdOf f.todo)) (k:=K) (cs:=frs++cs) (rest:=rest) ho hw rfl hr
    rw [← heq,htr] at hst
    split at hx
    ·rename_i f' hf'
     cases hx
     obtain ⟨k1,k2,k3⟩:=finS_ok (u:=.nilIface) hfr (by simp only [SV.Is]) hf'
     exact ⟨ρ,_,(by exact Tn.refl ρ H w),.one hst,⟨_,frs,w,rfl,k1,hfs,hh⟩,botOf_upd fs k2 k3⟩
    ·cases hx;trivial
   split at hx
   ·rename_i hrd hkd
    refine nil hrd ?_ hx
    have:fr.kind=.normal:=by rw [heq];exact hkd
    unfold tryRecover
    rw [this]
   ·rename_i hrd hkd
    have hro:ro=none:=by have:=hf.rd;rw [hrd] at this;exact this
    have hk:fr.kind=.deferred:=by rw [heq];exact hkd
    split at hx
    ·rename_i p t
     obtain ⟨fp,ft,rfl,hfu,hft⟩:=hfs
     have htr:=tryRecover_deferred hk (fp::ft++cs)
     split at hx
     ·rename_i l hpt
      rcases hfu with ⟨_,_,_,_,hf2⟩ | ⟨m,l',g1,g2,g3,g4⟩
      ·have:=hf2.todo;rw [hpt] at this;exact this.elim
      ·rw [hpt] at g1;cases g1
       have hm:fp.mode=.returning:=g3
       exact nil hrd (by rw [htr];simp [recoverD,hm]) hx
     ·rename_i v r l hpt
      rcases hfu with ⟨_,_,_,_,hf2⟩ | ⟨m,l',g1,g2,g3,g4⟩
      ·have:=hf2.todo;rw [hpt] at this;exact this.elim
      ·rw [hpt] at g1;cases g1
       obtain ⟨u,hu,hm⟩:=g3
       split at hx
       ·exact nil hrd (by rw [htr];simp [recoverD,hm]) hx
       ·split at hx
        ·rename_i f' hf'
         cases hx
         subst hro
         have hst:=step_recover (P:=cc.P) (b:=bF f.fn none (kdOf f.todo)) (k:=K) (cs:=fp::ft++cs) (rest:=rest) ho hw rfl hr
         rw [← heq,htr] at hst
         simp only [List.cons_append,recoverD,hm] at hst
         obtain ⟨k1,k2,k3⟩:=finS_ok hfr hu hf'
         refine ⟨ρ,_,(by exact Tn.refl ρ H w),.one hst,⟨_,{ fp with mode:=.panicking [{ v:=u,recovered:=true }] }::ft,w,rfl,k1,⟨_,_,rfl,.inr ⟨.mdP v true,l,rfl,g2,⟨u,hu,rfl⟩,⟨g4.fn,g4.tm,g4.df,g4.kd,g4.ro,g4.rd⟩⟩,hft⟩,hh⟩,?_⟩
         rw [botOf_upd _ k2 k3]
         rw [botOf_push,botOf_push];exact botOf_upd t rfl rfl
        ·cases hx;trivial
     ·cases hx;trivial
    ·cases hx;trivial
   ·cases hx;trivial
  ·cases hx
 ·cases hx
theorem opS_ok (hcc:cc.Ok C) (hE:EntsOk cc C E) {fr:Frame} {frs:List Frame} {tmps:Array Value} {df:List Deferred} {kk:List Item} {ro:Option Nat} {ops:Array Oper} {i:Nat} {rest:List Nat} {k:List It}
  (hf:FrRel C.σ ρ f fr tmps df kk ro) (hto:f.todo=.inRegion ops (i::rest)::k) (hfs:FsRel C.σ ρ fs frs) (hh:HpRel C hc w0 ρ H w):(opS cc E f fs H ops i).Ok cc C hc w0 cs ρ f fs H (lone fr (frs++cs) w):=by
 have hfr:FrIs C.σ ρ f fr:=⟨tmps,df,kk,ro,hf⟩
 have htd:=hf.todo
 rw [hto] at htd
 obtain ⟨y,K,rfl,h1,hK⟩:=htd
 have h1':y=.inRegion ops (i::rest):=h1
 subst h1'
 have heq:=hf.eq
 unfold opS
 split
 ·trivial
 ·rename_i o ho
  split
  ·rename_i hw
   have hw':=(wantS_ok hcc hh hf.tm hw).1 false rfl
   split
   ·rename_i f' hf'
    obtain ⟨k1,k2,k3⟩:=finS_ok (u:=undef) hfr (by simp only [SV.Is];exact ⟨[],SV.isL_nil.2 rfl,rfl⟩) hf'
    refine ⟨ρ,_,(by exact Tn.refl ρ H w),.one ?_,⟨_,frs,w,rfl,k1,hfs,hh⟩,botOf_upd fs k2 k3⟩
    rw [heq,Frame.finish_atR]
    exact stepR_op_skip (by simp only [ho,Option.map_some,Option.getD_some];exact hw')
   ·trivial
  ·rename_i hw
   have hw':=(wantS_ok hcc hh hf.tm hw).1 true rfl
   split
   ·rename_i x hx
    exact spcS_ok hcc hf hto hfs hh ho hw' hx
   rename_i hspc
   have hop:=symOp_ok hcc hh (evOk_of (a:={ tmps:=tmps,defers:=df }) hf.tm) o
   have hnd:∀ z,symOp cc H f.tm o.op=z→(∀ n,z≠.bad n)→∀ c,o.op≠.defer c:=by
    intro z hz hb c hcd
    rw [hcd,symOp_defer] at hz
    exact hb 117 hz.symm
   split
   ·rename_i z H' hsym
    have hnd':=hnd _ hsym (by simp)
    rw [hsym] at hop
    obtain ⟨ρ',n,u,w',h2,h3,h4,h5,h6⟩:=hop
    have hle:=Dyn.Ag.le hh h2.ag
    split
    ·rename_i f' hf'
     obtain ⟨k1,k2,k3⟩:=finS_ok (hfr.mono hle) h5 hf'
     refine ⟨ρ',_,(by exact h2),.one ?_,⟨_,frs,w',rfl,k1,hfs.mono hle,h6⟩,botOf_upd fs k2 k3⟩
     rw [heq]
     exact step_val ho hw' hnd' h3 h4
    ·trivial
   ·rename_i g args hsym
    have hnd':=hnd _ hsym (by simp)
    rw [hsym] at hop
    obtain ⟨us,h2,h3,_⟩:=hop
    refine callS_ok hE hfr hfs hh h3 rfl (.one ?_)
    rw [heq]
    exact step_enter ho hw' hnd' h2
   ·rename_i id args hsym
    have hnd':=hnd _ hsym (by simp)
    rw [hsym] at hop
    obtain ⟨b,us,h2,h3,h4⟩:=hop
    split
    ·rename_i g hg
     obtain ⟨gf,tm',asg,body,h5,h6⟩:=roundF_ok (P:=cc.P) hh h2 h4 hg
     refine ⟨ρ,_,(by exact Tn.refl ρ H w),.one ?_,⟨_,fr::frs,w,rfl,h6,⟨fr,frs,rfl,.inl hfr,hfs⟩,hh⟩,botOf_push f _ fs⟩
     rw [heq]
     exact step_round ho hw' hnd' (h3.trans h5)
    ·trivial
   ·rename_i p hsym
    rw [hsym] at hop
    exact hop
   ·trivial
  ·rename_i q hw
   exact (wantS_ok hcc hh hf.tm hw).2 q rfl
  ·trivial
theorem run_resolve_range {P:Program} {w:World} {e:Operand→Value} {g:Operand} {l:Nat} {gf:FuncId} {as cp:Array Value} (hg:e g=.func (.func gf) as cp) :
  (resolve e (rangeCall g l) 0).run P w=.ok { target:=.fn (.func gf) cp,args:=as++(rangeCall g l).args.map e } w:=by
 simp [resolve,rangeCall,Deferred.ofValue,hg]
theorem codeS_ok (hcc:cc.Ok C) (hd:DrOk cc C draw) {fr:Frame} {frs:List Frame} {tmps:Array Value} {df:List Deferred} {kk:List Item} {ro:Option Nat} {c:Code} {k:List It}
  (hf:FrRel C.σ ρ f fr tmps df kk ro) (hto:f.todo=.code c::k) (hfs:FsRel C.σ ρ fs frs) (hh:HpRel C hc w0 ρ H w):(codeS cc E draw f fs H c k).Ok cc C hc w0 cs ρ f fs H (lone fr (frs++cs) w):=by
 have htd:=hf.todo
 rw [hto] at htd
 obtain ⟨y,K,rfl,h1,hK⟩:=htd
 have h1':y=.code c:=h1
 subst h1'
 have heq:=hf.eq
 have one:∀ {todo:List It} {k':List Item},TdRel ρ todo k'→step cc.P (lone ((bF f.fn ro (kdOf f.todo)).atR { tmps:=tmps,defers:=df } (.code c::K)) (frs++cs) w)=.next (lone ((bF f.fn ro (kdOf f.todo)).atR { tmps:=tmps,defers:=df } k') (frs++cs) w)→(hv:vr todo=vr k:=by rfl)→
   (Sp.go { f with todo:=todo } fs H).Ok cc C hc w0 cs ρ f fs H (lone fr (frs++cs) w):=fun ht hs hv=>Sp.ok_todo hf hfs hh ht (by rw [hto];exact hv) (.one (by rw [heq];exact hs))
 unfold codeS
 cases c with
 | ret=>
   refine leaveS_ok hcc hf hfs hh (fun hrd _=>?_) (fun l b hrd hkd hb=>?_)
   ·have:=hf.rd
    rw [hrd] at this
    have hro:ro=none:=this
    subst hro
    rw [heq]
    exact .one (stepR_ret rfl)
   ·intro c t w v w' he
    obtain ⟨b',e1,e2⟩:=(by have:=hf.rd;rw [hrd] at this;exact this:∃ b',ρ.bl l=some b'∧ro=some b')
    rw [hb] at e1;cases e1
    subst e2
    rw [heq]
    exact stepR_round_ret rfl hkd he
 | skip=>exact one hK stepR_skip
 | label l=>exact one hK stepR_label
 | seq a b=>exact one ⟨_,_,rfl,rfl,_,_,rfl,rfl,hK⟩ stepR_seq
 | cond x a b=>
   dsimp only
   have hx:=evOk_of (a:={ tmps:=tmps,defers:=df }) hf.tm x
   split
   ·rename_i p hp
    rw [hp] at hx
    simp only [SV.Is] at hx
    obtain ⟨t,e1,e2⟩:=hx
    split
    ·rename_i he
     have:=dec_ok (bdOf_ok hcc hh) hh.facts e1 he;subst this
     exact one ⟨_,_,rfl,rfl,hK⟩ (stepR_cond (t:=true) e2)
    ·rename_i he
     have:=dec_ok (bdOf_ok hcc hh) hh.facts e1 he;subst this
     exact one ⟨_,_,rfl,rfl,hK⟩ (stepR_cond (t:=false) e2)
    ·rename_i q he
     exact ask_den (bdOf_ok hcc hh) hh.facts e1 he
   ·trivial
 | block id b=>exact one ⟨_,_,rfl,rfl,_,_,rfl,rfl,hK⟩ stepR_block
 | loop b=>exact one ⟨_,_,rfl,rfl,_,_,rfl,rfl,hK⟩ stepR_loop
 | scope b=>exact one ⟨_,_,rfl,rfl,_,_,rfl,rfl,hK⟩ stepR_scope
 | exit id=>
   dsimp only
   have hx:=exitS_ok (id:=id) hK
   split
   ·rename_i k' hk'
    obtain ⟨K',e1,e2⟩:=hx.1 k' hk'
    exact one e2 (stepR_exit e1) (exitS_vr hk')
   ·rename_i hk'
    split
    ·rename_i l hrd
     refine leaveS_ok hcc hf hfs hh (fun h=>by rw [hrd] at h;cases h) (fun l' b hrd' hkd hb=>?_)
     intro c t w v w' he
     obtain ⟨b',e1,e2⟩:=(by have:=hf.rd;rw [hrd'] at this;exact this:∃ b',ρ.bl l'=some b'∧ro=some b')
     rw [hb] at e1;cases e1
     subst e2
     rw [heq]
     exact stepR_round_exit rfl hkd (hx.2 hk') he
    ·trivial
 | goto l=>
   dsimp only
   have hx:=gotoS_ok (l:=l) hK
   split
   ·rename_i k' hk'
    obtain ⟨K',e1,e2⟩:=hx.1 k' hk'
    exact one e2 (stepR_goto e1) (gotoS_vr hk')
   ·rename_i hk'
    split
    ·rename_i l hrd
     refine leaveS_ok hcc hf hfs hh (fun h=>by rw [hrd] at h;cases h) (fun l' b hrd' hkd hb=>?_)
     intro c t w v w' he
     obtain ⟨b',e1,e2⟩:=(by have:=hf.rd;rw [hrd'] at this;exact this:∃ b',ρ.bl l'=some b'∧ro=some b')
     rw [hb] at e1;cases e1
     subst e2
     rw [heq]
     exact stepR_round_goto rfl hkd (hx.2 hk') he
    ·trivial
 | rangeFunc g ps asg body=>
   dsimp only
   have hx:=evOk_of (a:={ tmps:=tmps,defers:=df }) hf.tm g
   split
   ·rename_i gf a cp hg
    rw [hg] at hx
    simp only [SV.Is] at hx
    obtain ⟨as,cps,e1,e2,e3⟩:=hx
    split
    ·rename_i fn hfn
     split
     ·rename_i gb hgb
      have hnm:=hcc.names gf fn hfn
      split
      ·rename_i hrd
       have hro:ro=none:=by have:=hf.rd;rw [hrd] at this;exact this
       subst hro
       have hl1:=hh.le_alloc w.heap.size
       have a1:=hh.alloc' (bk:=.dfr) (o:=.deferred (some [])) rfl
       have hsz:(w.alloc (.deferred (some []))).heap.size=w.heap.size+1:=by simp
       have hl2:=a1.le_alloc (w.alloc (.deferred (some []))).heap.size
       have hdf:(((ρ.setBl H.nb w.heap.size).setBl (H.alloc .dfr).nb (w.alloc (.deferred (some []))).heap.size)).bl H.nb=some w.heap.size:=hl2.bl _ _ (Dyn.setBl_same _ _ _)
       have a2:=a1.alloc' (bk:=.loop .ready none f.fn f.nt f.tm ps asg body H.nb) (o:=.loop { state:=.ready,pending:=none,fn:=f.fn,tmps:=tmps,params:=ps,assign:=asg,body,defers:=w.heap.size })
        ⟨tmps,w.heap.size,hf.tm.mono (hl1.trans hl2),hdf,rfl⟩
       have hle:=hl1.trans hl2
       have hnew:((ρ.setBl H.nb w.heap.size).setBl (H.alloc .dfr).nb (w.alloc (.deferred (some []))).heap.size).bl (Nat.succ H.nb)=some (w.heap.size+1):=by
        have:=Dyn.setBl_same (ρ.setBl H.nb w.heap.size) (H.alloc .dfr).nb (w.alloc (.deferred (some []))).heap.size
        rw [hsz] at this ⊢;exact this
       have hen:=run_enterLoop_outer (P:=cc.P) (w:=w) f.fn tmps ps asg body
       have hres:=run_resolve_range (P:=cc.P) (w:=(w.alloc (.deferred (some []))).alloc (.loop { state:=.ready,pending:=none,fn:=f.fn,tmps:=tmps,params:=ps,assign:=asg,body,defers:=w.heap.size })) (e:=({ tmps:=tmps,defers:=df }:Act).eval) (g:=g) (l:=w.heap.size+1) e3
       have hargs:SV.IsL C.σ ((ρ.setBl H.nb w.heap.size).setBl (H.alloc .dfr).nb (w.alloc (.deferred (some []))).heap.size) (lapp a (.yl (Nat.succ H.nb)::cp)) (as++(.func (.yield (w.heap.size+1)) #[] #[]::cps)):=by
        rw [lapp_eq]
        exact SV.isL_append (SV.isL_mono hle _ _ e1) (SV.isL_cons.2 ⟨_,_,rfl,by simp only [SV.Is];exact ⟨_,hnew,rfl⟩,SV.isL_mono hle _ _ e2⟩)
       have hst:step cc.P (lone fr (frs++cs) w)=.next (lone (Frame.enter cc.P gf (as++(.func (.yield (w.heap.size+1)) #[] #[]::cps)).toArray .normal)
         ((bF f.fn none (kdOf f.todo)).atR { tmps:=tmps,defers:=[{ target:=.collected w.heap.size,args:=#[] }]++df } (.inRangeFunc (w.heap.size+1)::K)::(frs++cs))
         ((w.alloc (.deferred (some []))).alloc (.loop { state:=.ready,pending:=none,fn:=f.fn,tmps:=tmps,params:=ps,assign:=asg,body,defers:=w.heap.size }))):=by
        rw [heq]
        refine stepR_rangeFunc (b:=bF f.fn none (kdOf f.todo)) (a:={ tmps:=tmps,defers:=df }) hen hres ?_
        simp [invoke,callFunc,hfn,hnm,hgb,Act.eval]
        simpa using hnm
       refine ⟨_,_,?_,.one hst,⟨_,_::frs,_,rfl,enterF_ok hfn hgb hargs,⟨_,_,rfl,.inl ⟨tmps,_,_,none,by rw [hto];rfl,hf.tm.mono hle,⟨_,_,rfl,⟨_,hnew,rfl⟩,hK.mono hle⟩,?_,hf.rd.mono hle⟩,hfs.mono hle⟩,a2⟩,?_⟩
       ·exact (Tn.of_alloc ρ H w _ _).trans (Tn.of_alloc _ _ _ _ _)
       ·obtain ⟨d1,d2,q1,q2,q3⟩:=hf.df
        rw [hto] at q3
        exact ⟨{ target:=.collected w.heap.size,args:=#[] }::d1,d2,by rw [q1];rfl,⟨_,_,rfl,hdf,q2.mono hle⟩,DcRel.mono hle (l:=k) q3⟩
       ·rw [botOf_push];exact botOf_upd fs rfl rfl
      ·rename_i l hrd
       obtain ⟨b0,r1,r2⟩:=(by have:=hf.rd;rw [hrd] at this;exact this:∃ b',ρ.bl l=some b'∧ro=some b')
       subst r2
       split
       ·rename_i st pd fn' nt' tm' ps' asg' body' dfb hgl
        obtain ⟨b1,o,q1,q2,tmps',d,q3,q4,rfl⟩:=hh.blk l _ hgl rfl
        rw [r1] at q1;cases q1
        have hl1:=hh.le_alloc w.heap.size
        have a1:=hh.alloc' (bk:=.loop .ready none f.fn f.nt f.tm ps asg body dfb) (o:=.loop { state:=.ready,pending:=none,fn:=f.fn,tmps:=tmps,params:=ps,assign:=asg,body,defers:=d })
         ⟨tmps,d,hf.tm.mono hl1,hl1.bl _ _ q4,rfl⟩
        have hnew:(ρ.setBl H.nb w.heap.size).bl H.nb=some w.heap.size:=Dyn.setBl_same _ _ _
        have hen:=run_enterLoop_inner (P:=cc.P) (w:=w) q2 f.fn tmps ps asg body
        have hres:=run_resolve_range (P:=cc.P) (w:=w.alloc (.loop { state:=.ready,pending:=none,fn:=f.fn,tmps:=tmps,params:=ps,assign:=asg,body,defers:=d })) (e:=({ tmps:=tmps,defers:=df }:Act).eval) (g:=g) (l:=w.heap.size) e3
        have hargs:SV.IsL C.σ (ρ.setBl H.nb w.heap.size) (lapp a (.yl H.nb::cp)) (as++(.func (.yield w.heap.size) #[] #[]::cps)):=by
         rw [lapp_eq]
         exact SV.isL_append (SV.isL_mono hl1 _ _ e1) (SV.isL_cons.2 ⟨_,_,rfl,by simp only [SV.Is];exact ⟨_,hnew,rfl⟩,SV.isL_mono hl1 _ _ e2⟩)
        have hst:step cc.P (lone fr (frs++cs) w)=.next (lone (Frame.enter cc.P gf (as++(.func (.yield w.heap.size) #[] #[]::cps)).toArray .normal)
          ((bF f.fn (some b0) (kdOf f.todo)).atR { tmps:=tmps,defers:=[]++df } (.inRangeFunc w.heap.size::K)::(frs++cs))
          (w.alloc (.loop { state:=.ready,pending:=none,fn:=f.fn,tmps:=tmps,params:=ps,assign:=asg,body,defers:=d }))):=by
         rw [heq]
         refine stepR_rangeFunc (b:=bF f.fn (some b0) (kdOf f.todo)) (a:={ tmps:=tmps,defers:=df }) hen hres ?_
         simp [invoke,callFunc,hfn,hnm,hgb,Act.eval]
         simpa using hnm
        refine ⟨_,_,(by exact Tn.of_alloc ρ H w _ _),.one hst,⟨_,_::frs,_,rfl,enterF_ok hfn hgb hargs,⟨_,_,rfl,.inl ⟨tmps,_,_,some b0,by rw [hto];rfl,hf.tm.mono hl1,⟨_,_,rfl,⟨_,hnew,rfl⟩,hK.mono hl1⟩,(hf.df.mono hl1).upd rfl (by rw [hto];rfl),hf.rd.mono hl1⟩,hfs.mono hl1⟩,a1⟩,?_⟩
        ·rw [botOf_push];exact botOf_upd fs rfl rfl
       ·trivial
     ·trivial
    ·trivial
   ·trivial
 | region id ops d=>
   dsimp only
   cases d with
   | false=>exact one ⟨_,_,rfl,rfl,hK⟩ stepR_region
   | true=>
     dsimp only
     have:=hd hc w0 (frs++cs) ρ H w f.nt f.tm tmps df ro f.fn (kdOf f.todo) K ops id hh hf.tm
     split
     ·rename_i T' H' hdr
      rw [hdr] at this
      obtain ⟨ρ',tmps',w',k1,k2,k3,k4⟩:=this
      have hle:=Dyn.Ag.le hh k1.ag
      rw [← heq] at k2
      exact ⟨ρ',_,(by exact k1),k2,⟨_,frs,w',rfl,⟨tmps',df,K,ro,by rw [hto];rfl,k3,hK.mono hle,(hf.df.mono hle).upd rfl (by rw [hto];rfl),hf.rd.mono hle⟩,hfs.mono hle,k4⟩,botOf_upd fs rfl rfl⟩
     ·rename_i x l hdr
      rw [hdr] at this
      obtain ⟨y,hy,ρ',tmps',w',k1,k2,k3,k4⟩:=this
      have hle:=Dyn.Ag.le hh k1.ag
      rw [← heq] at k2
      refine ⟨({ f with tm:=y.1,todo:=k },fs,y.2),?_,ρ',_,(by exact k1),k2,⟨_,frs,w',rfl,⟨tmps',df,K,ro,by rw [hto];rfl,k3,hK.mono hle,(hf.df.mono hle).upd rfl (by rw [hto];rfl),hf.rd.mono hle⟩,hfs.mono hle,k4⟩,botOf_upd fs rfl rfl⟩
      rw [lmap_eq]
      rcases List.mem_cons.1 hy with rfl | hy
      ·exact List.mem_cons_self ..
      ·exact List.mem_cons_of_mem _ (List.mem_map.2 ⟨y,hy,rfl⟩)
     ·rename_i i T' H' hdr
      rw [hdr] at this
      obtain ⟨ρ',tmps',w',k1,k2,k3,k4⟩:=this
      have hle:=Dyn.Ag.le hh k1.ag
      rw [← heq] at k2
      exact ⟨ρ',_,(by exact k1),k2,⟨_,frs,w',rfl,⟨tmps',df,.inRegion ops [i]::K,ro,by rw [hto];rfl,k3,⟨_,_,rfl,rfl,hK.mono hle⟩,(hf.df.mono hle).upd rfl (by rw [hto];rfl),hf.rd.mono hle⟩,hfs.mono hle,k4⟩,botOf_upd fs rfl rfl⟩
     ·rename_i p hdr
      rw [hdr] at this
      exact this
     ·rename_i n hdr
      have s1:=stepR_region_draw (P:=cc.P) (b:=bF f.fn ro (kdOf f.todo)) (a:={ tmps:=tmps,defers:=df }) (k:=K) (cs:=frs++cs) (w:=w) (ops:=ops) (id:=id)
      have s2:Region.schedule (cc.P.follows .mixedOrders) ops (w.tape w.drawn (.order (bF f.fn ro (kdOf f.todo)).fn id))=Region.linearise.go .any ops ops.size (w.tape w.drawn (.order f.fn id)) (Array.replicate ops.size false) []:=by
       rw [hcc.mixed]
       unfold Region.schedule
       rw [Bool.true_or,if_pos rfl]
       rfl
      rw [s2] at s1
      have hmem:=ordsL_mem (ops:=ops) ops.size (w.tape w.drawn (.order f.fn id)) (Array.replicate ops.size false) [] (by simp) (fun j=>by by_cases hj:j < ops.size<;>simp [hj])
      split
      ·trivial
      ·rename_i o l ho
       have ho':Region.linearise.go .any ops ops.size (w.tape w.drawn (.order f.fn id)) (Array.replicate ops.size false) []∈o::l:=by
        rw [← ho]
        cases hb:Nat.beq n 253 with
        | false=>rw [hb] at ho;cases ho
        | true=>
          rw [hb] at ho
          simp only [cond_true] at ho ⊢
          unfold ordsC at ho ⊢
          cases h9:Nat.ble ops.size 9 with
          | false=>rw [h9] at ho;cases ho
          | true=>
            rw [h9] at ho
            simp only [cond_true] at ho ⊢
            cases h12:Nat.ble (llen (ordsL ops.toList ops.size [])) 12 with
            | false=>rw [h12] at ho;cases ho
            | true=>exact hmem
       rw [← heq] at s1
       refine ⟨({ f with todo:=.inRegion ops (Region.linearise.go .any ops ops.size (w.tape w.drawn (.order f.fn id)) (Array.replicate ops.size false) [])::k },fs,H),?_,ρ,_,(by exact Tn.of_below ((Below.refl _ w).drew)),Steps.one s1,
        ⟨_,frs,_,rfl,⟨tmps,df,.inRegion ops _::K,ro,by rw [hto];rfl,hf.tm,⟨_,_,rfl,rfl,hK⟩,hf.df.upd rfl (by rw [hto];rfl),hf.rd⟩,hfs,hh.drew⟩,botOf_upd fs rfl rfl⟩
       rw [lmap_eq]
       rcases List.mem_cons.1 ho' with e | e
       ·rw [e];exact List.mem_cons_self ..
       ·exact List.mem_cons_of_mem _ (List.mem_map.2 ⟨_,e,rfl⟩)
 | refuse why=>trivial
theorem stp_ok (hcc:cc.Ok C) (hE:EntsOk cc C E) (hd:DrOk cc C draw) {m:Machine} (hm:Sat C hc w0 cs ρ f fs H m):(stp cc E draw f fs H).Ok cc C hc w0 cs ρ f fs H m:=by
 obtain ⟨fr,frs,w,rfl,⟨tmps,df,kk,ro,hf⟩,hfs,hh⟩:=hm
 have htd:=hf.todo
 have heq:=hf.eq
 unfold stp
 split
 ·rename_i hto
  rw [hto] at htd
  have hkk:kk=[]:=htd
  subst hkk
  refine leaveS_ok hcc hf hfs hh (fun hrd _=>?_) (fun l b hrd hkd hb=>?_)
  ·have hro:ro=none:=by have:=hf.rd;rw [hrd] at this;exact this
   subst hro
   rw [heq]
   exact .one (stepR_end rfl)
  ·intro c t w v w' he
   obtain ⟨b',e1,e2⟩:=(by have:=hf.rd;rw [hrd] at this;exact this:∃ b',ρ.bl l=some b'∧ro=some b')
   rw [hb] at e1;cases e1
   subst e2
   rw [heq]
   exact stepR_round_end rfl hkd he
 ·rename_i x k hto
  have hto':=hto
  rw [hto] at htd
  have one:∀ {y:Item} {K:List Item} {todo:List It} {k':List Item},kk=y::K→TdRel ρ todo k'→step cc.P (lone ((bF f.fn ro (kdOf f.todo)).atR { tmps:=tmps,defers:=df } (y::K)) (frs++cs) w)=.next (lone ((bF f.fn ro (kdOf f.todo)).atR { tmps:=tmps,defers:=df } k') (frs++cs) w)→(hv:vr todo=vr f.todo)→
    (Sp.go { f with todo:=todo } fs H).Ok cc C hc w0 cs ρ f fs H (lone fr (frs++cs) w):=fun hk ht hs hv=>Sp.ok_todo hf hfs hh ht hv (.one (by rw [heq,hk];exact hs))
  have ends:(∀ y r,kk=y::r→False)→(leaveS cc f fs H none).Ok cc C hc w0 cs ρ f fs H (lone fr (frs++cs) w):=by
   intro hk
   have hkk:kk=[]:=by cases kk with | nil=>rfl | cons y r=>exact (hk y r rfl).elim
   subst hkk
   refine leaveS_ok hcc hf hfs hh (fun hrd _=>?_) (fun l b hrd hkd hb=>?_)
   ·have hro:ro=none:=by have:=hf.rd;rw [hrd] at this;exact this
    subst hro
    rw [heq]
    exact .one (stepR_end rfl)
   ·intro c t w v w' he
    obtain ⟨b',e1,e2⟩:=(by have:=hf.rd;rw [hrd] at this;exact this:∃ b',ρ.bl l=some b'∧ro=some b')
    rw [hb] at e1;cases e1
    subst e2
    rw [heq]
    exact stepR_round_end rfl hkd he
  cases x with
  | dfd=>exact ends (fun y r e=>by have:=htd.1;rw [this] at e;cases e)
  | dc g a c=>exact ends (fun y r e=>by have:=htd.1;rw [this] at e;cases e)
  | mdR=>trivial
  | mdP v r=>trivial
  | code c=>exact codeS_ok hcc hd hf hto hfs hh
  | inBlock id=>
    obtain ⟨y,K,rfl,h1,hK⟩:=htd
    have h1':y=.inBlock id:=h1
    subst h1'
    exact one rfl hK stepR_inBlock (by rw [hto'];rfl)
  | inScope c=>
    obtain ⟨y,K,rfl,h1,hK⟩:=htd
    have h1':y=.inScope c:=h1
    subst h1'
    exact one rfl hK stepR_inScope (by rw [hto'];rfl)
  | inLoop b=>
    obtain ⟨y,K,rfl,h1,hK⟩:=htd
    have h1':y=.inLoop b:=h1
    subst h1'
    exact one rfl ⟨_,_,rfl,rfl,_,_,rfl,rfl,hK⟩ stepR_inLoop (by rw [hto'];rfl)
  | inRegion ops l=>
    obtain ⟨y,K,rfl,h1,hK⟩:=htd
    have h1':y=.inRegion ops l:=h1
    subst h1'
    cases l with
    | nil=>exact one rfl hK stepR_region_end (by rw [hto'];rfl)
    | cons i rest=>exact opS_ok hcc hE hf hto hfs hh
  | inRangeFunc l=>trivial
  | beginRound=>
    obtain ⟨y,K,rfl,h1,hK⟩:=htd
    have h1':y=.beginRound:=h1
    subst h1'
    dsimp only
    split
    ·rename_i l hrd
     obtain ⟨b0,r1,r2⟩:=(by have:=hf.rd;rw [hrd] at this;exact this:∃ b',ρ.bl l=some b'∧ro=some b')
     subst r2
     split
     ·rename_i pd fn nt tm ps asg body dfb hg
      obtain ⟨b1,o,q1,q2,tmps',d,q3,q4,rfl⟩:=hh.blk l _ hg rfl
      rw [r1] at q1;cases q1
      have hput:=hh.put' hg rfl r1 q2 (bk':=.loop .busy pd fn nt tm ps asg body dfb) (o':=.loop { state:=.busy,pending:=pd,fn,tmps:=tmps',params:=ps,assign:=asg,body,defers:=d }) rfl ⟨tmps',d,q3,q4,rfl⟩
      refine ⟨ρ,_,(by exact Tn.of_putObj r1),.one ?_,⟨_,frs,_,rfl,⟨tmps,df,K,some b0,by show _=(bF f.fn (some b0) (kdOf k)).atR _ _;rw [show kdOf k=kdOf f.todo by rw [hto'];rfl],hf.tm,hK,hf.df.upd rfl (by rw [hto'];rfl),hf.rd⟩,hfs,hput⟩,botOf_upd fs rfl rfl⟩
      ·rw [heq]
       exact stepR_beginRound rfl (run_beginRound q2 rfl)
     ·trivial
    ·trivial
  | endRangeFunc l=>
    obtain ⟨y,K,rfl,h1,hK⟩:=htd
    obtain ⟨b,hb,rfl⟩:=h1
    dsimp only
    split
    ·rename_i st pd fn nt tm ps asg body dfb hg
     obtain ⟨b1,o,q1,q2,tmps',d,q3,q4,rfl⟩:=hh.blk l _ hg rfl
     rw [hb] at q1;cases q1
     split
     ·trivial
     ·rename_i hst
      have hput:=hh.put' hg rfl hb q2 (bk':=.loop .exhausted pd fn nt tm ps asg body dfb) (o':=.loop { state:=.exhausted,pending:=pd,fn,tmps:=tmps',params:=ps,assign:=asg,body,defers:=d }) rfl ⟨tmps',d,q3,q4,rfl⟩
      have hend:=run_endLoop (P:=cc.P) q2 (fun h=>hst h)
      have htd':TdRel ρ (pdS pd k) ((pd.map Item.code).toList++K):=by
       cases pd with
       | none=>exact hK
       | some c=>exact ⟨_,_,rfl,rfl,hK⟩
      refine ⟨ρ,_,(by exact Tn.of_putObj hb),.one ?_,⟨_,frs,_,rfl,⟨tmps,df,(pd.map Item.code).toList++K,ro,by show _=(bF f.fn ro (kdOf (pdS pd k))).atR _ _;rw [show kdOf (pdS pd k)=kdOf f.todo by rw [hto'];cases pd<;>rfl],hf.tm,htd',hf.df.upd rfl (by rw [hto'];cases pd<;>rfl),hf.rd⟩,hfs,hput⟩,botOf_upd fs rfl rfl⟩
      ·rw [heq]
       exact stepR_endRangeFunc hend
    ·trivial
end
end Go.Sx
namespace Go.Sx
set_option linter.unusedVariables false
set_option linter.unusedSimpArgs false
open Go.RowKit
inductive Tr where
 | leaf (z:SV) (H:Hp)
 | cut (f:Fr) (fs:List Fr) (H:Hp)
 | fork (p:SB) (t e:Tr)
 | bad (why:Nat) (f:Fr) (fs:List Fr) (H:Hp)
noncomputable def exS (cc:Cc) (E:Ents) (draw:Nat→List (Nat×SV)→Hp→Array Oper→Dr) (stop:Fr→List Fr→Bool) (ih:Fr→List Fr→Hp→Tr) (f:Fr) (fs:List Fr) (H:Hp):Tr:=
 match stp cc E draw f fs H with
 | .go f' fs' H'=>bif stop f fs then .cut f' fs' H' else ih f' fs' H'
 | .par x l=>List.rec (motive:=fun _=>Tr) (ih x.1 x.2.1 x.2.2) (fun y _ r=>.fork (.c true) (ih y.1 y.2.1 y.2.2) r) l
 | .done z H'=>.leaf z H'
 | .ask p=>.fork p (ih f fs (H.learn p true)) (ih f fs (H.learn p false))
 | .bad n=>.bad n f fs H
noncomputable def ex (cc:Cc) (E:Ents) (draw:Nat→List (Nat×SV)→Hp→Array Oper→Dr) (stop:Fr→List Fr→Bool) (n:Nat):Fr→List Fr→Hp→Tr:=
 Nat.rec (motive:=fun _=>Fr→List Fr→Hp→Tr) (fun f fs H=>.bad 0 f fs H) (fun _ ih=>exS cc E draw stop ih) n
def Tr.All (C:Ct) (hc:Nat→Option Obj) (w0:World) (Q:SV→Hp→Prop) (K:Fr→List Fr→Hp→Prop):Tr→Prop
 | .leaf z H=>Q z H
 | .cut f fs H=>K f fs H
 | .fork _ t e=>t.All C hc w0 Q K∧e.All C hc w0 Q K
 | .bad _ _ _ H=>∀ ρ w,HpRel C hc w0 ρ H w→False
section
variable {cc:Cc} {C:Ct} {E:Ents} {draw:Nat→List (Nat×SV)→Hp→Array Oper→Dr} {hc:Nat→Option Obj} {w0:World} {cs:List Frame} {ρ ρ':Dyn} {f:Fr} {fs:List Fr} {H:Hp} {w:World}
def Fin (P:Program) (m:Machine) (cs:List Frame) (bot:FuncId×Bool) (R:Value→World→Prop):Prop:=∃ u w',Ends P m cs bot.1 bot.2 u w'∧R u w'
theorem Fin.of_steps {P:Program} {m m₁:Machine} {cs:List Frame} {bot:FuncId×Bool} {R:Value→World→Prop} (h:Steps P m m₁) (k:Fin P m₁ cs bot R):Fin P m cs bot R:=
 let ⟨u,w',h1,h2⟩:=k;⟨u,w',h1.of_steps h,h2⟩
theorem ex_ok (hcc:cc.Ok C) (hE:EntsOk cc C E) (hd:DrOk cc C draw) {stop:Fr→List Fr→Bool} {R:Value→World→Prop} {Q:SV→Hp→Prop} {K:Fr→List Fr→Hp→Prop} {ρ0:Dyn} {H0:Hp} {W0:World} {bot:FuncId×Bool}
  (hQ:∀ z H ρ u w',Q z H→z.Is C.σ ρ u→HpRel C hc w0 ρ H w'→Tn ρ0 H0 W0 ρ H w'→R u w')
  (hK:∀ f fs H ρ m,K f fs H→Sat C hc w0 cs ρ f fs H m→Tn ρ0 H0 W0 ρ H m.world→botOf f fs=bot→Fin cc.P m cs bot R) :
  ∀ (n:Nat) (f:Fr) (fs:List Fr) (H:Hp) (ρ:Dyn) (m:Machine),Sat C hc w0 cs ρ f fs H m→Tn ρ0 H0 W0 ρ H m.world→botOf f fs=bot→(ex cc E draw stop n f fs H).All C hc w0 Q K→Fin cc.P m cs bot R:=by
 intro n
 induction n with
 | zero=>
   intro f fs H ρ m hm _ _ h
   obtain ⟨fr,frs,w,rfl,_,_,hh⟩:=hm
   exact (h ρ w hh).elim
 | succ n ih=>
   intro f fs H ρ m hm ht hb h
   have hs:=stp_ok hcc hE hd hm
   have h':(exS cc E draw stop (ex cc E draw stop n) f fs H).All C hc w0 Q K:=h
   unfold exS at h'
   split at h'
   ·rename_i f' fs' H' he
    rw [he] at hs
    obtain ⟨ρ',m',h1,h2,h3,h4⟩:=hs
    refine Fin.of_steps h2 ?_
    cases hst:stop f fs with
    | true=>rw [hst] at h';exact hK f' fs' H' ρ' m' h' h3 (ht.trans h1) (h4.trans hb)
    | false=>rw [hst] at h';exact ih f' fs' H' ρ' m' h3 (ht.trans h1) (h4.trans hb) h'
   ·rename_i x l he
    rw [he] at hs
    obtain ⟨y,hy,ρ',m',h1,h2,h3,h4⟩:=hs
    have hall:∀ l:List (Fr×List Fr×Hp),Tr.All C hc w0 Q K (List.rec (motive:=fun _=>Tr) (ex cc E draw stop n x.1 x.2.1 x.2.2) (fun y _ r=>.fork (.c true) (ex cc E draw stop n y.1 y.2.1 y.2.2) r) l)→∀ y∈x::l,(ex cc E draw stop n y.1 y.2.1 y.2.2).All C hc w0 Q K:=by
     intro l
     induction l with
     | nil=>
       intro h y hy
       rcases List.mem_cons.1 hy with rfl | hy
       ·exact h
       ·cases hy
     | cons z l ih=>
       intro h y hy
       rcases List.mem_cons.1 hy with e | hy
       ·exact ih h.2 y (e ▸ List.mem_cons_self ..)
       ·rcases List.mem_cons.1 hy with e | hy
        ·rw [e];exact h.1
        ·exact ih h.2 y (List.mem_cons_of_mem _ hy)
    exact Fin.of_steps h2 (ih y.1 y.2.1 y.2.2 ρ' m' h3 (ht.trans h1) (h4.trans hb) (hall l h' y hy))
   ·rename_i z H' he
    rw [he] at hs
    obtain ⟨ρ',u,w',h1,h2,h3,h4⟩:=hs
    rw [hb] at h2
    exact ⟨u,w',h2,hQ z H' ρ' u w' h' h3 h4 (ht.trans h1)⟩
   ·rename_i p he
    rw [he] at hs
    obtain ⟨b,hp⟩:=hs
    obtain ⟨fr,frs,w,rfl,k1,k2,k3⟩:=hm
    have ht':∀ b,Tn ρ0 H0 W0 ρ (H.learn p b) w:=fun b=>
     ⟨ht.ag,⟨ht.ext.heap,ht.ext.nb,ht.ext.nd,ht.ext.nv,by obtain ⟨l,hl⟩:=ht.ext.facts;exact ⟨(p,b)::l,by show (p,b)::H.facts=_;rw [hl];rfl⟩,ht.ext.phis⟩,ht.size,ht.new,ht.same⟩
    cases b with
    | true=>exact ih f fs _ ρ _ ⟨fr,frs,w,rfl,k1,k2,k3.fact hp⟩ (ht' true) hb h'.1
    | false=>exact ih f fs _ ρ _ ⟨fr,frs,w,rfl,k1,k2,k3.fact hp⟩ (ht' false) hb h'.2
   ·obtain ⟨fr,frs,w,rfl,_,_,hh⟩:=hm
    exact (h' ρ w hh).elim
structure Wy where
 facts:List (SB×Bool)
 z:Option SV
noncomputable def Tr.ways (t:Tr):List Wy:=
 Tr.rec (motive:=fun _=>List Wy) (fun z H=>[⟨H.facts,some z⟩]) (fun _ _ H=>[⟨H.facts,none⟩]) (fun _ _ _ a b=>lapp a b) (fun _ _ _ H=>[⟨H.facts,none⟩]) t
noncomputable def Tr.whole (t:Tr):Bool:=
 Tr.rec (motive:=fun _=>Bool) (fun _ _=>true) (fun _ _ _=>false) (fun _ _ _ a b=>bif a then b else false) (fun _ _ _ _=>true) t
def Known (σ:Sta) (ρ:Dyn) (F:List (SB×Bool)):Prop:=∀ f∈F,f.1.den σ ρ=some f.2
def hp0 (B:Bd) (F:List (SB×Bool)):Hp:={ heap:=[],nb:=0,nd:=0,nv:=0,facts:=F,phis:=[0],bd:=B.v }
def Ct.Base (C:Ct) (w0:World):Prop:=∀ ρ U,C.phi 0 ρ U↔∀ b o,w0.heap[b]? = some o→U b o
theorem below_of (hb:C.Base w0) {ρ:Dyn} {H:Hp} {w':World} (h:HpRel C hc w0 ρ H w') (h0:0∈H.phis):Below w0.heap.size w0 w':=by
 refine ⟨h.os,h.tape,h.output,h.size,fun k hk=>?_⟩
 have:=(hb _ _).1 (h.phis 0 h0) k w0.heap[k] (Array.getElem?_eq_getElem hk)
 rw [this.1,Array.getElem?_eq_getElem hk]
end
end Go.Sx
