/- A symbolic executor: a state, seen as an instance of a template: what is left to be shown. -/
import Derived.Test.YtfailpbjhlhhiaaGreatSxX
namespace Go.Sx
noncomputable section
set_option linter.unusedVariables false
set_option linter.unusedSimpArgs false
open Go.RowKit
inductive Ob where
 | ei (x y:SI)
 | eb (p q:SB)
 | fa (p:SB) (b:Bool)
 | rn (x:SI) (a b:Int)
 | ar (lay:List Kd) (c c' n:SI)
def Ob.Ok (σ:Sta) (ρ:Dyn):Ob→Prop
 | .ei x y=>x.den σ ρ=y.den σ ρ
 | .eb p q=>p.den σ ρ=q.den σ ρ
 | .fa p b=>p.den σ ρ=some b
 | .rn x a b=>∃ v,x.den σ ρ=some v∧a≤v∧v≤(if a≤b then b else v)
 | .ar lay c c' n=>(∃ v,c.den σ ρ=some v)∧∀ cv cv' nv,c.den σ ρ=some cv→c'.den σ ρ=some cv'→n.den σ ρ=some (Int.ofNat nv)→∀ j,j < nv→∀ (f:Nat) (κ:Kd),lay[f]? = some κ→κ.val σ cv j f=κ.val σ cv' j f
def Obs (σ:Sta) (ρ:Dyn) (L:List Ob):Prop:=∀ ob∈L,ob.Ok σ ρ
theorem Obs.app {σ:Sta} {ρ:Dyn} {L L':List Ob} (h:Obs σ ρ (lapp L L')):Obs σ ρ L∧Obs σ ρ L':=by
 rw [lapp_eq] at h
 exact ⟨fun o ho=>h o (List.mem_append_left _ ho),fun o ho=>h o (List.mem_append_right _ ho)⟩
def obI (x y:SI):List Ob:=bif x.beq y then [] else [.ei x y]
def obB (p q:SB):List Ob:=bif p.beq q then [] else [.eb p q]
section
variable {σ:Sta} {ρ:Dyn}
theorem obI_ok {x y:SI} (h:Obs σ ρ (obI x y)):x.den σ ρ=y.den σ ρ:=by
 unfold obI at h
 cases hb:x.beq y with
 | true=>rw [SI.beq_eq hb]
 | false=>
   rw [hb] at h
   exact h (.ei x y) (by simp)
theorem obB_ok {x y:SB} (h:Obs σ ρ (obB x y)):x.den σ ρ=y.den σ ρ:=by
 unfold obB at h
 cases hb:x.beq y with
 | true=>exact SB.den_of_beq hb
 | false=>
   rw [hb] at h
   exact h (.eb x y) (by simp)
def oapp (a b:Option (List Ob)):Option (List Ob):=match a,b with | some x,some y=>some (lapp x y) | _,_=>none
theorem oapp_ok {a b:Option (List Ob)} {L:List Ob} (h:oapp a b=some L) (hL:Obs σ ρ L):∃ x y,a=some x∧b=some y∧Obs σ ρ x∧Obs σ ρ y:=by
 unfold oapp at h
 split at h
 ·cases h
  exact ⟨_,_,rfl,rfl,(Obs.app hL).1,(Obs.app hL).2⟩
 ·cases h
mutual
def SV.cmp:SV→SV→Option (List Ob)
 | .any,_=>some []
 | .it k e,.it k' e'=>bif keq k k' then some (obI e e') else none
 | .bo p,.bo q=>some (obB p q)
 | .st a,.st b=>bif a.beq b then some [] else none
 | .pt r o,.pt r' o'=>bif r.beq r' then some (obI o o') else none
 | .sl r o l c,.sl r' o' l' c'=>bif r.beq r' then some (lapp (obI o o') (lapp (obI l l') (obI c c'))) else none
 | .mp r,.mp r'=>bif r.beq r' then some [] else none
 | .fn f a c,.fn f' a' c'=>bif Nat.beq f f' then oapp (SV.cmpL a a') (SV.cmpL c c') else none
 | .yl i,.yl j=>bif Nat.beq i j then some [] else none
 | .fc t x,.fc t' x'=>bif Nat.beq t t' then SV.cmp x x' else none
 | .ag l,.ag l'=>SV.cmpL l l'
 | .tp l,.tp l'=>SV.cmpL l l'
 | .va i,.va j=>bif Nat.beq i j then some [] else none
 | .sn,.sn=>some []
 | .pn,.pn=>some []
 | .mn,.mn=>some []
 | .fz,.fz=>some []
 | .fcn,.fcn=>some []
 | .fs i y,.fs j y'=>bif Nat.beq i j then some (bif y.beq y' then [] else [.fa (.eq y.fl y'.fl) true,.ar (flay i) y y' y'.fl]) else none
 | .fs _ y,.sn=>some [.fa (.eq y.fl (.c 0)) true]
 | .fs _ y,.fe=>some [.fa (.eq y.fl (.c 0)) true]
 | .fs _ y,.sl _ _ l _=>bif isZ l then some [.fa (.eq y.fl (.c 0)) true] else none
 | .fe,.fe=>some []
 | .fp i y j f,.fp i' y' j' f'=>bif Nat.beq i i' then (bif Nat.beq f f' then (bif y.beq y' then some (obI j j') else none) else none) else none
 | .sf y,.sf y'=>some (obI y y')
 | _,_=>none
def SV.cmpL:List SV→List SV→Option (List Ob)
 | [],[]=>some []
 | a::l,b::l'=>oapp (SV.cmp a b) (SV.cmpL l l')
 | _,_=>none
end
theorem SS.eq_of_beq {a b:SS} (h:a.beq b=true):a.den σ=b.den σ:=by
 have h':=SS.den_of_beq (σ:=σ) h
 generalize a.den σ=x at h' ⊢
 generalize b.den σ=y at h' ⊢
 have hx:x.toList=x.data.toList:=ByteArray.toList_eq x
 have hy:y.toList=y.data.toList:=ByteArray.toList_eq y
 rw [hx,hy] at h'
 exact ByteArray.ext (Array.ext' h')
theorem Fz.of_nil {F:Nat→Option Obj} {i:Nat} {y:SI} {a:Option Addr} {cap:Nat} (h:Obs σ ρ [.fa (.eq y.fl (.c 0)) true]) (ha:Sl0 a):∃ yv,y.den σ ρ=some yv∧Fz σ F i yv (.slice a 0 cap):=by
 have h1:=h _ (List.mem_singleton.2 rfl)
 simp only [Ob.Ok,SB.den] at h1
 obtain ⟨x,hx,h2⟩:=Option.bind_eq_some_iff.1 h1
 obtain ⟨v,hv,rfl⟩:=SI.fl_def hx
 simp only [SI.den,Option.bind_some,Option.some.injEq,decide_eq_true_eq] at h2
 exact ⟨v,hv,.nil _ _ _ _ h2 ha⟩
mutual
theorem SV.cmp_ok:∀ (y z:SV) (L:List Ob) (u:Value),SV.cmp y z=some L→Obs σ ρ L→z.Is σ ρ u→y.Is σ ρ u
 | .any,z,L,u,h,hL,hz=>by simp only [SV.Is]
 | .it k e,z,L,u,h,hL,hz=>by
   cases z<;>simp only [SV.cmp] at h<;>try (cases h;done)
   rename_i k' e'
   cases hk:keq k k' with
   | false=>rw [hk] at h;cases h
   | true=>
     rw [hk] at h;cases h
     have:=keq_eq hk;subst this
     simp only [SV.Is] at hz ⊢
     rw [obI_ok hL];exact hz
 | .bo p,z,L,u,h,hL,hz=>by
   cases z<;>simp only [SV.cmp] at h<;>try (cases h;done)
   cases h
   simp only [SV.Is] at hz ⊢
   rw [obB_ok hL];exact hz
 | .st e,z,L,u,h,hL,hz=>by
   cases z<;>simp only [SV.cmp] at h<;>try (cases h;done)
   rename_i e'
   cases hk:e.beq e' with
   | false=>rw [hk] at h;cases h
   | true=>
     simp only [SV.Is] at hz ⊢
     rw [SS.eq_of_beq hk];exact hz
 | .pt r o,z,L,u,h,hL,hz=>by
   cases z<;>simp only [SV.cmp] at h<;>try (cases h;done)
   rename_i r' o'
   cases hk:r.beq r' with
   | false=>rw [hk] at h;cases h
   | true=>
     rw [hk] at h;cases h
     have:=SR.beq_eq hk;subst this
     simp only [SV.Is] at hz ⊢
     rw [obI_ok hL];exact hz
 | .sl r o l c,z,L,u,h,hL,hz=>by
   cases z<;>simp only [SV.cmp] at h<;>try (cases h;done)
   rename_i r' o' l' c'
   cases hk:r.beq r' with
   | false=>rw [hk] at h;cases h
   | true=>
     rw [hk] at h;cases h
     have:=SR.beq_eq hk;subst this
     simp only [SV.Is] at hz ⊢
     obtain ⟨h1,h2⟩:=Obs.app hL
     obtain ⟨h2,h3⟩:=Obs.app h2
     rw [obI_ok h1,obI_ok h2,obI_ok h3];exact hz
 | .mp r,z,L,u,h,hL,hz=>by
   cases z<;>simp only [SV.cmp] at h<;>try (cases h;done)
   rename_i r'
   cases hk:r.beq r' with
   | false=>rw [hk] at h;cases h
   | true=>have:=SR.beq_eq hk;subst this;exact hz
 | .fn f a c,z,L,u,h,hL,hz=>by
   cases z<;>simp only [SV.cmp] at h<;>try (cases h;done)
   rename_i f' a' c'
   cases hk:Nat.beq f f' with
   | false=>rw [hk] at h;cases h
   | true=>
     rw [hk] at h
     have:=Nat.eq_of_beq_eq_true hk;subst this
     obtain ⟨x,y,h1,h2,h3,h4⟩:=oapp_ok h hL
     simp only [SV.Is] at hz ⊢
     obtain ⟨as,cs,g1,g2,rfl⟩:=hz
     exact ⟨as,cs,SV.cmpL_ok a a' x as h1 h3 g1,SV.cmpL_ok c c' y cs h2 h4 g2,rfl⟩
 | .yl i,z,L,u,h,hL,hz=>by
   cases z<;>simp only [SV.cmp] at h<;>try (cases h;done)
   rename_i j
   cases hk:Nat.beq i j with
   | false=>rw [hk] at h;cases h
   | true=>have:=Nat.eq_of_beq_eq_true hk;subst this;exact hz
 | .fc t x,z,L,u,h,hL,hz=>by
   cases z<;>simp only [SV.cmp] at h<;>try (cases h;done)
   rename_i t' x'
   cases hk:Nat.beq t t' with
   | false=>rw [hk] at h;cases h
   | true=>
     rw [hk] at h
     have:=Nat.eq_of_beq_eq_true hk;subst this
     simp only [SV.Is] at hz ⊢
     obtain ⟨y,h1,rfl⟩:=hz
     exact ⟨y,SV.cmp_ok x x' L y h hL h1,rfl⟩
 | .ag l,z,L,u,h,hL,hz=>by
   cases z<;>simp only [SV.cmp] at h<;>try (cases h;done)
   rename_i l'
   simp only [SV.Is] at hz ⊢
   obtain ⟨vs,h1,rfl⟩:=hz
   exact ⟨vs,SV.cmpL_ok l l' L vs h hL h1,rfl⟩
 | .tp l,z,L,u,h,hL,hz=>by
   cases z<;>simp only [SV.cmp] at h<;>try (cases h;done)
   rename_i l'
   simp only [SV.Is] at hz ⊢
   obtain ⟨vs,h1,rfl⟩:=hz
   exact ⟨vs,SV.cmpL_ok l l' L vs h hL h1,rfl⟩
 | .va i,z,L,u,h,hL,hz=>by
   cases z<;>simp only [SV.cmp] at h<;>try (cases h;done)
   rename_i j
   cases hk:Nat.beq i j with
   | false=>rw [hk] at h;cases h
   | true=>have:=Nat.eq_of_beq_eq_true hk;subst this;exact hz
 | .dv i,z,L,u,h,hL,hz=>by cases z<;>simp only [SV.cmp] at h<;>cases h
 | .sn,z,L,u,h,hL,hz=>by cases z<;>simp only [SV.cmp] at h<;>first | (cases h;done) | exact hz
 | .pn,z,L,u,h,hL,hz=>by cases z<;>simp only [SV.cmp] at h<;>first | (cases h;done) | exact hz
 | .mn,z,L,u,h,hL,hz=>by cases z<;>simp only [SV.cmp] at h<;>first | (cases h;done) | exact hz
 | .fz,z,L,u,h,hL,hz=>by cases z<;>simp only [SV.cmp] at h<;>first | (cases h;done) | exact hz
 | .fcn,z,L,u,h,hL,hz=>by cases z<;>simp only [SV.cmp] at h<;>first | (cases h;done) | exact hz
 | .fe,z,L,u,h,hL,hz=>by cases z<;>simp only [SV.cmp] at h<;>first | (cases h;done) | exact hz
 | .sf y,z,L,u,h,hL,hz=>by
   cases z<;>simp only [SV.cmp] at h<;>try (cases h;done)
   cases h
   simp only [SV.Is] at hz ⊢
   rw [obI_ok hL];exact hz
 | .fp i y j f,z,L,u,h,hL,hz=>by
   cases z<;>simp only [SV.cmp] at h<;>try (cases h;done)
   rename_i i' y' j' f'
   cases h1:Nat.beq i i' with
   | false=>rw [h1] at h;cases h
   | true=>
   cases h2:Nat.beq f f' with
   | false=>rw [h1,h2] at h;cases h
   | true=>
   cases h3:y.beq y' with
   | false=>rw [h1,h2,h3] at h;cases h
   | true=>
     rw [h1,h2,h3] at h;cases h
     have:=Nat.eq_of_beq_eq_true h1;subst this
     have:=Nat.eq_of_beq_eq_true h2;subst this
     have:=SI.beq_eq h3;subst this
     simp only [SV.Is] at hz ⊢
     rw [obI_ok hL];exact hz
 | .fs i y,z,L,u,h,hL,hz=>by
   cases z<;>simp only [SV.cmp] at h<;>try (cases h;done)
   ·rename_i r o l c
    cases hl:isZ l with
    | false=>rw [hl] at h;cases h
    | true=>
      rw [hl] at h;cases h
      have:=isZ_eq hl;subst this
      simp only [SV.Is] at hz ⊢
      obtain ⟨b,k,len,cap,e1,e2,e3,e4,rfl⟩:=hz
      simp only [SI.den,Option.some.injEq] at e3
      have:len=0:=by
       have e3:(0:Int)=len:=e3
       omega
      subst this
      exact Fz.of_nil hL (sl0 _)
   ·cases h
    simp only [SV.Is] at hz ⊢
    subst hz
    exact Fz.of_nil hL (.inl rfl)
   ·rename_i i' y'
    cases h1:Nat.beq i i' with
    | false=>rw [h1] at h;cases h
    | true=>
      rw [h1] at h;cases h
      have:=Nat.eq_of_beq_eq_true h1;subst this
      cases h2:y.beq y' with
      | true=>have:=SI.beq_eq h2;subst this;exact hz
      | false=>
        rw [h2] at hL
        simp only [SV.Is] at hz ⊢
        obtain ⟨yv',e1,e2⟩:=hz
        have o1:=hL (.fa (.eq y.fl y'.fl) true) (by simp)
        have o2:=hL (.ar (flay i) y y' y'.fl) (by simp)
        obtain ⟨⟨yv,hy⟩,o2⟩:=o2
        refine ⟨yv,hy,e2.eqv ?_ fun j hj f κ hκ=>?_⟩
        ·simp only [Ob.Ok,SB.den,SI.fl_den hy,SI.fl_den e1,Option.bind_some,Option.some.injEq,decide_eq_true_eq] at o1
         exact o1
        ·obtain ⟨a,len,cap,_,_,hl,_⟩:=e2.cells
         refine o2 yv yv' len hy e1 (by rw [SI.fl_den e1,hl];rfl) j (by rw [hl] at hj;exact Int.ofNat_lt.1 hj) f κ hκ
   ·cases h
    simp only [SV.Is] at hz ⊢
    obtain ⟨a,rfl,ha⟩:=hz
    exact Fz.of_nil hL ha
theorem SV.cmpL_ok:∀ (l l':List SV) (L:List Ob) (us:List Value),SV.cmpL l l'=some L→Obs σ ρ L→SV.IsL σ ρ l' us→SV.IsL σ ρ l us
 | [],l',L,us,h,hL,hz=>by
   cases l'<;>simp only [SV.cmpL] at h
   ·exact hz
   ·cases h
 | a::l,l',L,us,h,hL,hz=>by
   cases l' with
   | nil=>simp only [SV.cmpL] at h;cases h
   | cons b l'=>
     simp only [SV.cmpL] at h
     obtain ⟨x,y,h1,h2,h3,h4⟩:=oapp_ok h hL
     rw [SV.isL_cons] at hz ⊢
     obtain ⟨u,r,rfl,g1,g2⟩:=hz
     exact ⟨u,r,rfl,SV.cmp_ok a b x u h1 h3 g1,SV.cmpL_ok l l' y r h2 h4 g2⟩
end
def tmCmp (T T':List (Nat×SV)):Option (List Ob):=
 List.rec (motive:=fun _=>Option (List Ob)) (some []) (fun p _ ih=>match get T' p.1 with | some z=>oapp (SV.cmp p.2 z) ih | none=>none) T
theorem tmCmp_ok {nt:Nat} {T':List (Nat×SV)} {tmps:Array Value} (h:TmRel σ ρ nt T' tmps):∀ {T:List (Nat×SV)} {L:List Ob},tmCmp T T'=some L→Obs σ ρ L→∀ t z,get T t=some z→z.Is σ ρ (tmps.getD t undef)
 | [],L,_,_,t,z,e=>by cases e
 | (s,z0)::T,L,hc,hL,t,z,e=>by
   have hc':(match get T' s with | some z=>oapp (SV.cmp z0 z) (tmCmp T T') | none=>none)=some L:=hc
   split at hc'
   ·rename_i z1 hz1
    obtain ⟨x,y,h1,h2,h3,h4⟩:=oapp_ok hc' hL
    rw [get_cons] at e
    split at e
    ·rename_i hs
     cases e
     simp only at hs
     subst hs
     exact SV.cmp_ok _ _ _ _ h1 h3 (h.get _ _ hz1)
    ·exact tmCmp_ok h h2 h4 t z e
   ·cases hc'
def esCmp (l:List (SV×SV×Nat)):List (SV×SV×Nat)→Option (List Ob):=
 List.rec (motive:=fun _=>List (SV×SV×Nat)→Option (List Ob)) (fun l'=>match l' with | []=>some [] | _=>none)
  (fun p _ ih l'=>match l' with | q::r=>bif Nat.beq p.2.2 q.2.2 then oapp (SV.cmp p.1 q.1) (oapp (SV.cmp p.2.1 q.2.1) (ih r)) else none | []=>none) l
theorem esCmp_ok:∀ {l l':List (SV×SV×Nat)} {L:List Ob} {es:List MapEntry},esCmp l l'=some L→Obs σ ρ L→EsRel σ ρ l' es→EsRel σ ρ l es
 | [],l',L,es,h,hL,he=>by
   cases l' with
   | nil=>exact he
   | cons=>cases h
 | (k,z,n)::l,l',L,es,h,hL,he=>by
   cases l' with
   | nil=>cases h
   | cons q r=>
     obtain ⟨k',z',n'⟩:=q
     have h':(bif Nat.beq n n' then oapp (SV.cmp k k') (oapp (SV.cmp z z') (esCmp l r)) else none)=some L:=h
     cases hb:Nat.beq n n' with
     | false=>rw [hb] at h';cases h'
     | true=>
       rw [hb] at h'
       have:=Nat.eq_of_beq_eq_true hb;subst this
       obtain ⟨x,y,h1,h2,h3,h4⟩:=oapp_ok h' hL
       obtain ⟨x',y',h5,h6,h7,h8⟩:=oapp_ok h2 h4
       obtain ⟨e,r',rfl,g1,g2,g3,g4⟩:=he
       exact ⟨e,r',rfl,SV.cmp_ok _ _ _ _ h1 h3 g1,SV.cmp_ok _ _ _ _ h5 h7 g2,g3,esCmp_ok h6 h8 g4⟩
def rowsS (c:SI) (lay:List Kd) (m:Nat):Nat→List SV:=
 Nat.rec (motive:=fun _=>Nat→List SV) (fun _=>[]) (fun _ ih j=>lapp (kdS c (.c (.ofNat j)) lay 0) (ih (Nat.succ j))) m
def obN (n n':SI) (b:Bool):List Ob:=bif b then [] else [.fa (.le n n') true]
def obC (lay:List Kd) (c c' n:SI) (b:Bool):List Ob:=bif b then [] else [.ar lay c c' n]
def lsEq (a b:LoopState):Bool:=Nat.beq a.ctorIdx b.ctorIdx
theorem lsEq_eq {a b:LoopState} (h:lsEq a b=true):a=b:=by cases a<;>cases b<;>first | rfl | (exact absurd h (by decide))
def Bk.cmp (y z:Bk):Option (List Ob):=
 match y,z with
 | .arr lay c n t cp,.arr lay' c' n' t' cp'=>bif layEq lay lay' then (bif Nat.beq t t' then some (lapp (obC lay c c' n (c.beq c')) (lapp (obN n n' (n.beq n')) (obI cp cp'))) else none) else none
 | .arr lay c n t cp,.row none l t' cp' sz=>bif Nat.beq sz (llen lay) then (bif Nat.beq t t' then oapp (SV.cmpL (rowsS c lay (Nat.div (llen l) sz) 0) l) (some (lapp (.fa (.le n (.c (.ofNat (Nat.div (llen l) sz)))) true::.fa (.le (.c (.ofNat (Nat.div (llen l) sz))) cp') true::[]) (obI cp cp'))) else none) else none
 | .arr lay c n t cp,.cells l t'=>bif Nat.beq t t' then oapp (SV.cmpL (rowsS c lay (Nat.div (llen l) (llen lay)) 0) l) (some (lapp (obN n (.c (.ofNat (Nat.div (llen l) (llen lay)))) (n.beq (.c (.ofNat (Nat.div (llen l) (llen lay)))))) (obI cp (.c (.ofNat (Nat.div (llen l) (llen lay))))))) else none
 | .cells l t,.cells l' t'=>bif Nat.beq t t' then SV.cmpL l l' else none
 | .row none l t cp sz,.row none l' t' cp' sz'=>bif Nat.beq t t' then (bif Nat.beq sz sz' then oapp (SV.cmpL l l') (some (obI cp cp')) else none) else none
 | .loop s _ fn nt tm _ _ _ df,.loop s' _ fn' nt' tm' _ _ _ df'=>bif lsEq s s' then (bif Nat.beq fn fn' then (bif Nat.beq nt nt' then (bif Nat.beq df df' then tmCmp tm tm' else none) else none) else none) else none
 | .dfr,.dfr=>some []
 | .dfn,.dfn=>some []
 | .map es clock,.map es' clock'=>bif Nat.beq clock clock' then esCmp es es' else none
 | .mapc kk vk c,.mapc kk' vk' c'=>bif keq kk kk' then (bif keq vk vk' then some (obI c c') else none) else none
 | .miter id c s none,.miter id' c' s' none=>bif Nat.beq id id' then some (lapp (obI c c') (obI s s')) else none
 | .miter id c s (some k),.miter id' c' s' (some k')=>bif Nat.beq id id' then some (lapp (obI c c') (lapp (obI s s') (obI k k'))) else none
 | .mitn,.mitn=>some []
 | .ob i,.ob j=>bif Nat.beq i j then some [] else none
 | _,_=>none
def Bk.code:Bk→Option (Option Code×Array Tmp×Code×Code)
 | .loop _ pd _ _ _ ps asg body _=>some (pd,ps,asg,body)
 | _=>none
theorem kdS_val {c:SI} {cv:Int} (hc:c.den σ ρ=some cv) {jv:Nat} {lay:List Kd} {f0:Nat}:∀ {us:List Value},SV.IsL σ ρ (kdS c (.c (.ofNat jv)) lay f0) us→∀ (f:Nat) (κ:Kd),lay[f]? = some κ→KR σ ρ.fz κ (κ.val σ cv jv (f0+f)) (us[f]?):=by
 induction lay generalizing f0 with
 | nil=>intro us _ f κ h;simp at h
 | cons k lay ih=>
   intro us h f κ hκ
   have h':SV.IsL σ ρ (k.sv c (.c (.ofNat jv)) f0::kdS c (.c (.ofNat jv)) lay (f0+1)) us:=h
   rw [SV.isL_cons] at h'
   obtain ⟨u,r,rfl,h1,h2⟩:=h'
   cases f with
   | zero=>
     simp only [List.getElem?_cons_zero,Option.some.injEq] at hκ
     subst hκ
     exact ⟨u,by simp,Kd.sv_uniq (j:=.c (.ofNat jv)) hc rfl h1⟩
   | succ f=>
     have:=ih h2 f κ (by simpa using hκ)
     rw [show f0+(f+1)=f0+1+f by omega]
     simpa using this
theorem rowsS_val {c:SI} {cv:Int} (hc:c.den σ ρ=some cv) {lay:List Kd}:∀ {m j0:Nat} {us:List Value},SV.IsL σ ρ (rowsS c lay m j0) us→us.length=m * lay.length∧∀ j,j < m→∀ (f:Nat) (κ:Kd),lay[f]? = some κ→KR σ ρ.fz κ (κ.val σ cv (j0+j) f) (us[j * lay.length+f]?)
 | 0,j0,us,h=>by
   have h':SV.IsL σ ρ [] us:=h
   rw [SV.isL_nil] at h';subst h'
   exact ⟨by simp,fun j hj=>absurd hj (Nat.not_lt_zero _)⟩
 | m+1,j0,us,h=>by
   have h':SV.IsL σ ρ (lapp (kdS c (.c (.ofNat j0)) lay 0) (rowsS c lay m (j0+1))) us:=h
   rw [lapp_eq] at h'
   have split:∀ {l l':List SV} {us:List Value},SV.IsL σ ρ (l++l') us→∃ a b,us=a++b∧SV.IsL σ ρ l a∧SV.IsL σ ρ l' b:=by
    intro l
    induction l with
    | nil=>intro l' us h;exact ⟨[],us,rfl,SV.isL_nil.2 rfl,h⟩
    | cons x l ih=>
      intro l' us h
      rw [List.cons_append,SV.isL_cons] at h
      obtain ⟨u,r,rfl,h1,h2⟩:=h
      obtain ⟨a,b,rfl,h3,h4⟩:=ih h2
      exact ⟨u::a,b,rfl,SV.isL_cons.2 ⟨u,a,rfl,h1,h3⟩,h4⟩
   obtain ⟨a,b,rfl,h1,h2⟩:=split h'
   have hla:a.length=lay.length:=by
    rw [SV.isL_length h1]
    have:∀ (lay:List Kd) (f:Nat),(kdS c (.c (.ofNat j0)) lay f).length=lay.length:=by
     intro lay
     induction lay with
     | nil=>intro f;rfl
     | cons k lay ih=>intro f;show (kdS c (.c (.ofNat j0)) lay (f+1)).length+1=_;rw [ih];rfl
    exact this lay 0
   obtain ⟨i1,i2⟩:=rowsS_val hc h2
   refine ⟨by rw [List.length_append,hla,i1,Nat.add_mul];omega,fun j hj f κ hκ=>?_⟩
   have hf:f < lay.length:=(List.getElem?_eq_some_iff.1 hκ).1
   cases j with
   | zero=>
     have:=kdS_val hc h1 f κ hκ
     rw [List.getElem?_append_left (by omega)]
     simpa using this
   | succ j=>
     rw [List.getElem?_append_right (by rw [Nat.add_mul];omega),hla]
     have:=i2 j (by omega) f κ hκ
     rw [show (j+1) * lay.length+f - lay.length=j * lay.length+f by rw [Nat.add_mul];omega,show j0+(j+1)=j0+1+j by omega]
     exact this
theorem Bk.cmp_ok {y:Bk} (hdef:∀ lay c n t cp,y=Bk.arr lay c n t cp→(∃ a,c.den σ ρ=some a)∧(∃ a,n.den σ ρ=some (Int.ofNat a))) {z:Bk} {L:List Ob} {o:Obj} (h:Bk.cmp y z=some L) (hL:Obs σ ρ L) (hcode:y.code=z.code) (hz:z.Is σ ρ o):y.Is σ ρ o:=by
 unfold Bk.cmp at h
 split at h
 ·rename_i lay c n t cp lay' c' n' t' cp'
  cases h1:layEq lay lay' with
  | false=>rw [h1] at h;cases h
  | true=>
    cases h2:Nat.beq t t' with
    | false=>rw [h1,h2] at h;cases h
    | true=>
      rw [h1,h2] at h
      simp only [cond_true,Option.some.injEq] at h
      subst h
      have:=layEq_eq h1;subst this
      have:=Nat.eq_of_beq_eq_true h2;subst this
      obtain ⟨o1,o2⟩:=Obs.app hL
      obtain ⟨o2,o3⟩:=Obs.app o2
      obtain ⟨cv,nv,cpv,A,g1,g2,g3,g4,g5,g6,rfl⟩:=hz
      obtain ⟨⟨cv0,d1⟩,⟨nv0,d2⟩⟩:=hdef _ _ _ _ _ rfl
      have hn:nv0≤nv:=by
       unfold obN at o2
       cases hb:n.beq n' with
       | true=>
         have:=SI.beq_eq hb;subst this
         rw [d2] at g2
         have:nv0=nv:=by injection g2 with g2;injection g2
         omega
       | false=>
         rw [hb] at o2
         have:=o2 (.fa (.le n n') true) (by simp)
         simp only [Ob.Ok,SB.den,d2,g2,Option.bind_some,Option.some.injEq,decide_eq_true_eq] at this
         exact Int.ofNat_le.1 this
      refine ⟨cv0,nv0,cpv,A,d1,d2,by rw [obI_ok o3];exact g3,by omega,g5,?_,rfl⟩
      intro j hj f κ hκ
      have hold:=g6 j (by omega) f κ hκ
      unfold obC at o1
      cases hb:c.beq c' with
      | true=>
        have:=SI.beq_eq hb;subst this
        rw [d1] at g1;cases g1
        exact hold
      | false=>
        rw [hb] at o1
        have:=(o1 (.ar lay c c' n) (by simp)).2 cv0 cv nv0 d1 g1 d2 j hj f κ hκ
        rw [this];exact hold
 ·rename_i lay c n t cp l t' cp' sz
  cases h1:Nat.beq sz (llen lay) with
  | false=>rw [h1] at h;cases h
  | true=>
    cases h2:Nat.beq t t' with
    | false=>rw [h1,h2] at h;cases h
    | true=>
      rw [h1,h2] at h
      simp only [cond_true] at h
      have hsz:=Nat.eq_of_beq_eq_true h1
      rw [llen_eq] at hsz
      have:=Nat.eq_of_beq_eq_true h2;subst this
      obtain ⟨x,y,k1,k2,k3,k4⟩:=oapp_ok h hL
      cases k2
      obtain ⟨o1,o2⟩:=Obs.app k4
      obtain ⟨us,sp,nn,g1,g2,g3,rfl⟩:=hz
      obtain ⟨⟨cv0,d1⟩,⟨nv0,d2⟩⟩:=hdef _ _ _ _ _ rfl
      have hrow:=SV.cmpL_ok _ _ _ _ k1 k3 g1
      obtain ⟨r1,r2⟩:=rowsS_val d1 hrow
      have hn:nv0≤Nat.div (llen l) sz:=by
       have:=o1 (.fa (.le n (.c (.ofNat (Nat.div (llen l) sz)))) true) (by simp)
       simp only [Ob.Ok,SB.den,SI.den,d2,Option.bind_some,Option.some.injEq,decide_eq_true_eq] at this
       exact Int.ofNat_le.1 this
      have hn2:Nat.div (llen l) sz≤nn:=by
       have:=o1 (.fa (.le (.c (.ofNat (Nat.div (llen l) sz))) cp') true) (by simp)
       simp only [Ob.Ok,SB.den,SI.den,g2,Option.bind_some,Option.some.injEq,decide_eq_true_eq] at this
       exact Int.ofNat_le.1 this
      refine ⟨cv0,nv0,nn,_,d1,d2,by rw [obI_ok o2];exact g2,by omega,?_,?_,rfl⟩
      ·rw [← hsz,← g3];simp [preL]
      ·intro j hj f κ hκ
       have:=r2 j (by omega) f κ hκ
       have hlt:=(List.getElem?_eq_some_iff.1 this.choose_spec.1).1
       rw [Nat.zero_add] at this
       rw [Nat.zero_add]
       simp only [preL,List.nil_append,List.getElem?_toArray]
       rw [List.getElem?_append_left hlt]
       exact this
 ·rename_i lay c n t cp l t'
  cases h2:Nat.beq t t' with
  | false=>rw [h2] at h;cases h
  | true=>
    rw [h2] at h
    simp only [cond_true] at h
    have:=Nat.eq_of_beq_eq_true h2;subst this
    obtain ⟨x,y,k1,k2,k3,k4⟩:=oapp_ok h hL
    cases k2
    obtain ⟨us,g1,rfl⟩:=hz
    obtain ⟨⟨cv0,d1⟩,⟨nv0,d2⟩⟩:=hdef _ _ _ _ _ rfl
    have hrow:=SV.cmpL_ok _ _ _ _ k1 k3 g1
    obtain ⟨r1,r2⟩:=rowsS_val d1 hrow
    obtain ⟨o1,o2⟩:=Obs.app k4
    have hn:nv0≤Nat.div (llen l) (llen lay):=by
     unfold obN at o1
     cases hb:n.beq (.c (.ofNat (Nat.div (llen l) (llen lay)))) with
     | true=>
       have hq:=SI.beq_eq hb
       rw [hq] at d2
       have d3:some ((Nat.div (llen l) (llen lay):Nat):Int)=some ((nv0:Nat):Int):=d2
       have:(Nat.div (llen l) (llen lay):Int)=nv0:=Option.some.inj d3
       omega
     | false=>
       rw [hb] at o1
       have:=o1 (.fa (.le n (.c (.ofNat (Nat.div (llen l) (llen lay))))) true) (by simp)
       simp only [Ob.Ok,SB.den,SI.den,d2,Option.bind_some,Option.some.injEq,decide_eq_true_eq] at this
       exact Int.ofNat_le.1 this
    refine ⟨cv0,nv0,Nat.div (llen l) (llen lay),us.toArray,d1,d2,by rw [obI_ok o2];rfl,hn,?_,?_,rfl⟩
    ·rw [List.size_toArray,r1]
    ·intro j hj f κ hκ
     have:=r2 j (by omega) f κ hκ
     rw [Nat.zero_add] at this
     rw [Nat.zero_add]
     simpa using this
 ·rename_i l t l' t'
  cases h2:Nat.beq t t' with
  | false=>rw [h2] at h;cases h
  | true=>
    rw [h2] at h
    have:=Nat.eq_of_beq_eq_true h2;subst this
    obtain ⟨us,g1,rfl⟩:=hz
    exact ⟨us,SV.cmpL_ok _ _ _ _ h hL g1,rfl⟩
 ·rename_i l t cp sz l' t' cp' sz'
  cases h1:Nat.beq t t' with
  | false=>rw [h1] at h;cases h
  | true=>
    cases h2:Nat.beq sz sz' with
    | false=>rw [h1,h2] at h;cases h
    | true=>
      rw [h1,h2] at h
      have:=Nat.eq_of_beq_eq_true h1;subst this
      have:=Nat.eq_of_beq_eq_true h2;subst this
      obtain ⟨x,y,k1,k2,k3,k4⟩:=oapp_ok h hL
      cases k2
      obtain ⟨us,sp,nn,g1,g2,g3,rfl⟩:=hz
      exact ⟨us,sp,nn,SV.cmpL_ok _ _ _ _ k1 k3 g1,by rw [obI_ok k4];exact g2,g3,rfl⟩
 ·rename_i s pd fn nt tm ps asg body df s' pd' fn' nt' tm' ps' asg' body' df'
  cases h1:lsEq s s' with
  | false=>rw [h1] at h;cases h
  | true=>
    cases h2:Nat.beq fn fn' with
    | false=>rw [h1,h2] at h;cases h
    | true=>
      cases h3:Nat.beq nt nt' with
      | false=>rw [h1,h2,h3] at h;cases h
      | true=>
        cases h4:Nat.beq df df' with
        | false=>rw [h1,h2,h3,h4] at h;cases h
        | true=>
          rw [h1,h2,h3,h4] at h
          simp only [cond_true] at h
          have:=lsEq_eq h1;subst this
          have:=Nat.eq_of_beq_eq_true h2;subst this
          have:=Nat.eq_of_beq_eq_true h3;subst this
          have:=Nat.eq_of_beq_eq_true h4;subst this
          simp only [Bk.code,Option.some.injEq,Prod.mk.injEq] at hcode
          obtain ⟨rfl,rfl,rfl,rfl⟩:=hcode
          obtain ⟨tmps,d,g1,g2,rfl⟩:=hz
          exact ⟨tmps,d,⟨g1.size,tmCmp_ok g1 h hL⟩,g2,rfl⟩
 ·exact hz
 ·exact hz
 ·rename_i es clock es' clock'
  cases h1:Nat.beq clock clock' with
  | false=>rw [h1] at h;cases h
  | true=>
    rw [h1] at h
    have:=Nat.eq_of_beq_eq_true h1;subst this
    obtain ⟨l,g1,rfl⟩:=hz
    exact ⟨l,esCmp_ok h hL g1,rfl⟩
 ·rename_i kk vk c kk' vk' c'
  cases h1:keq kk kk' with
  | false=>rw [h1] at h;cases h
  | true=>
    cases h2:keq vk vk' with
    | false=>rw [h1,h2] at h;cases h
    | true=>
      rw [h1,h2] at h
      simp only [cond_true,Option.some.injEq] at h
      subst h
      have:=keq_eq h1;subst this
      have:=keq_eq h2;subst this
      simp only [Bk.Is] at hz ⊢
      rw [obI_ok hL];exact hz
 ·rename_i id c s id' c' s'
  cases h1:Nat.beq id id' with
  | false=>rw [h1] at h;cases h
  | true=>
    rw [h1] at h
    simp only [cond_true,Option.some.injEq] at h
    subst h
    have:=Nat.eq_of_beq_eq_true h1;subst this
    obtain ⟨o1,o2⟩:=Obs.app hL
    simp only [Bk.Is] at hz ⊢
    rw [obI_ok o1,obI_ok o2];exact hz
 ·rename_i id c s k id' c' s' k'
  cases h1:Nat.beq id id' with
  | false=>rw [h1] at h;cases h
  | true=>
    rw [h1] at h
    simp only [cond_true,Option.some.injEq] at h
    subst h
    have:=Nat.eq_of_beq_eq_true h1;subst this
    obtain ⟨o1,o2⟩:=Obs.app hL
    obtain ⟨o2,o3⟩:=Obs.app o2
    simp only [Bk.Is,olk] at hz ⊢
    rw [obI_ok o1,obI_ok o2,obI_ok o3];exact hz
 ·exact hz
 ·rename_i i j
  cases h1:Nat.beq i j with
  | false=>rw [h1] at h;cases h
  | true=>have:=Nat.eq_of_beq_eq_true h1;subst this;exact hz
 ·cases h
end
end
end Go.Sx
namespace Go.Sx
noncomputable section
set_option linter.unusedVariables false
set_option linter.unusedSimpArgs false
open Go.RowKit
structure Tm where
 f:Fr
 fs:List Fr
 H:Hp
 vs:List Nat
def SI.dvk (k:Nat) (x:SI):Option SI:=
 SI.rec (motive:=fun _=>Option SI) (fun n=>match n with | .ofNat n=>bif Nat.beq (Nat.mod n k) 0 then some (.c (.ofNat (Nat.div n k))) else none | _=>none) (fun _=>none) (fun _=>none)
  (fun f a b ha hb=>bif Nat.beq f.code IB.mul.code then (match ha,hb with | some a',_=>some (SI.mul b a') | none,some b'=>some (SI.mul a b') | none,none=>none)
   else (bif Nat.beq f.code IB.add.code then (match ha,hb with | some a',some b'=>some (SI.add a' b') | _,_=>none) else none))
  (fun _ _ _=>none) (fun _ _ _ _ _ _ _ _ _ _ _ _ _=>none) x
def mDv (f:IB) (b:SI) (ha:SI→In→In) (y:SI) (I:In):In:=
 bif Nat.beq f.code IB.mul.code then (match b with | .c (.ofNat k)=>(match SI.dvk k y with | some z=>ha z I | none=>I) | _=>I) else I
def mI (vs:List Nat) (x:SI):SI→In→In:=
 SI.rec (motive:=fun _=>SI→In→In) (fun _ _ I=>I)
  (fun i y I=>bif lmem vs i then (match get I.s.i i with | none=>⟨⟨(i,y)::I.s.i,I.s.b⟩,I.bm,I.dm,I.km⟩ | some _=>I) else I)
  (fun i y I=>match get I.dm i with | none=>⟨I.s,I.bm,(i,y)::I.dm,I.km⟩ | some _=>I)
  (fun f _ b0 ha hb y I=>bif Nat.beq f.code IB.mul.code then mDv f b0 ha y I else (match y with | .op g a b=>bif Nat.beq f.code g.code then hb b (ha a I) else I | _=>I))
  (fun k _ ha y I=>match y with | .wk _ a=>ha a I | _=>I)
  (fun f _ _ _ _ _ _ h0 h1 h2 h3 h4 h5 y I=>match y with | .ap g a0 a1 a2 a3 a4 a5=>bif Nat.beq f g then h5 a5 (h4 a4 (h3 a3 (h2 a2 (h1 a1 (h0 a0 I))))) else I | _=>I) x
def mB (vs:List Nat) (x y:SB) (I:In):In:=
 match x with
 | .v i=>bif lmem vs i then (match get I.s.b i with | none=>⟨⟨I.s.i,(i,y)::I.s.b⟩,I.bm,I.dm,I.km⟩ | some _=>I) else I
 | _=>I
def mId (i j:Nat) (I:In):In:=match get I.bm i with | none=>⟨I.s,(i,j)::I.bm,I.dm,I.km⟩ | some _=>I
def mR (x y:SR) (I:In):In:=
 match x,y with
 | .n i,.n j=>mId i j I
 | .k i,.k j=>bif Nat.beq i j then I else (match get I.km i with | none=>⟨I.s,I.bm,I.dm,(i,.k j)::I.km⟩ | some _=>I)
 | .k i,r=>match get I.km i with | none=>⟨I.s,I.bm,I.dm,(i,r)::I.km⟩ | some _=>I
 | _,_=>I
mutual
def mV (vs:List Nat):SV→SV→In→In
 | .it _ e,.it _ e',I=>mI vs e e' I
 | .bo p,.bo q,I=>mB vs p q I
 | .pt r o,.pt r' o',I=>mI vs o o' (mR r r' I)
 | .sl r o l c,.sl r' o' l' c',I=>mI vs c c' (mI vs l l' (mI vs o o' (mR r r' I)))
 | .mp r,.mp r',I=>mR r r' I
 | .fn _ a c,.fn _ a' c',I=>mVL vs c c' (mVL vs a a' I)
 | .yl i,.yl j,I=>mId i j I
 | .fc _ x,.fc _ y,I=>mV vs x y I
 | .ag l,.ag l',I=>mVL vs l l' I
 | .tp l,.tp l',I=>mVL vs l l' I
 | .fs _ y,.fs _ y',I=>mI vs y y' I
 | .fp _ y j _,.fp _ y' j' _,I=>mI vs j j' (mI vs y y' I)
 | .sf y,.sf y',I=>mI vs y y' I
 | _,_,I=>I
def mVL (vs:List Nat):List SV→List SV→In→In
 | a::l,b::l',I=>mVL vs l l' (mV vs a b I)
 | _,_,I=>I
end
def mT (vs:List Nat) (T T':List (Nat×SV)) (I:In):In:=
 List.rec (motive:=fun _=>In→In) (fun I=>I) (fun p _ ih I=>match get T' p.1 with | some z=>ih (mV vs p.2 z I) | none=>ih I) T I
def mIds (l:List Nat):List Nat→In→In:=
 List.rec (motive:=fun _=>List Nat→In→In) (fun _ I=>I) (fun i _ ih l' I=>match l' with | j::r=>ih r (mId i j I) | []=>I) l
def mTd (l:List It):List It→In→In:=
 List.rec (motive:=fun _=>List It→In→In) (fun _ I=>I) (fun x _ ih l' I=>match l' with
  | y::r=>ih r (match x,y with | .inRangeFunc i,.inRangeFunc j=>mId i j I | .endRangeFunc i,.endRangeFunc j=>mId i j I | .dc _ a c,.dc _ a' c'=>mVL [] c c' (mVL [] a a' I) | _,_=>I)
  | []=>I) l
def mF (vs:List Nat) (f0 f:Fr) (I:In):In:=
 let I1:=mTd f0.todo f.todo (mIds f0.df f.df (mT vs f0.tm f.tm I))
 match f0.rd,f.rd with | some i,some j=>mId i j I1 | _,_=>I1
def mFs (vs:List Nat) (l:List Fr):List Fr→In→In:=
 List.rec (motive:=fun _=>List Fr→In→In) (fun _ I=>I) (fun x _ ih l' I=>match l' with | y::r=>ih r (mF vs x y I) | []=>I) l
def codeL (L:Nat) (l:List SV):SI→Nat→Nat→SI:=
 List.rec (motive:=fun _=>SI→Nat→Nat→SI) (fun c _ _=>c) (fun z _ ih c j f=>
  let e:=match z with | .it _ e=>e | .bo (.c true)=>.c 1 | .fs _ y=>y | _=>.c 0
  bif Nat.beq (Nat.succ f) L then ih (.ap 8 c (.c (.ofNat j)) (.c (.ofNat f)) e (.c 0) (.c 0)) (Nat.succ j) 0 else ih (.ap 8 c (.c (.ofNat j)) (.c (.ofNat f)) e (.c 0) (.c 0)) j (Nat.succ f)) l
def zeroL (l:List SV):Bool:=lall (fun z=>match z with | .it _ (.c n)=>ieq n 0 | _=>false) l
def codeZ (k:Nat) (l:List SV):SI:=bif zeroL l then .c 0 else codeL k l (.c 0) 0 0
def mBk (vs:List Nat) (x y:Bk) (I:In):In:=
 match x,y with
 | .arr _ c n _ cp,.arr _ c' n' _ cp'=>mI vs cp cp' (mI vs n n' (mI vs c c' I))
 | .arr lay c n _ cp,.row none l _ cp' sz=>mI vs cp cp' (mI vs n (.c (.ofNat (Nat.div (llen l) sz))) (mI vs c (codeZ (llen lay) l) I))
 | .arr lay c n _ cp,.cells l _=>mI vs cp (.c (.ofNat (Nat.div (llen l) (llen lay)))) (mI vs n (.c (.ofNat (Nat.div (llen l) (llen lay)))) (mI vs c (codeZ (llen lay) l) I))
 | .cells l _,.cells l' _=>mVL vs l l' I
 | .row _ l _ cp _,.row _ l' _ cp' _=>mI vs cp cp' (mVL vs l l' I)
 | .loop _ _ _ _ tm _ _ _ df,.loop _ _ _ _ tm' _ _ _ df'=>mId df df' (mT vs tm tm' I)
 | .mapc _ _ c,.mapc _ _ c'=>mI vs c c' I
 | .miter id c s (some k),.miter id' c' s' (some k')=>mId id id' (mI vs k k' (mI vs s s' (mI vs c c' I)))
 | .miter id c s _,.miter id' c' s' _=>mId id id' (mI vs s s' (mI vs c c' I))
 | _,_=>I
def mH1 (vs:List Nat) (H:Hp) (l:List (Nat×Bk)):In→In:=
 List.rec (motive:=fun _=>In→In) (fun I=>I) (fun p _ ih I=>match get I.bm p.1 with
  | some j=>match get H.heap j with | some z=>ih (mBk vs p.2 z I) | none=>ih I
  | none=>ih I) l
def mH (vs:List Nat) (H:Hp) (l:List (Nat×Bk)) (n:Nat):In→In:=
 Nat.rec (motive:=fun _=>In→In) (fun I=>I) (fun _ ih I=>ih (mH1 vs H l I)) n
def mTm (T:Tm) (f:Fr) (fs:List Fr) (H:Hp):In:=
 mH T.vs H T.H.heap (llen T.H.heap) (mFs T.vs T.fs fs (mF T.vs T.f f ⟨⟨[],[]⟩,[],[],[]⟩))
def SI.okd (ds:List Nat) (x:SI):Bool:=
 SI.rec (motive:=fun _=>Bool) (fun _=>true) (fun _=>true) (fun i=>lmem ds i) (fun _ _ _ a b=>bif a then b else false) (fun _ _ a=>a)
  (fun _ _ _ _ _ _ _ a b c d e g=>bif a then (bif b then (bif c then (bif d then (bif e then g else false) else false) else false) else false) else false) x
def SB.okd (ds:List Nat) (x:SB):Bool:=
 SB.rec (motive:=fun _=>Bool) (fun _=>true) (fun _=>true) (fun x y=>bif x.okd ds then y.okd ds else false) (fun x y=>bif x.okd ds then y.okd ds else false) (fun x y=>bif x.okd ds then y.okd ds else false)
  (fun _ _=>true) (fun f a b c d e g=>(SI.ap f a b c d e g).okd ds) (fun _ a=>a) (fun _ _ a b=>bif a then b else false) (fun _ _ a b=>bif a then b else false) x
def dsOf (F:List (SB×Bool)):List Nat:=
 List.rec (motive:=fun _=>List Nat) [] (fun p _ ih=>match p.1 with | .le _ (.d i)=>i::ih | _=>ih) F
section
variable {σ:Sta} {ρ:Dyn}
theorem dsOf_ok:∀ {F:List (SB×Bool)},(∀ f∈F,f.1.den σ ρ=some f.2)→∀ i∈dsOf F,∃ n,ρ.di i=some n
 | [],_,i,hi=>by cases hi
 | p::F,h,i,hi=>by
   have ih:=dsOf_ok (F:=F) fun f hf=>h f (List.mem_cons_of_mem _ hf)
   have h0:=h p (by simp)
   have hi':i∈(match p.1 with | .le _ (.d i)=>i::dsOf F | _=>dsOf F):=hi
   split at hi'
   ·rename_i x k hk
    rcases List.mem_cons.1 hi' with rfl | hi'
    ·rw [hk] at h0
     simp only [SB.den] at h0
     obtain ⟨a,_,h0⟩:=Option.bind_eq_some_iff.1 h0
     obtain ⟨b,hb,_⟩:=Option.bind_eq_some_iff.1 h0
     simp only [SI.den] at hb
     cases hd:ρ.di i with
     | none=>rw [hd] at hb;cases hb
     | some n=>exact ⟨n,rfl⟩
    ·exact ih i hi'
   ·exact ih i hi'
theorem SI.okd_den {ds:List Nat} (hd:∀ i∈ds,∃ n,ρ.di i=some n):∀ {x:SI},x.okd ds=true→∃ a,x.den σ ρ=some a:=by
 intro x
 induction x with
 | c n=>exact fun _=>⟨n,rfl⟩
 | v i=>exact fun _=>⟨_,rfl⟩
 | d i=>
   intro h
   obtain ⟨n,hn⟩:=hd i (lmem_iff.1 h)
   exact ⟨n,by simp [SI.den,hn]⟩
 | op f a b ha hb=>
   intro h
   have h':(bif a.okd ds then b.okd ds else false)=true:=h
   rw [cond_true_iff] at h'
   obtain ⟨x,hx⟩:=ha h'.1
   obtain ⟨y,hy⟩:=hb h'.2
   exact ⟨_,by simp [SI.den,hx,hy];rfl⟩
 | wk k a ha=>
   intro h
   obtain ⟨x,hx⟩:=ha h
   exact ⟨_,by simp [SI.den,hx];rfl⟩
 | ap f a0 a1 a2 a3 a4 a5 h0 h1 h2 h3 h4 h5=>
   intro h
   have h':(bif a0.okd ds then (bif a1.okd ds then (bif a2.okd ds then (bif a3.okd ds then (bif a4.okd ds then a5.okd ds else false) else false) else false) else false) else false)=true:=h
   simp only [cond_true_iff] at h'
   obtain ⟨q0,q1,q2,q3,q4,q5⟩:=h'
   obtain ⟨x0,e0⟩:=h0 q0
   obtain ⟨x1,e1⟩:=h1 q1
   obtain ⟨x2,e2⟩:=h2 q2
   obtain ⟨x3,e3⟩:=h3 q3
   obtain ⟨x4,e4⟩:=h4 q4
   obtain ⟨x5,e5⟩:=h5 q5
   exact ⟨_,by simp only [SI.den,e0,e1,e2,e3,e4,e5,Option.bind_some];rfl⟩
theorem SB.okd_den {ds:List Nat} (hd:∀ i∈ds,∃ n,ρ.di i=some n):∀ {x:SB},x.okd ds=true→∃ a,x.den σ ρ=some a:=by
 intro x
 induction x with
 | c n=>exact fun _=>⟨n,rfl⟩
 | v i=>exact fun _=>⟨_,rfl⟩
 | seq a b=>exact fun _=>⟨_,rfl⟩
 | lt a b=>
   intro h
   have h':(bif a.okd ds then b.okd ds else false)=true:=h
   rw [cond_true_iff] at h'
   obtain ⟨x,hx⟩:=SI.okd_den (σ:=σ) hd h'.1
   obtain ⟨y,hy⟩:=SI.okd_den (σ:=σ) hd h'.2
   exact ⟨_,by simp [SB.den,hx,hy];rfl⟩
 | le a b=>
   intro h
   have h':(bif a.okd ds then b.okd ds else false)=true:=h
   rw [cond_true_iff] at h'
   obtain ⟨x,hx⟩:=SI.okd_den (σ:=σ) hd h'.1
   obtain ⟨y,hy⟩:=SI.okd_den (σ:=σ) hd h'.2
   exact ⟨_,by simp [SB.den,hx,hy];rfl⟩
 | eq a b=>
   intro h
   have h':(bif a.okd ds then b.okd ds else false)=true:=h
   rw [cond_true_iff] at h'
   obtain ⟨x,hx⟩:=SI.okd_den (σ:=σ) hd h'.1
   obtain ⟨y,hy⟩:=SI.okd_den (σ:=σ) hd h'.2
   exact ⟨_,by simp [SB.den,hx,hy];rfl⟩
 | ap f a0 a1 a2 a3 a4 a5=>
   intro h
   have h':(bif a0.okd ds then (bif a1.okd ds then (bif a2.okd ds then (bif a3.okd ds then (bif a4.okd ds then a5.okd ds else false) else false) else false) else false) else false)=true:=h
   simp only [cond_true_iff] at h'
   obtain ⟨q0,q1,q2,q3,q4,q5⟩:=h'
   obtain ⟨x0,e0⟩:=SI.okd_den (σ:=σ) hd q0
   obtain ⟨x1,e1⟩:=SI.okd_den (σ:=σ) hd q1
   obtain ⟨x2,e2⟩:=SI.okd_den (σ:=σ) hd q2
   obtain ⟨x3,e3⟩:=SI.okd_den (σ:=σ) hd q3
   obtain ⟨x4,e4⟩:=SI.okd_den (σ:=σ) hd q4
   obtain ⟨x5,e5⟩:=SI.okd_den (σ:=σ) hd q5
   exact ⟨_,by simp only [SB.den,e0,e1,e2,e3,e4,e5,Option.bind_some];rfl⟩
 | not p hp=>
   intro h
   obtain ⟨x,hx⟩:=hp h
   exact ⟨!x,by simp [SB.den,hx]⟩
 | and p q hp hq=>
   intro h
   have h':(bif p.okd ds then q.okd ds else false)=true:=h
   rw [cond_true_iff] at h'
   obtain ⟨x,hx⟩:=hp h'.1
   obtain ⟨y,hy⟩:=hq h'.2
   exact ⟨x && y,by simp [SB.den,hx,hy]⟩
 | or p q hp hq=>
   intro h
   have h':(bif p.okd ds then q.okd ds else false)=true:=h
   rw [cond_true_iff] at h'
   obtain ⟨x,hx⟩:=hp h'.1
   obtain ⟨y,hy⟩:=hq h'.2
   exact ⟨x || y,by simp [SB.den,hx,hy]⟩
end
def cpOf (H:Hp) (e:SI):Bool:=
 List.rec (motive:=fun _=>Bool) false (fun p _ ih=>match get H.heap p.1 with | some (.arr _ _ _ _ cp)=>(bif cp.beq e then true else ih) | some (.row _ _ _ cp _)=>(bif cp.beq e then true else ih) | _=>ih) H.heap
theorem cpOf_ok {C:Ct} {hc:Nat→Option Obj} {w0:World} {ρ:Dyn} {H:Hp} {w:World} (h:HpRel C hc w0 ρ H w) {e:SI} (he:cpOf H e=true):∃ n:Nat,e.den C.σ ρ=some (Int.ofNat n):=by
 unfold cpOf at he
 have:∀ l:List (Nat×Bk),(List.rec (motive:=fun _=>Bool) false (fun p _ ih=>match get H.heap p.1 with | some (.arr _ _ _ _ cp)=>(bif cp.beq e then true else ih) | some (.row _ _ _ cp _)=>(bif cp.beq e then true else ih) | _=>ih) l)=true→∃ n:Nat,e.den C.σ ρ=some (Int.ofNat n):=by
  intro l
  induction l with
  | nil=>intro h;cases h
  | cons p l ih=>
    intro hl
    dsimp only at hl
    split at hl
    ·rename_i lay c n t cp hg
     cases hb:cp.beq e with
     | false=>rw [hb] at hl;exact ih hl
     | true=>
       have:=SI.beq_eq hb;subst this
       obtain ⟨b,o,_,_,cv,nv,cpv,A,_,_,h3,_⟩:=h.blk _ _ hg rfl
       exact ⟨cpv,h3⟩
    ·rename_i pre l' t cp sz hg
     cases hb:cp.beq e with
     | false=>rw [hb] at hl;exact ih hl
     | true=>
       have:=SI.beq_eq hb;subst this
       obtain ⟨b,o,_,_,us,sp,n,_,h3,_⟩:=h.blk _ _ hg rfl
       exact ⟨n,h3⟩
    ·exact ih hl
 exact this _ he
def frzP (e:SI):Bool:=match e with | .ap 8 _ _ a2 a3 a4 a5=>frzQ 0 a2 a3 a4 a5 | _=>false
theorem frzP_ok {cc:Cc} {C:Ct} (hcc:cc.Ok C) {ρ:Dyn} {e:SI} {a:Int} (he:frzP e=true) (ha:e.den C.σ ρ=some a):0≤a:=by
 unfold frzP at he
 split at he
 ·rename_i c n a2 a3 a4 a5
  unfold frzQ at he
  simp only [cond_true_iff] at he
  obtain ⟨q4,q5,q3,q2,_⟩:=he
  have:=SI.beq_eq q4;subst this
  have:=SI.beq_eq q5;subst this
  have:=SI.beq_eq q3;subst this
  have:=SI.beq_eq q2;subst this
  simp only [SI.den,Option.bind_eq_some_iff,Option.some.injEq] at ha
  obtain ⟨c0,e0,n0,e1,g0,rfl,x0,rfl,o0,rfl,z1,rfl,rfl⟩:=ha
  exact hcc.al.fp n0 c0
 ·cases he
def In.chk (cc:Cc) (H:Hp) (I:In):Bool:=
 let ds:=dsOf H.facts
 bif lall (fun p=>p.2.okd ds) I.s.i then (bif lall (fun p=>p.2.okd ds) I.s.b then (bif lall (fun p=>bif p.2.okd ds then (bif nonneg (bdOf cc H) p.2 then true else bif frzP p.2 then true else cpOf H p.2) else false) I.dm then
  lall (fun p=>match p.2 with | .n id=>(match get H.heap id with | some bk=>bk.live | none=>false) | _=>true) I.km else false) else false) else false
section
variable {cc:Cc} {C:Ct} {hc:Nat→Option Obj} {w0:World} {cs:List Frame} {ρ:Dyn} {f:Fr} {fs:List Fr} {H:Hp} {w:World} {I:In}
theorem In.chk_ok (hcc:cc.Ok C) (h:HpRel C hc w0 ρ H w) (hI:I.chk cc H=true):I.Def C.σ ρ:=by
 have hI':(bif lall (fun p=>p.2.okd (dsOf H.facts)) I.s.i then (bif lall (fun p=>p.2.okd (dsOf H.facts)) I.s.b then (bif lall (fun p=>bif p.2.okd (dsOf H.facts) then (bif nonneg (bdOf cc H) p.2 then true else bif frzP p.2 then true else cpOf H p.2) else false) I.dm then
  lall (fun p=>match p.2 with | .n id=>(match get H.heap id with | some bk=>bk.live | none=>false) | _=>true) I.km else false) else false) else false)=true:=hI
 simp only [cond_true_iff] at hI'
 obtain ⟨h1,h2,h3,h4⟩:=hI'
 have hd:=dsOf_ok h.facts
 refine ⟨fun j e he=>SI.okd_den hd (lall_iff.1 h1 _ (get_mem he)),fun j e he=>SB.okd_den hd (lall_iff.1 h2 _ (get_mem he)),fun j e he=>?_,fun j r he=>?_⟩
 ·have:=lall_iff.1 h3 _ (get_mem he)
  simp only [cond_true_iff] at this
  obtain ⟨a,ha⟩:=SI.okd_den hd this.1
  cases hn:nonneg (bdOf cc H) e with
  | true=>
    obtain ⟨n,rfl⟩:=nonneg_ok (bdOf_ok hcc h) hn ha
    exact ⟨n,ha⟩
  | false=>
    have h2:=this.2
    rw [hn] at h2
    cases hz:frzP e with
    | true=>
      have h0:=frzP_ok hcc hz ha
      obtain ⟨n,rfl⟩:∃ n:Nat,a=n:=⟨a.toNat,by omega⟩
      exact ⟨n,ha⟩
    | false=>
      rw [hz] at h2
      exact cpOf_ok h h2
 ·have:=lall_iff.1 h4 _ (get_mem he)
  cases r with
  | n id=>
    dsimp only at this
    split at this
    ·rename_i bk hg
     obtain ⟨b,o,e1,_⟩:=h.blk id bk hg this
     exact ⟨b,e1⟩
    ·cases this
  | k i=>exact ⟨_,rfl⟩
  | g i=>exact ⟨_,rfl⟩
def idsEq (l:List Nat):List Nat→Bool:=
 List.rec (motive:=fun _=>List Nat→Bool) (fun l'=>match l' with | []=>true | _=>false) (fun a _ ih l'=>match l' with | b::r=>bif Nat.beq a b then ih r else false | []=>false) l
theorem idsEq_eq:∀ {l l':List Nat},idsEq l l'=true→l=l'
 | [],[],_=>rfl
 | [],_::_,h=>by cases h
 | _::_,[],h=>by cases h
 | a::l,b::l',h=>by
   have h':(bif Nat.beq a b then idsEq l l' else false)=true:=h
   rw [cond_true_iff] at h'
   rw [Nat.eq_of_beq_eq_true h'.1,idsEq_eq h'.2]
def rdCmp (I:In) (a b:Option Nat):Bool:=match a,b with | none,none=>true | some i,some j=>(match get I.bm i with | some k=>Nat.beq k j | none=>false) | _,_=>false
theorem rdCmp_ok {I:In} {a b:Option Nat} {r:Option Nat} (h3:rdCmp I a b=true) (hrdr:RdRel ρ b r):RdRel (I.dyn C.σ ρ) a r∧a.isNone=b.isNone:=by
 unfold rdCmp at h3
 split at h3
 ·exact ⟨hrdr,rfl⟩
 ·rename_i i j
  obtain ⟨b,g1,g2⟩:=hrdr
  split at h3
  ·rename_i kk hk
   have:=Nat.eq_of_beq_eq_true h3;subst this
   exact ⟨⟨b,by show (get I.bm i).bind ρ.bl=some b;rw [hk];exact g1,g2⟩,rfl⟩
  ·cases h3
 ·cases h3
def frCmp (I:In) (f0 f:Fr):Option (List Ob):=
 bif Nat.beq f0.fn f.fn then (bif Nat.beq f0.nt f.nt then (bif rdCmp I f0.rd f.rd then (match tmIns I f0.tm,idsIns I f0.df with
  | some tm,some df=>bif idsEq df f.df then tmCmp tm f.tm else none
  | _,_=>none) else none) else none) else none
theorem frCmp_ok (hI:I.Def C.σ ρ) {f0:Fr} {fr:Frame} {L:List Ob} (h:frCmp I f0 f=some L) (hL:Obs C.σ ρ L) (htd:tdIns I f0.todo=some f.todo) :
  (FrIs C.σ ρ f fr→FrIs (I.sta C.σ ρ) (I.dyn C.σ ρ) f0 fr)∧(FrU C.σ ρ f fr→FrU (I.sta C.σ ρ) (I.dyn C.σ ρ) f0 fr)∧f0.fn=f.fn∧f0.rd.isNone=f.rd.isNone:=by
 unfold frCmp at h
 cases h1:Nat.beq f0.fn f.fn with
 | false=>rw [h1] at h;cases h
 | true=>
 cases h2:Nat.beq f0.nt f.nt with
 | false=>rw [h1,h2] at h;cases h
 | true=>
 cases h3:rdCmp I f0.rd f.rd with
 | false=>rw [h1,h2,h3] at h;cases h
 | true=>
 rw [h1,h2,h3] at h
 simp only [cond_true] at h
 split at h
 ·rename_i tm df htm hdf
  cases h4:idsEq df f.df with
  | false=>rw [h4] at h;cases h
  | true=>
    rw [h4] at h
    have h1:=Nat.eq_of_beq_eq_true h1
    have h2:=Nat.eq_of_beq_eq_true h2
    have h4:=idsEq_eq h4
    have hnn:f0.rd.isNone=f.rd.isNone:=by
     unfold rdCmp at h3
     split at h3
     ·rename_i e1 e2;rw [e1,e2]
     ·rename_i i j e1 e2;rw [e1,e2];rfl
     ·cases h3
    refine ⟨?_,?_,h1,hnn⟩
    ·rintro ⟨tmps,dfs,k,ro,heq,htmr,htdr,⟨d1,d2,q1,q2,q3⟩,hrdr⟩
     refine ⟨tmps,dfs,k,ro,by rw [h1,← tdIns_kd htd];exact heq,?_,tdIns_rel htd htdr,⟨d1,d2,q1,idsIns_rel hdf (by rw [h4];exact q2),tdIns_dc hI htd q3⟩,(rdCmp_ok h3 hrdr).1⟩
     rw [h2]
     exact (tmIns_rel hI htm).1 ⟨htmr.size,tmCmp_ok htmr h hL⟩
    ·rintro ⟨m,l,g1,g2,g3,g4⟩
     have hdf0:f0.df=[]:=by
      cases hd:f0.df with
      | nil=>rfl
      | cons x r=>
        rw [hd] at hdf
        have hdf':(match get I.bm x,idsIns I r with | some y,some r=>some (y::r) | _,_=>none)=some df:=hdf
        split at hdf'
        ·cases hdf';rw [g2] at h4;cases h4
        ·cases hdf'
     have hrd0:f0.rd=none:=by
      have:=g4.rd
      rw [this] at hnn
      cases hr:f0.rd with
      | none=>rfl
      | some x=>rw [hr] at hnn;cases hnn
     have htmr:TmRel (I.sta C.σ ρ) (I.dyn C.σ ρ) f0.nt f0.tm fr.tmps:=by
      rw [h2]
      exact (tmIns_rel hI htm).1 ⟨g4.tm.size,tmCmp_ok g4.tm h hL⟩
     rw [g1] at htd
     cases htd0:f0.todo with
     | nil=>rw [htd0] at htd;cases htd
     | cons x l0=>
       rw [htd0] at htd
       have htd':(match x.ins I,tdIns I l0 with | some y,some r=>some (y::r) | _,_=>none)=some (m::l):=htd
       split at htd'
       ·rename_i y r hy hr
        cases htd'
        refine ⟨x,l0,htd0,hdf0,?_,⟨by rw [g4.fn,h1],htmr,tdIns_dc hI hr g4.df,g4.kd,g4.ro,hrd0⟩⟩
        cases x
        case inRangeFunc l=>(have hy':(match get I.bm l with | some j=>some (It.inRangeFunc j) | none=>none)=some m:=hy);split at hy'<;>cases hy';exact g3.elim
        case endRangeFunc l=>(have hy':(match get I.bm l with | some j=>some (It.endRangeFunc j) | none=>none)=some m:=hy);split at hy'<;>cases hy';exact g3.elim
        case dc g a c=>
         have hy':(match SV.insL I a,SV.insL I c with | some a',some c'=>some (It.dc g a' c') | _,_=>none)=some m:=hy
         split at hy'<;>cases hy';exact g3.elim
        case mdP v r'=>
         have hy':(match SV.ins I v with | some v'=>some (It.mdP v' r') | none=>none)=some m:=hy
         split at hy'
         ·rename_i v' hv
          cases hy'
          obtain ⟨u,e1,e2⟩:=g3
          exact ⟨u,(SV.ins_is hI _ _ _ hv).1 e1,e2⟩
         ·cases hy'
        all_goals (cases hy;exact g3)
       ·cases htd'
 ·cases h
def fsCmp (I:In) (l:List Fr):List Fr→Option (List Ob):=
 List.rec (motive:=fun _=>List Fr→Option (List Ob)) (fun l'=>match l' with | []=>some [] | _=>none) (fun f0 _ ih l'=>match l' with | f::r=>oapp (frCmp I f0 f) (ih r) | []=>none) l
theorem fsCmp_ok (hI:I.Def C.σ ρ):∀ {l l':List Fr} {frs:List Frame} {L:List Ob},fsCmp I l l'=some L→Obs C.σ ρ L→l.map (fun f0=>tdIns I f0.todo)=l'.map (fun f=>some f.todo)→FsRel C.σ ρ l' frs→FsRel (I.sta C.σ ρ) (I.dyn C.σ ρ) l frs∧l.map (fun f=>(f.fn,f.rd.isNone))=l'.map (fun f=>(f.fn,f.rd.isNone))
 | [],l',frs,L,h,hL,htd,hr=>by
   cases l' with
   | nil=>exact ⟨hr,rfl⟩
   | cons=>cases h
 | f0::l,l',frs,L,h,hL,htd,hr=>by
   cases l' with
   | nil=>cases h
   | cons f l'=>
     have h':oapp (frCmp I f0 f) (fsCmp I l l')=some L:=h
     obtain ⟨x,y,k1,k2,k3,k4⟩:=oapp_ok h' hL
     obtain ⟨fr,t,rfl,g1,g2⟩:=hr
     simp only [List.map_cons,List.cons.injEq] at htd
     obtain ⟨q0,q1,q2,q3⟩:=frCmp_ok (fr:=fr) hI k1 k3 htd.1
     obtain ⟨r1,r2⟩:=fsCmp_ok hI k2 k4 htd.2 g2
     exact ⟨⟨fr,t,rfl,g1.elim (fun g=>.inl (q0 g)) (fun g=>.inr (q1 g)),r1⟩,by rw [List.map_cons,List.map_cons,r2,q2,q3]⟩
def nnOb (cc:Cc) (H:Hp) (bk:Bk):List Ob:=match bk with | .arr _ _ n _ _=>bif nonneg (bdOf cc H) n then [] else (match dec (bdOf cc H) H.facts (.le (.c 0) n) with | .yes true=>[] | _=>[.fa (.le (.c 0) n) true]) | _=>[]
def bkCmp (cc:Cc) (H:Hp) (I:In) (i:Nat) (bk:Bk):Option (List Ob):=
 bif bk.live then (match get I.bm i,bk.ins I with
  | some j,some bk'=>match get H.heap j with
    | some z=>bif z.live then oapp (Bk.cmp bk' z) (some (nnOb cc H bk')) else none
    | none=>none
  | _,_=>none) else none
def hpCmp (cc:Cc) (H:Hp) (I:In) (l:List (Nat×Bk)):Option (List Ob):=
 List.rec (motive:=fun _=>Option (List Ob)) (some []) (fun p _ ih=>oapp (bkCmp cc H I p.1 p.2) ih) l
def cdA (H:Hp) (I:In) (i:Nat):Option (Option Code×Array Tmp×Code×Code):=match get I.bm i with | some j=>(match get H.heap j with | some z=>z.code | none=>none) | none=>none
theorem Bk.ins_code {bk bk':Bk} (h:bk.ins I=some bk'):bk'.code=bk.code:=by
 unfold Bk.ins at h
 split at h
 case h_5=>split at h<;>cases h<;>rfl
 all_goals first
  | (cases h;rfl)
  | (split at h<;>cases h<;>rfl)
  | cases h
theorem hpCmp_ok (hcc:cc.Ok C) (h:HpRel C hc w0 ρ H w) (hI:I.Def C.σ ρ):∀ {l:List (Nat×Bk)} {L:List Ob},hpCmp cc H I l=some L→Obs C.σ ρ L→l.map (fun p=>p.2.code)=l.map (fun p=>cdA H I p.1)→∀ i bk,(i,bk)∈l→
  bk.live=true∧∃ j z b o,get I.bm i=some j∧get H.heap j=some z∧z.live=true∧ρ.bl j=some b∧w.heap[b]? = some o∧bk.Is (I.sta C.σ ρ) (I.dyn C.σ ρ) o
 | [],L,_,_,_,i,bk,hm=>by cases hm
 | p::l,L,hh,hL,hcd,i,bk,hm=>by
   have hh':oapp (bkCmp cc H I p.1 p.2) (hpCmp cc H I l)=some L:=hh
   obtain ⟨x,y,k1,k2,k3,k4⟩:=oapp_ok hh' hL
   simp only [List.map_cons,List.cons.injEq] at hcd
   rcases List.mem_cons.1 hm with e | hm
   ·subst e
    unfold bkCmp at k1
    cases hl:bk.live with
    | false=>simp only [hl,cond_false] at k1;cases k1
    | true=>
      simp only [hl,cond_true] at k1
      split at k1
      ·rename_i j bk' hj hins
       split at k1
       ·rename_i z hz
        cases hzl:z.live with
        | false=>rw [hzl] at k1;cases k1
        | true=>
          rw [hzl] at k1
          simp only [cond_true] at k1
          obtain ⟨x1,x2,m1,m2,m3,m4⟩:=oapp_ok k1 k3
          cases m2
          obtain ⟨b,o,g1,g2,g3⟩:=h.blk j z hz hzl
          obtain ⟨q1,q2⟩:=Bk.ins_is (o:=o) hI hins
          refine ⟨rfl,j,z,b,o,hj,hz,hzl,g1,g2,q1.1 (Bk.cmp_ok ?_ m1 m3 ?_ g3)⟩
          ·intro lay c n t cp e
           subst e
           have hsrc:∃ c0 n0:SI,c0.ins I=some c∧n0.ins I=some n:=by
            unfold Bk.ins at hins
            split at hins
            ·split at hins
             ·rename_i c0 n0 _ _ _ _ _ hc hn hcp
              cases hins
              exact ⟨_,_,hc,hn⟩
             ·cases hins
            all_goals first
             | (cases hins;done)
             | (split at hins<;>cases hins)
           obtain ⟨c0,n0,i1,i2⟩:=hsrc
           obtain ⟨a,a1,_⟩:=SI.ins_ok hI i1
           obtain ⟨v,v1,_⟩:=SI.ins_ok hI i2
           refine ⟨⟨a,a1⟩,?_⟩
           cases hnn:nonneg (bdOf cc H) n with
           | true=>
             obtain ⟨m,rfl⟩:=nonneg_ok (bdOf_ok hcc h) hnn v1
             exact ⟨m,v1⟩
           | false=>
             have hd:(SB.le (.c 0) n).den C.σ ρ=some (decide (0≤v)):=by simp [SB.den,SI.den,v1]
             have h0:0≤v:=by
              by_cases hdc:dec (bdOf cc H) H.facts (.le (.c 0) n)=.yes true
              ·have:=dec_ok (bdOf_ok hcc h) h.facts hd hdc
               simpa using this.symm
              ·have:=m4 (.fa (.le (.c 0) n) true) (by
                simp only [nnOb,hnn,cond_false]
                simp)
               simp only [Ob.Ok,SB.den,SI.den,v1,Option.bind_some,Option.some.injEq,decide_eq_true_eq] at this
               exact this
             exact ⟨v.toNat,by rw [v1];congr 1;simp;omega⟩
          ·rw [Bk.ins_code hins]
           have:=hcd.1
           simp only [cdA,hj,hz] at this
           exact this
       ·cases k1
      ·cases k1
   ·exact hpCmp_ok hcc h hI k2 k4 hcd.2 i bk hm
def nodup (l:List Nat):Bool:=List.rec (motive:=fun _=>Bool) true (fun a r ih=>bif lmem r a then false else ih) l
def bmL (I:In) (l:List (Nat×Bk)):List Nat:=List.rec (motive:=fun _=>List Nat) [] (fun p _ ih=>match get I.bm p.1 with | some j=>j::ih | none=>ih) l
theorem bm_mem_aux:∀ {l:List (Nat×Bk)} {i:Nat} {bk:Bk} {j:Nat},(i,bk)∈l→get I.bm i=some j→j∈bmL I l
 | [],_,_,_,h,_=>by cases h
 | q::l,i,bk,j,h,e=>by
   show j∈(match get I.bm q.1 with | some j=>j::bmL I l | none=>bmL I l)
   rcases List.mem_cons.1 h with e' | h
   ·subst e';rw [e];simp
   ·have:=bm_mem_aux h e
    cases get I.bm q.1 with
    | none=>exact this
    | some b=>exact List.mem_cons_of_mem _ this
theorem bm_inj:∀ {l:List (Nat×Bk)},nodup (bmL I l)=true→∀ i i' bk bk' j,(i,bk)∈l→(i',bk')∈l→get I.bm i=some j→get I.bm i'=some j→i=i'
 | [],_,i,_,_,_,_,h,_,_,_=>by cases h
 | p::l,hn,i,i',bk,bk',j,h1,h2,e1,e2=>by
   cases g:get I.bm p.1 with
   | none=>
     have hn':nodup (bmL I l)=true:=by
      have hn':nodup (match get I.bm p.1 with | some j=>j::bmL I l | none=>bmL I l)=true:=hn
      rw [g] at hn';exact hn'
     rcases List.mem_cons.1 h1 with e | h1
     ·subst e;rw [g] at e1;cases e1
     ·rcases List.mem_cons.1 h2 with e | h2
      ·subst e;rw [g] at e2;cases e2
      ·exact bm_inj hn' i i' bk bk' j h1 h2 e1 e2
   | some a=>
     have hn':(bif lmem (bmL I l) a then false else nodup (bmL I l))=true:=by
      have hn':nodup (match get I.bm p.1 with | some j=>j::bmL I l | none=>bmL I l)=true:=hn
      rw [g] at hn';exact hn'
     cases ha:lmem (bmL I l) a with
     | true=>rw [ha] at hn';cases hn'
     | false=>
       rw [ha] at hn'
       have hna:a ∉ bmL I l:=fun hm=>by rw [lmem_iff.2 hm] at ha;cases ha
       rcases List.mem_cons.1 h1 with e | h1'
       ·have ea:get I.bm i=some a:=by rw [← g,← e]
        rw [e1] at ea;cases ea
        rcases List.mem_cons.1 h2 with e' | h2'
        ·rw [← e'] at e;cases e;rfl
        ·exact absurd (bm_mem_aux h2' e2) hna
       ·rcases List.mem_cons.1 h2 with e | h2'
        ·have ea:get I.bm i'=some a:=by rw [← g,← e]
         rw [e2] at ea;cases ea
         exact absurd (bm_mem_aux h1' e1) hna
        ·exact bm_inj hn' i i' bk bk' j h1' h2' e1 e2
end
end
end Go.Sx
namespace Go.Sx
noncomputable section
set_option linter.unusedVariables false
set_option linter.unusedSimpArgs false
open Go.RowKit
structure Sh where
 td:List (Option (List It))
 cd:List (Option (Option Code×Array Tmp×Code×Code))
def shT (T:Tm) (I:In):Sh:=⟨tdIns I T.f.todo::lmap (fun f=>tdIns I f.todo) T.fs,lmap (fun p=>p.2.code) T.H.heap⟩
def shA (T:Tm) (I:In) (f:Fr) (fs:List Fr) (H:Hp):Sh:=⟨some f.todo::lmap (fun f=>some f.todo) fs,lmap (fun p=>cdA H I p.1) T.H.heap⟩
def inRg (r:Rg) (a b:Int):Bool:=bif ile a b then (match r with | (some x,some y)=>bif ile a x then ile y b else false | _=>false) else (match r with | (some x,_)=>ile a x | _=>false)
theorem inRg_ok {r:Rg} {a b x:Int} (h:inRg r a b=true) (hx:r.In x):InR a b x:=by
 unfold inRg at h
 cases hab:ile a b with
 | true=>
   rw [hab,cond_true] at h
   have h5:=ile_iff.1 hab
   split at h
   ·rename_i p q
    rw [cond_true_iff] at h
    have h1:=ile_iff.1 h.1
    have h2:=ile_iff.1 h.2
    have h3:=hx.1 p rfl
    have h4:=hx.2 q rfl
    exact ⟨by omega,by rw [if_pos h5];omega⟩
   ·cases h
 | false=>
   rw [hab,cond_false] at h
   have h5:¬ a≤b:=fun h=>by rw [ile_iff.2 h] at hab;cases hab
   split at h
   ·rename_i p q
    have h1:=ile_iff.1 h
    have h3:=hx.1 p rfl
    exact ⟨by omega,by rw [if_neg h5];omega⟩
   ·cases h
def isYes (r:DR) (b:Bool):Bool:=match r with | .yes b'=>(bif b' then b else !b) | _=>false
theorem isYes_ok {r:DR} {b:Bool} (h:isYes r b=true):r=.yes b:=by
 unfold isYes at h
 split at h
 ·rename_i b'
  cases b'<;>cases b<;>first | rfl | cases h
 ·cases h
def fcOb (cc:Cc) (H:Hp) (I:In) (F:List (SB×Bool)):Option (List Ob):=
 List.rec (motive:=fun _=>Option (List Ob)) (some []) (fun p _ ih=>match p.1.ins I with | some q=>oapp (some (bif isYes (dec (bdOf cc H) H.facts q) p.2 then [] else [.fa q p.2])) ih | none=>none) F
def bdOb (cc:Cc) (H:Hp) (I:In) (l:List (Nat×Int×Int)):List Ob:=
 List.rec (motive:=fun _=>List Ob) [] (fun p _ ih=>
  let e:=match get I.s.i p.1 with | some e=>e | none=>.v p.1
  bif inRg (rg (bdOf cc H) e) p.2.1 p.2.2 then ih else .rn e p.2.1 p.2.2::ih) l
section
variable {cc:Cc} {C:Ct} {hc:Nat→Option Obj} {w0:World} {cs:List Frame} {ρ:Dyn} {f:Fr} {fs:List Fr} {H:Hp} {w:World} {I:In}
theorem fcOb_ok (hcc:cc.Ok C) (h:HpRel C hc w0 ρ H w) (hI:I.Def C.σ ρ):∀ {F:List (SB×Bool)} {L:List Ob},fcOb cc H I F=some L→Obs C.σ ρ L→∀ p∈F,p.1.den (I.sta C.σ ρ) (I.dyn C.σ ρ)=some p.2
 | [],L,_,_,p,hp=>by cases hp
 | q::F,L,hh,hL,p,hp=>by
   have hh':(match q.1.ins I with | some r=>oapp (some (bif isYes (dec (bdOf cc H) H.facts r) q.2 then [] else [.fa r q.2])) (fcOb cc H I F) | none=>none)=some L:=hh
   split at hh'
   ·rename_i r hr
    obtain ⟨x,y,k1,k2,k3,k4⟩:=oapp_ok hh' hL
    cases k1
    rcases List.mem_cons.1 hp with rfl | hp
    ·obtain ⟨v,v1,v2⟩:=SB.ins_ok hI hr
     rw [v2]
     cases hy:isYes (dec (bdOf cc H) H.facts r) p.2 with
     | true=>
       have:=dec_ok (bdOf_ok hcc h) h.facts v1 (isYes_ok hy)
       rw [this]
     | false=>
       rw [hy] at k3
       have:=k3 (.fa r p.2) (by simp)
       simp only [Ob.Ok] at this
       rw [← this,v1]
    ·exact fcOb_ok hcc h hI k2 k4 p hp
   ·cases hh'
theorem bdOb_ok (hcc:cc.Ok C) (h:HpRel C hc w0 ρ H w) (hI:I.Def C.σ ρ):∀ {l:List (Nat×Int×Int)},Obs C.σ ρ (bdOb cc H I l)→∀ i a b,(i,a,b)∈l→InR a b (I.iv C.σ ρ i)
 | [],_,i,a,b,hm=>by cases hm
 | q::l,hL,i,a,b,hm=>by
   have hL':Obs C.σ ρ (bif inRg (rg (bdOf cc H) (match get I.s.i q.1 with | some e=>e | none=>.v q.1)) q.2.1 q.2.2 then bdOb cc H I l else .rn (match get I.s.i q.1 with | some e=>e | none=>.v q.1) q.2.1 q.2.2::bdOb cc H I l):=hL
   have hrest:Obs C.σ ρ (bdOb cc H I l):=by
    cases hb:inRg (rg (bdOf cc H) (match get I.s.i q.1 with | some e=>e | none=>.v q.1)) q.2.1 q.2.2 with
    | true=>rw [hb] at hL';exact hL'
    | false=>rw [hb] at hL';exact fun o ho=>hL' o (List.mem_cons_of_mem _ ho)
   rcases List.mem_cons.1 hm with e | hm
   ·subst e
    have hden:(match get I.s.i i with | some e=>e | none=>SI.v i).den C.σ ρ=some (I.iv C.σ ρ i):=by
     unfold In.iv
     cases hg:get I.s.i i with
     | some e=>
       obtain ⟨x,hx⟩:=hI.i i e hg
       simp [hx]
     | none=>rfl
    cases hb:inRg (rg (bdOf cc H) (match get I.s.i i with | some e=>e | none=>.v i)) a b with
    | true=>exact inRg_ok hb (rg_ok (bdOf_ok hcc h) _ _ hden)
    | false=>
      dsimp only at hL'
      rw [hb] at hL'
      have:=hL' _ (List.mem_cons_self ..)
      simp only [Ob.Ok] at this
      obtain ⟨v,h1,h2,h3⟩:=this
      rw [hden] at h1
      cases h1
      exact ⟨h2,h3⟩
   ·exact bdOb_ok hcc h hI hrest i a b hm
def inRgF (B:Bd) (F:List (SB×Bool)) (e:SI) (a b:Int):Bool:=
 bif inRg (rg B e) a b then true else (bif isYes (dec B F (.le (.c a) e)) true then (bif ile a b then isYes (dec B F (.le e (.c b))) true else true) else false)
theorem inRgF_ok {B:Bd} {σ:Sta} (hB:B.Ok σ) {ρ:Dyn} {F:List (SB×Bool)} (hF:∀ f∈F,f.1.den σ ρ=some f.2) {e:SI} {x:Int} (hx:e.den σ ρ=some x) {a b:Int} (h:inRgF B F e a b=true):InR a b x:=by
 unfold inRgF at h
 cases h1:inRg (rg B e) a b with
 | true=>exact inRg_ok h1 (rg_ok hB _ _ hx)
 | false=>
   rw [h1,cond_false] at h
   cases h2:isYes (dec B F (.le (.c a) e)) true with
   | false=>rw [h2] at h;cases h
   | true=>
     rw [h2,cond_true] at h
     have ha:(SB.le (.c a) e).den σ ρ=some (decide (a≤x)):=by simp only [SB.den,SI.den,hx,Option.bind_some]
     have ha':=dec_ok hB hF ha (isYes_ok h2)
     have ha2:a≤x:=of_decide_eq_true ha'.symm
     cases h3:ile a b with
     | false=>
       have h5:¬ a≤b:=fun h=>by rw [ile_iff.2 h] at h3;cases h3
       exact ⟨ha2,by rw [if_neg h5];omega⟩
     | true=>
       rw [h3,cond_true] at h
       have hb:(SB.le e (.c b)).den σ ρ=some (decide (x≤b)):=by simp only [SB.den,SI.den,hx,Option.bind_some]
       have hb':=dec_ok hB hF hb (isYes_ok h)
       exact ⟨ha2,by rw [if_pos (ile_iff.1 h3)];exact of_decide_eq_true hb'.symm⟩
def bdFk (cc:Cc) (H:Hp) (I:In) (l:List (Nat×Int×Int)):Bool:=
 List.rec (motive:=fun _=>Bool) true (fun p _ ih=>
  bif inRgF (bdOf cc H) H.facts (match get I.s.i p.1 with | some e=>e | none=>.v p.1) p.2.1 p.2.2 then ih else false) l
theorem bdFk_ok (hcc:cc.Ok C) (h:HpRel C hc w0 ρ H w) (hI:I.Def C.σ ρ):∀ {l:List (Nat×Int×Int)},bdFk cc H I l=true→∀ i a b,(i,a,b)∈l→InR a b (I.iv C.σ ρ i)
 | [],_,i,a,b,hm=>by cases hm
 | q::l,hL,i,a,b,hm=>by
   have hL':(bif inRgF (bdOf cc H) H.facts (match get I.s.i q.1 with | some e=>e | none=>.v q.1) q.2.1 q.2.2 then bdFk cc H I l else false)=true:=hL
   cases hb:inRgF (bdOf cc H) H.facts (match get I.s.i q.1 with | some e=>e | none=>.v q.1) q.2.1 q.2.2 with
   | false=>rw [hb] at hL';cases hL'
   | true=>
     rw [hb,cond_true] at hL'
     rcases List.mem_cons.1 hm with e | hm
     ·subst e
      have hden:(match get I.s.i i with | some e=>e | none=>SI.v i).den C.σ ρ=some (I.iv C.σ ρ i):=by
       unfold In.iv
       cases hg:get I.s.i i with
       | some e=>
         obtain ⟨x,hx⟩:=hI.i i e hg
         simp [hx]
       | none=>rfl
      exact inRgF_ok (bdOf_ok hcc h) h.facts hden hb
     ·exact bdFk_ok hcc h hI hL' i a b hm
def isEm {α:Type} (l:List α):Bool:=match l with | []=>true | _=>false
def ltAll (n:Nat) (l:List Nat):Bool:=lall (fun i=>Nat.blt i n) l
def keys {α:Type} (l:List (Nat×α)):List Nat:=lmap (fun p=>p.1) l
def instK (cc:Cc) (T:Tm) (H:Hp) (I:In):Bool:=
 bif I.chk cc H then (bif ltAll T.H.nb (keys T.H.heap) then (bif ltAll T.H.nb (keys I.bm) then (bif ltAll T.H.nd (keys I.dm) then (bif nodup (bmL I T.H.heap) then (bif lall (fun j=>lmem H.phis j) T.H.phis then (bif isEm I.km then (bif lall (fun p=>lmem T.vs p.1) I.s.i then lall (fun p=>lmem T.vs p.1) I.s.b else false) else false) else false) else false) else false) else false) else false) else false
def instOf (cc:Cc) (T:Tm) (f:Fr) (fs:List Fr) (H:Hp) (I:In):Option (List Ob):=
 bif instK cc T H I then oapp (frCmp I T.f f) (oapp (fsCmp I T.fs fs) (oapp (hpCmp cc H I T.H.heap) (oapp (fcOb cc H I T.H.facts) (some (bdOb cc H I T.H.bd))))) else none
theorem get_key {α:Type} {l:List (Nat×α)} {i:Nat} {a:α} (h:get l i=some a):i∈keys l:=by
 have:=get_mem h
 unfold keys
 rw [lmap_eq]
 exact List.mem_map.2 ⟨_,this,rfl⟩
theorem ltAll_ok {n:Nat} {l:List Nat} (h:ltAll n l=true):∀ i∈l,i < n:=fun i hi=>by
 have:=lall_iff.1 h i hi
 simpa [Nat.blt_eq] using this
theorem instK_def (hcc:cc.Ok C) {T:Tm} (h:HpRel C hc w0 ρ H w) (hk:instK cc T H I=true):I.Def C.σ ρ:=by
 unfold instK at hk
 simp only [cond_true_iff] at hk
 exact In.chk_ok hcc h hk.1
theorem inst_ok (hcc:cc.Ok C) {C':Ct} (hσ:C'.σ=I.sta C.σ ρ) (hF0:C'.F0=C.F0) (hX:C'.X=C.X) (hphi:∀ j ρ' U U',(∀ b o,U b o→U' b o)→C.phi j ρ U→C'.phi j ρ' U') {T:Tm} {L:List Ob} (h:instOf cc T f fs H I=some L) (hsh:shA T I f fs H=shT T I) {m:Machine} (hm:Sat C hc w0 cs ρ f fs H m) (hL:Obs C.σ ρ L) :
  Sat C' hc w0 cs (I.dyn C.σ ρ) T.f T.fs T.H m∧botOf T.f T.fs=botOf f fs:=by
 obtain ⟨fr,frs,w,rfl,hf,hfs,hh⟩:=hm
 unfold instOf at h
 cases hk:instK cc T H I with
 | false=>rw [hk] at h;cases h
 | true=>
   rw [hk] at h
   simp only [cond_true] at h
   have hI:=instK_def hcc hh hk
   unfold instK at hk
   simp only [cond_true_iff] at hk
   obtain ⟨_,k1,k2,k3,k4,k5,_⟩:=hk
   obtain ⟨L1,L',e1,h,o1,hL⟩:=oapp_ok h hL
   obtain ⟨L2,L',e2,h,o2,hL⟩:=oapp_ok h hL
   obtain ⟨L3,L',e3,h,o3,hL⟩:=oapp_ok h hL
   obtain ⟨L4,L5,e4,h,o4,o5⟩:=oapp_ok h hL
   cases h
   simp only [shA,shT,Sh.mk.injEq,List.cons.injEq,lmap_eq] at hsh
   obtain ⟨⟨s1,s2⟩,s3⟩:=hsh
   obtain ⟨g0,_,g2,g3⟩:=frCmp_ok (fr:=fr) hI e1 o1 s1.symm
   have g1:=g0 hf
   obtain ⟨g4,g5⟩:=fsCmp_ok hI e2 o2 s2.symm hfs
   have hhp:=hpCmp_ok hcc hh hI e3 o3 s3.symm
   refine ⟨⟨fr,frs,w,rfl,by rw [hσ];exact g1,by rw [hσ];exact g4,?_⟩,?_⟩
   ·have blk:∀ i bk,get T.H.heap i=some bk→bk.live=true∧∃ j z b o,get I.bm i=some j∧get H.heap j=some z∧z.live=true∧ρ.bl j=some b∧w.heap[b]? = some o∧bk.Is (I.sta C.σ ρ) (I.dyn C.σ ρ) o:=fun i bk hg=>hhp i bk (get_mem hg)
    have bl_of:∀ i b,(I.dyn C.σ ρ).bl i=some b→∃ j,get I.bm i=some j∧ρ.bl j=some b:=by
     intro i b e
     have e':(get I.bm i).bind ρ.bl=some b:=e
     exact Option.bind_eq_some_iff.1 e'
    have own:∀ b,Own (I.dyn C.σ ρ) T.H.heap b→Own ρ H.heap b:=by
     rintro b ⟨i,bk,q1,q2,q3⟩
     obtain ⟨_,j,z,b',o,r1,r2,r3,r4,r5,r6⟩:=blk i bk q1
     obtain ⟨j',t1,t2⟩:=bl_of i b q3
     rw [r1] at t1;cases t1
     exact ⟨j,z,r2,r3,t2⟩
    refine ⟨fun i bk q1 q2=>?_,fun i i' bk bk' b q1 q2 q3 q4 q5 q6=>?_,fun i hi=>?_,fun i hi=>?_,fun i hi=>rfl,fun i b e=>?_,fun i bk q1=>?_,hh.hid,fun b hb=>by rw [hX];exact hh.nh b (own b hb),fun p hp=>?_,fun i a b hm=>?_,fun j hj=>?_,fun b o e=>(hh.fz b o e).imp (fun ⟨u1,u2,u3⟩=>⟨u1,u2,fun hw=>u3 (own b hw)⟩) (fun h=>by rw [hF0,hX];exact h),hh.os,hh.tape,hh.output,hh.size⟩
    ·obtain ⟨_,j,z,b,o,r1,r2,r3,r4,r5,r6⟩:=blk i bk q1
     exact ⟨b,o,by show (get I.bm i).bind ρ.bl=some b;rw [r1];exact r4,r5,by rw [hσ];exact r6⟩
    ·obtain ⟨_,j,z,b1,o,r1,r2,r3,r4,r5,r6⟩:=blk i bk q1
     obtain ⟨_,j',z',b1',o',r1',r2',r3',r4',r5',r6'⟩:=blk i' bk' q3
     obtain ⟨k,t1,t2⟩:=bl_of i b q5
     rw [r1] at t1;cases t1
     obtain ⟨k',t1',t2'⟩:=bl_of i' b q6
     rw [r1'] at t1';cases t1'
     have:=hh.inj j j' z z' b r2 r3 r2' r3' t2 t2'
     subst this
     exact bm_inj k4 i i' bk bk' j (get_mem q1) (get_mem q3) r1 r1'
    ·show (get I.bm i).bind ρ.bl=none
     cases hg:get I.bm i with
     | none=>rfl
     | some j=>have:=ltAll_ok k2 i (get_key hg);omega
    ·show (get I.dm i).bind _=none
     cases hg:get I.dm i with
     | none=>rfl
     | some j=>have:=ltAll_ok k3 i (get_key hg);omega
    ·obtain ⟨j,_,t2⟩:=bl_of i b e
     exact hh.lt j b t2
    ·exact ltAll_ok k1 i (get_key q1)
    ·rw [hσ];exact fcOb_ok hcc hh hI e4 o4 p hp
    ·rw [hσ];exact bdOb_ok hcc hh hI o5 i a b hm
    ·have:=lmem_iff.1 (lall_iff.1 k5 j hj)
     exact hphi j _ _ _ (fun b o ⟨u1,u2,u3⟩=>⟨u1,u2,fun hw=>u3 (own b hw)⟩) (hh.phis j this)
   ·have hlast:∀ {l l':List Fr},l.map (fun f=>(f.fn,f.rd.isNone))=l'.map (fun f=>(f.fn,f.rd.isNone))→l.getLast?.map (fun f=>(f.fn,f.rd.isNone))=l'.getLast?.map (fun f=>(f.fn,f.rd.isNone)):=by
     intro l l' e
     rw [← List.getLast?_map,← List.getLast?_map,e]
    have:=hlast g5
    unfold botOf
    cases h1:T.fs.getLast? with
    | none=>
      cases h2:fs.getLast? with
      | none=>simp only [g2,g3]
      | some x=>rw [h1,h2] at this;cases this
    | some x=>
      cases h2:fs.getLast? with
      | none=>rw [h1,h2] at this;cases this
      | some y=>
        rw [h1,h2] at this
        simpa using this
end
section
variable {cc:Cc} {C:Ct} {hc:Nat→Option Obj} {w0:World} {ρ:Dyn} {H:Hp} {w:World}
mutual
def frzT (cc:Cc):SV→SV→Hp→SV×Hp
 | .fs i _,x,H=>match frz1 cc H i x with | some p=>p | none=>(x,H)
 | .tp l,.tp l',H=>(.tp (frzTL cc l l' H).1,(frzTL cc l l' H).2)
 | .ag l,.ag l',H=>(.ag (frzTL cc l l' H).1,(frzTL cc l l' H).2)
 | _,x,H=>(x,H)
def frzTL (cc:Cc):List SV→List SV→Hp→List SV×Hp
 | a::l,b::l',H=>((frzT cc a b H).1::(frzTL cc l l' (frzT cc a b H).2).1,(frzTL cc l l' (frzT cc a b H).2).2)
 | _,l',H=>(l',H)
end
mutual
theorem frzT_ok (hcc:cc.Ok C):∀ (y z:SV) {H:Hp} {ρ:Dyn} {u:Value},HpRel C hc w0 ρ H w→z.Is C.σ ρ u→∃ ρ',FrzOk C hc w0 w ρ H ρ' (frzT cc y z H).2∧(frzT cc y z H).1.Is C.σ ρ' u
 | .fs i e,z,H,ρ,u,h,hz=>by
   cases hf:frz1 cc H i z with
   | none=>simp only [frzT,hf];exact ⟨ρ,.refl h,hz⟩
   | some p=>simp only [frzT,hf];exact frz1_ok hcc h hz hf
 | .tp l,z,H,ρ,u,h,hz=>by
   cases z<;>simp only [frzT]<;>try exact ⟨ρ,.refl h,hz⟩
   rename_i l'
   simp only [SV.Is] at hz ⊢
   obtain ⟨vs,h1,rfl⟩:=hz
   obtain ⟨ρ',k1,k2⟩:=frzTL_ok hcc l l' h h1
   exact ⟨ρ',k1,vs,k2,rfl⟩
 | .ag l,z,H,ρ,u,h,hz=>by
   cases z<;>simp only [frzT]<;>try exact ⟨ρ,.refl h,hz⟩
   rename_i l'
   simp only [SV.Is] at hz ⊢
   obtain ⟨vs,h1,rfl⟩:=hz
   obtain ⟨ρ',k1,k2⟩:=frzTL_ok hcc l l' h h1
   exact ⟨ρ',k1,vs,k2,rfl⟩
 | .any,z,H,ρ,u,h,hz=>by simp only [frzT];exact ⟨ρ,.refl h,hz⟩
 | .bo p,z,H,ρ,u,h,hz=>by simp only [frzT];exact ⟨ρ,.refl h,hz⟩
 | .it k e,z,H,ρ,u,h,hz=>by simp only [frzT];exact ⟨ρ,.refl h,hz⟩
 | .st e,z,H,ρ,u,h,hz=>by simp only [frzT];exact ⟨ρ,.refl h,hz⟩
 | .pt r o,z,H,ρ,u,h,hz=>by simp only [frzT];exact ⟨ρ,.refl h,hz⟩
 | .pn,z,H,ρ,u,h,hz=>by simp only [frzT];exact ⟨ρ,.refl h,hz⟩
 | .sl r o l c,z,H,ρ,u,h,hz=>by simp only [frzT];exact ⟨ρ,.refl h,hz⟩
 | .sn,z,H,ρ,u,h,hz=>by simp only [frzT];exact ⟨ρ,.refl h,hz⟩
 | .mp r,z,H,ρ,u,h,hz=>by simp only [frzT];exact ⟨ρ,.refl h,hz⟩
 | .mn,z,H,ρ,u,h,hz=>by simp only [frzT];exact ⟨ρ,.refl h,hz⟩
 | .fn f a c,z,H,ρ,u,h,hz=>by simp only [frzT];exact ⟨ρ,.refl h,hz⟩
 | .yl i,z,H,ρ,u,h,hz=>by simp only [frzT];exact ⟨ρ,.refl h,hz⟩
 | .fz,z,H,ρ,u,h,hz=>by simp only [frzT];exact ⟨ρ,.refl h,hz⟩
 | .fc t x,z,H,ρ,u,h,hz=>by simp only [frzT];exact ⟨ρ,.refl h,hz⟩
 | .fcn,z,H,ρ,u,h,hz=>by simp only [frzT];exact ⟨ρ,.refl h,hz⟩
 | .va i,z,H,ρ,u,h,hz=>by simp only [frzT];exact ⟨ρ,.refl h,hz⟩
 | .dv i,z,H,ρ,u,h,hz=>by simp only [frzT];exact ⟨ρ,.refl h,hz⟩
 | .fe,z,H,ρ,u,h,hz=>by simp only [frzT];exact ⟨ρ,.refl h,hz⟩
 | .fp i y j f,z,H,ρ,u,h,hz=>by simp only [frzT];exact ⟨ρ,.refl h,hz⟩
 | .sf y,z,H,ρ,u,h,hz=>by simp only [frzT];exact ⟨ρ,.refl h,hz⟩
theorem frzTL_ok (hcc:cc.Ok C):∀ (y z:List SV) {H:Hp} {ρ:Dyn} {us:List Value},HpRel C hc w0 ρ H w→SV.IsL C.σ ρ z us→∃ ρ',FrzOk C hc w0 w ρ H ρ' (frzTL cc y z H).2∧SV.IsL C.σ ρ' (frzTL cc y z H).1 us
 | [],z,H,ρ,us,h,hz=>by simp only [frzTL];exact ⟨ρ,.refl h,hz⟩
 | a::l,[],H,ρ,us,h,hz=>by simp only [frzTL];exact ⟨ρ,.refl h,hz⟩
 | a::l,b::l',H,ρ,us,h,hz=>by
   simp only [frzTL]
   rw [SV.isL_cons] at hz
   obtain ⟨u,r,rfl,h1,h2⟩:=hz
   obtain ⟨ρ1,k1,k2⟩:=frzT_ok hcc a b h h1
   obtain ⟨ρ2,k3,k4⟩:=frzTL_ok hcc l l' k1.hp (SV.isL_mono k1.le _ _ h2)
   exact ⟨ρ2,k1.trans k3,SV.isL_cons.2 ⟨u,r,rfl,SV.is_mono k3.le _ _ k2,k4⟩⟩
end
end
mutual
theorem frzT_phis (cc:Cc):∀ (y z:SV) (H:Hp),(frzT cc y z H).2.phis=H.phis
 | .fs i e,z,H=>by
   cases hf:frz1 cc H i z with
   | none=>simp only [frzT,hf]
   | some p=>simp only [frzT,hf];exact frz1_phis hf
 | .tp l,z,H=>by cases z<;>simp only [frzT]<;>exact frzTL_phis cc l _ H
 | .ag l,z,H=>by cases z<;>simp only [frzT]<;>exact frzTL_phis cc l _ H
 | .any,z,H=>by simp only [frzT]
 | .bo p,z,H=>by simp only [frzT]
 | .it k e,z,H=>by simp only [frzT]
 | .st e,z,H=>by simp only [frzT]
 | .pt r o,z,H=>by simp only [frzT]
 | .pn,z,H=>by simp only [frzT]
 | .sl r o l c,z,H=>by simp only [frzT]
 | .sn,z,H=>by simp only [frzT]
 | .mp r,z,H=>by simp only [frzT]
 | .mn,z,H=>by simp only [frzT]
 | .fn f a c,z,H=>by simp only [frzT]
 | .yl i,z,H=>by simp only [frzT]
 | .fz,z,H=>by simp only [frzT]
 | .fc t x,z,H=>by simp only [frzT]
 | .fcn,z,H=>by simp only [frzT]
 | .va i,z,H=>by simp only [frzT]
 | .dv i,z,H=>by simp only [frzT]
 | .fe,z,H=>by simp only [frzT]
 | .fp i y j f,z,H=>by simp only [frzT]
 | .sf y,z,H=>by simp only [frzT]
theorem frzTL_phis (cc:Cc):∀ (y z:List SV) (H:Hp),(frzTL cc y z H).2.phis=H.phis
 | [],z,H=>by simp only [frzTL]
 | a::l,[],H=>by simp only [frzTL]
 | a::l,b::l',H=>by
   simp only [frzTL]
   rw [frzTL_phis cc l l' _,frzT_phis cc a b H]
end
structure Out where
 cs:List (SB×Bool)
 z:SV
 hp:List (Nat×Bk)
 nb:Nat
 nd:Nat
 fs:List (SB×Bool)
def OutIs (σ:Sta) (F:Nat→Option Obj) (w0 w':World) (u:Value) (o:Out):Prop:=
 ∃ ρ:Dyn,(∀ p∈o.fs,p.1.den σ ρ=some p.2)∧(∀ i bk,(i,bk)∈o.hp→bk.live=true∧∃ b obj,ρ.bl i=some b∧w'.heap[b]? = some obj∧bk.Is σ ρ obj)∧
   (∀ i i' bk bk' b,(i,bk)∈o.hp→(i',bk')∈o.hp→ρ.bl i=some b→ρ.bl i'=some b→i=i')∧
   (∀ i b,ρ.bl i=some b→i < o.nb∧w0.heap.size≤b∧b < w'.heap.size)∧(∀ i n,ρ.di i=some n→i < o.nd)∧(∀ i,i < o.nd→∃ n,ρ.di i=some n)∧(∀ i,ρ.dv i=none)∧
   (∀ b ob,ρ.fz b=some ob→w'.heap[b]? = some ob∧(F b=some ob∨w0.heap.size≤b)∧∀ i bk,(i,bk)∈o.hp→ρ.bl i≠some b)∧o.z.Is σ ρ u
def finI (o:Out) (z:SV) (H:Hp):In:=mH [] H o.hp (llen o.hp) (mV [] o.z z ⟨⟨[],[]⟩,[],[],[]⟩)
def allLt (n:Nat) (p:Nat→Bool):Bool:=Nat.rec (motive:=fun _=>Bool) true (fun i ih=>bif p i then ih else false) n
theorem allLt_ok {n:Nat} {p:Nat→Bool} (h:allLt n p=true):∀ i,i < n→p i=true:=by
 induction n with
 | zero=>intro i hi;omega
 | succ n ih=>
   intro i hi
   have h':(bif p n then allLt n p else false)=true:=h
   rw [cond_true_iff] at h'
   rcases Nat.lt_or_ge i n with hlt | hge
   ·exact ih h'.2 i hlt
   ·have:i=n:=by omega
    subst this;exact h'.1
def finK (cc:Cc) (o:Out) (H:Hp) (I:In):Bool:=
 bif I.chk cc H then (bif isEm I.s.i then (bif isEm I.s.b then (bif isEm I.km then (bif ltAll o.nb (keys o.hp) then (bif lall (fun i=>lmem (keys o.hp) i) (keys I.bm) then (bif ltAll o.nd (keys I.dm) then (bif nodup (bmL I o.hp) then
  (bif allLt o.nd (fun i=>lmem (keys I.dm) i) then lmem H.phis 0 else false) else false) else false) else false) else false) else false) else false) else false) else false
def finOf (cc:Cc) (o:Out) (z:SV) (H:Hp) (I:In):Option (List Ob):=
 bif finK cc o H I then oapp (match SV.ins I o.z with | some z'=>SV.cmp z' z | none=>none) (oapp (hpCmp cc H I o.hp) (fcOb cc H I o.fs)) else none
def Out.plain (o:Out):Bool:=lall (fun p=>match p.2 with | .loop _ _ _ _ _ _ _ _ _=>false | _=>true) o.hp
section
variable {cc:Cc} {C:Ct} {hc:Nat→Option Obj} {w0:World} {cs:List Frame} {ρ:Dyn} {f:Fr} {fs:List Fr} {H:Hp} {w:World} {I:In}
theorem sta_nil (h1:isEm I.s.i=true) (h2:isEm I.s.b=true) (h3:isEm I.km=true) (σ:Sta) (ρ:Dyn):I.sta σ ρ=σ:=by
 obtain ⟨⟨si,sb⟩,bm,dm,km⟩:=I
 cases si with
 | cons=>cases h1
 | nil=>
   cases sb with
   | cons=>cases h2
   | nil=>
     cases km with
     | cons=>cases h3
     | nil=>rfl
theorem fin_ok (hcc:cc.Ok C) (hb:C.Base w0) (hX:∀ b,¬ C.X b) {o:Out} {z:SV} {u:Value} {L:List Ob} (h:finOf cc o z H I=some L) (hcd:lmap (fun p=>cdA H I p.1) o.hp=lmap (fun p=>p.2.code) o.hp) (hh:HpRel C hc w0 ρ H w) (hz:z.Is C.σ ρ u) :
  I.Def C.σ ρ∧(Obs C.σ ρ L→OutIs C.σ C.F0 w0 w u o∧Below w0.heap.size w0 w):=by
 unfold finOf at h
 cases hk:finK cc o H I with
 | false=>rw [hk] at h;cases h
 | true=>
   rw [hk] at h
   simp only [cond_true] at h
   unfold finK at hk
   simp only [cond_true_iff] at hk
   obtain ⟨k0,n1,n2,n3,k1,k2,k3,k4,k6,k5⟩:=hk
   have hI:=In.chk_ok hcc hh k0
   refine ⟨hI,fun hL=>?_⟩
   have hσ:=sta_nil n1 n2 n3 C.σ ρ
   obtain ⟨L1,L',e1,h,o1,hL⟩:=oapp_ok h hL
   obtain ⟨L2,L3,e2,e3,o2,o3⟩:=oapp_ok h hL
   simp only [lmap_eq] at hcd
   have hhp:=hpCmp_ok hcc hh hI e2 o2 hcd.symm
   have bl_of:∀ i b,(I.dyn C.σ ρ).bl i=some b→∃ j,get I.bm i=some j∧ρ.bl j=some b:=by
    intro i b e
    have e':(get I.bm i).bind ρ.bl=some b:=e
    exact Option.bind_eq_some_iff.1 e'
   have h0:=lmem_iff.1 k5
   refine ⟨⟨I.dyn C.σ ρ,fun p hp=>?_,fun i bk hm=>?_,fun i i' bk bk' b m1 m2 b1 b2=>?_,fun i b e=>?_,fun i n e=>?_,fun i hi=>?_,fun _=>rfl,fun b ob e=>?_,?_⟩,below_of hb hh h0⟩
   ·have:=fcOb_ok hcc hh hI e3 o3 p hp
    rwa [hσ] at this
   ·obtain ⟨q1,j,zz,b,ob,r1,r2,r3,r4,r5,r6⟩:=hhp i bk hm
    rw [hσ] at r6
    exact ⟨q1,b,ob,by show (get I.bm i).bind ρ.bl=some b;rw [r1];exact r4,r5,r6⟩
   ·obtain ⟨_,j,zz,bb,ob,r1,r2,r3,r4,r5,r6⟩:=hhp i bk m1
    obtain ⟨_,j',zz',bb',ob',r1',r2',r3',r4',r5',r6'⟩:=hhp i' bk' m2
    obtain ⟨k,t1,t2⟩:=bl_of i b b1
    rw [r1] at t1;cases t1
    obtain ⟨k',t1',t2'⟩:=bl_of i' b b2
    rw [r1'] at t1';cases t1'
    have:=hh.inj j j' zz zz' b r2 r3 r2' r3' t2 t2'
    subst this
    exact bm_inj k4 i i' bk bk' j m1 m2 r1 r1'
   ·obtain ⟨j,t1,t2⟩:=bl_of i b e
    have hkey:=lmem_iff.1 (lall_iff.1 k2 i (get_key t1))
    have hmem:∃ bk,(i,bk)∈o.hp:=by
     unfold keys at hkey
     rw [lmap_eq] at hkey
     obtain ⟨⟨i',bk⟩,hm,he⟩:=List.mem_map.1 hkey
     cases he
     exact ⟨bk,hm⟩
    obtain ⟨bk,hm⟩:=hmem
    obtain ⟨_,j',zz,bb,ob,r1,r2,r3,r4,r5,r6⟩:=hhp i bk hm
    rw [t1] at r1;cases r1
    refine ⟨ltAll_ok k1 i hkey,?_,hh.lt _ b t2⟩
    rcases Nat.lt_or_ge b w0.heap.size with hlt | hge
    ·have hp0:=(hb ρ _).1 (hh.phis 0 h0) b _ (Array.getElem?_eq_getElem hlt)
     exact absurd ⟨j,zz,r2,r3,t2⟩ hp0.2.2
    ·exact hge
   ·have e':(get I.dm i).bind (fun e=>(e.den C.σ ρ).bind toN)=some n:=e
    obtain ⟨x,hx,_⟩:=Option.bind_eq_some_iff.1 e'
    exact ltAll_ok k3 i (get_key hx)
   ·have hkey:=lmem_iff.1 (allLt_ok k6 i hi)
    have hget:∃ e,get I.dm i=some e:=by
     cases hg:get I.dm i with
     | some e=>exact ⟨e,rfl⟩
     | none=>
       have:∀ l:List (Nat×SI),i∈keys l→get l i≠none:=by
        intro l
        induction l with
        | nil=>intro hm;cases hm
        | cons p l ih=>
          intro hm
          rw [get_cons]
          split
          ·simp
          ·rename_i hne
           refine ih ?_
           have hm':i∈p.1::keys l:=hm
           rcases List.mem_cons.1 hm' with e | hm'
           ·exact absurd e.symm hne
           ·exact hm'
       exact absurd hg (this _ hkey)
    obtain ⟨e,he⟩:=hget
    obtain ⟨n,hn⟩:=hI.d i e he
    refine ⟨n,?_⟩
    show (get I.dm i).bind (fun e=>(e.den C.σ ρ).bind toN)=some n
    rw [he];simp [hn,toN]
   ·obtain ⟨⟨u1,u2,u3⟩,u4⟩:=hh.fz b ob e
    refine ⟨u1,u4.imp id (fun h=>h.elim id fun h=>absurd h (hX b)),fun i bk hm hbl=>?_⟩
    obtain ⟨_,j,zz,b',ob',r1,r2,r3,r4,r5,r6⟩:=hhp i bk hm
    obtain ⟨j',t1,t2⟩:=bl_of i b hbl
    rw [r1] at t1;cases t1
    exact u3 ⟨j,zz,r2,r3,t2⟩
   ·split at e1
    ·rename_i z' hz'
     have:=SV.cmp_ok z' z L1 u e1 o1 hz
     have:=(SV.ins_is hI o.z z' u hz').1 this
     rwa [hσ] at this
    ·cases e1
end
inductive Lf where
 | fin (F:List (SB×Bool)) (k:Nat) (I:In) (obs:List Ob) (cd:List (Option (Option Code×Array Tmp×Code×Code)))
 | cut (F:List (SB×Bool)) (k:Nat) (I:In) (obs:List Ob) (sh:Sh)
 | bad (F:List (SB×Bool))
def ridC (c:Code):Nat:=
 Code.rec (motive:=fun _=>Nat) 0 (fun id _ _=>Nat.succ id) (fun _ _ a b=>bif Nat.beq a 0 then b else a) (fun _ _ _ a b=>bif Nat.beq a 0 then b else a) (fun _ _ a=>a) (fun _ a=>a) (fun _ _ _ _ a b=>bif Nat.beq a 0 then b else a) (fun _=>0) (fun _ a=>a) (fun _=>0) (fun _=>0) 0 (fun _=>0) c
def tdId (l:List It):Nat:=match l with | .code c::_=>ridC c | .inLoop c::_=>ridC c | _=>0
def cutM (cc:Cc) (f:Fr) (fs:List Fr) (H:Hp) (Ts:List Tm):Nat→Option Lf:=
 List.rec (motive:=fun _=>Nat→Option Lf) (fun _=>none) (fun T _ ih k=>
  bif Nat.beq T.f.fn f.fn && (Nat.beq (llen T.fs) (llen fs) && (Nat.beq (llen T.f.todo) (llen f.todo) && Nat.beq (tdId T.f.todo) (tdId f.todo))) then
   (match instOf cc T f fs H (mTm T f fs H) with
   | some L=>some (.cut H.facts k (mTm T f fs H) L (shA T (mTm T f fs H) f fs H))
   | none=>ih (Nat.succ k)) else ih (Nat.succ k)) Ts
def outNo (cc:Cc) (H:Hp) (l:List (SB×Bool)):Bool:=
 List.rec (motive:=fun _=>Bool) false (fun p _ ih=>match dec (bdOf cc H) H.facts p.1 with | .yes b=>bif b then (bif p.2 then ih else true) else (bif p.2 then true else ih) | .ask _=>ih) l
def ciNe (x y:SI):Bool:=match x,y with | .c a,.c b=>!ieq a b | _,_=>false
def cbNe (x y:SB):Bool:=match x,y with | .c a,.c b=>bif a then !b else b | _,_=>false
mutual
def SV.clash:SV→SV→Bool
 | .it _ x,.it _ y=>ciNe x y
 | .bo p,.bo q=>cbNe p q
 | .tp l,.tp l'=>SV.clashL l l'
 | .ag l,.ag l'=>SV.clashL l l'
 | _,_=>false
def SV.clashL:List SV→List SV→Bool
 | a::l,b::l'=>bif SV.clash a b then true else SV.clashL l l'
 | _,_=>false
end
def finMc (ck:Bool) (cc:Cc) (z:SV) (H:Hp) (os:List Out):Nat→Option Lf:=
 List.rec (motive:=fun _=>Nat→Option Lf) (fun _=>none) (fun o _ ih k=>match (bif (bif ck then SV.clash o.z z else false) then none else bif outNo cc H o.cs then none else finOf cc o (frzT cc o.z z H).1 (frzT cc o.z z H).2 (finI o (frzT cc o.z z H).1 (frzT cc o.z z H).2)) with
  | some L=>some (.fin H.facts k (finI o (frzT cc o.z z H).1 (frzT cc o.z z H).2) L (lmap (fun p=>cdA (frzT cc o.z z H).2 (finI o (frzT cc o.z z H).1 (frzT cc o.z z H).2) p.1) o.hp))
  | none=>ih (Nat.succ k)) os
def finM (cc:Cc) (z:SV) (H:Hp) (os:List Out) (k:Nat):Option Lf:=
 match finMc true cc z H os k with
 | some l=>some l
 | none=>finMc false cc z H os k
def Tr.lfs (cc:Cc) (Ts:List Tm) (os:List Out) (t:Tr):Option (List Lf):=
 Tr.rec (motive:=fun _=>Option (List Lf)) (fun z H=>match finM cc z H os 0 with | some l=>some [l] | none=>none) (fun f fs H=>match cutM cc f fs H Ts 0 with | some l=>some [l] | none=>none)
  (fun _ _ _ a b=>match a,b with | some x,some y=>some (lapp x y) | _,_=>none) (fun _ _ _ H=>some [.bad H.facts]) t
theorem cutM_ok {cc:Cc} {f:Fr} {fs:List Fr} {H:Hp}:∀ {Ts:List Tm} {k:Nat} {l:Lf},cutM cc f fs H Ts k=some l→∃ j T L,Ts[j]? = some T∧l=.cut H.facts (k+j) (mTm T f fs H) L (shA T (mTm T f fs H) f fs H)∧instOf cc T f fs H (mTm T f fs H)=some L
 | [],k,l,h=>by cases h
 | T::Ts,k,l,h=>by
   have h':(bif Nat.beq T.f.fn f.fn && (Nat.beq (llen T.fs) (llen fs) && (Nat.beq (llen T.f.todo) (llen f.todo) && Nat.beq (tdId T.f.todo) (tdId f.todo))) then
    (match instOf cc T f fs H (mTm T f fs H) with
    | some L=>some (.cut H.facts k (mTm T f fs H) L (shA T (mTm T f fs H) f fs H))
    | none=>cutM cc f fs H Ts (Nat.succ k)) else cutM cc f fs H Ts (Nat.succ k))=some l:=h
   have up:cutM cc f fs H Ts (Nat.succ k)=some l→∃ j T' L,(T::Ts)[j]? = some T'∧l=.cut H.facts (k+j) (mTm T' f fs H) L (shA T' (mTm T' f fs H) f fs H)∧instOf cc T' f fs H (mTm T' f fs H)=some L:=fun hu=>by
    obtain ⟨j,T',L,h1,h2,h3⟩:=cutM_ok hu
    exact ⟨j+1,T',L,by simpa using h1,by rw [h2];congr 1;simp only [Nat.succ_eq_add_one];omega,h3⟩
   cases hb:(Nat.beq T.f.fn f.fn && (Nat.beq (llen T.fs) (llen fs) && (Nat.beq (llen T.f.todo) (llen f.todo) && Nat.beq (tdId T.f.todo) (tdId f.todo)))) with
   | false=>rw [hb] at h';exact up h'
   | true=>
     rw [hb] at h'
     simp only [cond_true] at h'
     split at h'
     ·rename_i L hL
      cases h'
      exact ⟨0,T,L,rfl,rfl,hL⟩
     ·exact up h'
theorem finMc_ok {ck:Bool} {cc:Cc} {z:SV} {H:Hp}:∀ {os:List Out} {k:Nat} {l:Lf},finMc ck cc z H os k=some l→∃ j o L,os[j]? = some o∧l=.fin H.facts (k+j) (finI o (frzT cc o.z z H).1 (frzT cc o.z z H).2) L (lmap (fun p=>cdA (frzT cc o.z z H).2 (finI o (frzT cc o.z z H).1 (frzT cc o.z z H).2) p.1) o.hp)∧finOf cc o (frzT cc o.z z H).1 (frzT cc o.z z H).2 (finI o (frzT cc o.z z H).1 (frzT cc o.z z H).2)=some L
 | [],k,l,h=>by cases h
 | o::os,k,l,h=>by
   have h':(match (bif (bif ck then SV.clash o.z z else false) then none else bif outNo cc H o.cs then none else finOf cc o (frzT cc o.z z H).1 (frzT cc o.z z H).2 (finI o (frzT cc o.z z H).1 (frzT cc o.z z H).2)) with
    | some L=>some (.fin H.facts k (finI o (frzT cc o.z z H).1 (frzT cc o.z z H).2) L (lmap (fun p=>cdA (frzT cc o.z z H).2 (finI o (frzT cc o.z z H).1 (frzT cc o.z z H).2) p.1) o.hp))
    | none=>finMc ck cc z H os (Nat.succ k))=some l:=h
   split at h'
   ·rename_i L hL
    cases h'
    refine ⟨0,o,L,rfl,rfl,?_⟩
    cases hq:(bif ck then SV.clash o.z z else false) with
    | true=>rw [hq] at hL;cases hL
    | false=>
    rw [hq,cond_false] at hL
    cases hn:outNo cc H o.cs with
    | true=>rw [hn] at hL;cases hL
    | false=>rw [hn] at hL;exact hL
   ·obtain ⟨j,o',L,h1,h2,h3⟩:=finMc_ok h'
    exact ⟨j+1,o',L,by simpa using h1,by rw [h2];congr 1;simp only [Nat.succ_eq_add_one];omega,h3⟩
theorem finM_ok {cc:Cc} {z:SV} {H:Hp} {os:List Out} {k:Nat} {l:Lf} (h:finM cc z H os k=some l):∃ j o L,os[j]? = some o∧l=.fin H.facts (k+j) (finI o (frzT cc o.z z H).1 (frzT cc o.z z H).2) L (lmap (fun p=>cdA (frzT cc o.z z H).2 (finI o (frzT cc o.z z H).1 (frzT cc o.z z H).2) p.1) o.hp)∧finOf cc o (frzT cc o.z z H).1 (frzT cc o.z z H).2 (finI o (frzT cc o.z z H).1 (frzT cc o.z z H).2)=some L:=by
 unfold finM at h
 split at h
 ·rename_i l' hl;cases h;exact finMc_ok hl
 ·exact finMc_ok h
abbrev FIx:=Nat→Int→Int→Int→Int→Int→Int→Int
abbrev FBx:=Nat→Int→Int→Int→Int→Int→Int→Bool
structure Kv where
 n:Nat→Nat
 s:Nat→ByteArray
def sta (FI:FIx) (FB:FBx) (kv:Kv) (iv:Nat→Int) (bv:Nat→Bool):Sta:=
 { iv,bv,sv:=kv.s,vv:=fun _=>undef,kv:=kv.n,lv:=fun _=>[],op:=fun _ _=>False,fi:=FI,fb:=FB }
structure Cx where
 FI:FIx
 FB:FBx
 kv:Kv
 F0:Nat→Option Obj
 X:Nat→Prop
 phi:Nat→(Nat→Obj→Prop)→Prop
 mono:∀ j (U U':Nat→Obj→Prop),(∀ b o,U b o→U' b o)→phi j U→phi j U'
def Cx.ct (X:Cx) (iv:Nat→Int) (bv:Nat→Bool):Ct:={ σ:=sta X.FI X.FB X.kv iv bv,F0:=X.F0,X:=X.X,phi:=fun j _ U=>X.phi j U,mono:=fun j _ _ U U' _ h k=>X.mono j U U' h k }
def LfOk (S:(Nat→Int)→(Nat→Bool)→Sta) (Ts:List Tm) (os:List Out) (Inv:Nat→(Nat→Int)→(Nat→Bool)→Prop) (mu:Nat→(Nat→Int)→(Nat→Bool)→Nat) (k:Nat) (iv:Nat→Int) (bv:Nat→Bool):Lf→Prop
 | .bad F=>∀ ρ,Known (S iv bv) ρ F→False
 | .cut F j I obs sh=>(∃ T,Ts[j]? = some T∧sh=shT T I)∧∀ ρ,Known (S iv bv) ρ F→I.Def (S iv bv) ρ→Obs (S iv bv) ρ obs∧Inv j (I.iv (S iv bv) ρ) (I.bv (S iv bv) ρ)∧mu j (I.iv (S iv bv) ρ) (I.bv (S iv bv) ρ) < mu k iv bv
 | .fin F j I obs cd=>(∃ o,os[j]? = some o∧cd=lmap (fun p=>p.2.code) o.hp)∧∀ ρ,Known (S iv bv) ρ F→I.Def (S iv bv) ρ→Obs (S iv bv) ρ obs∧∀ i o,os[i]? = some o→i≠j→(∀ p∈o.cs,p.1.den (S iv bv) dyn0=some p.2)→False
def Agr (na:Nat) (iv0:Nat→Int) (bv0:Nat→Bool) (iv:Nat→Int) (bv:Nat→Bool):Prop:=(∀ j,j < na→iv j=iv0 j)∧(∀ j,j < na→bv j=bv0 j)
theorem cuts_ok {na:Nat} {iv0:Nat→Int} {bv0:Nat→Bool} {X:Cx} {cc:Cc} {E:Ents} {Ts:List Tm} {os:List Out} {Inv:Nat→(Nat→Int)→(Nat→Bool)→Prop} {mu:Nat→(Nat→Int)→(Nat→Bool)→Nat} {w0:World} {hc:Nat→Option Obj} {cs:List Frame} {bot:FuncId×Bool} {R:Value→World→Prop}
  (hbase:∀ U,X.phi 0 U↔∀ b o,w0.heap[b]? = some o→U b o) (hX:∀ b,¬ X.X b)
  (hvs:∀ T∈Ts,∀ i∈T.vs,na≤i) (hcc:∀ iv bv,Agr na iv0 bv0 iv bv→cc.Ok (X.ct iv bv)) (hE:∀ iv bv,Agr na iv0 bv0 iv bv→EntsOk cc (X.ct iv bv) E)
  {stop:Fr→List Fr→Bool} {N n d:Nat} {L:Nat→List Lf}
  (hL:∀ k T,Ts[k]? = some T→(ex cc E (dw cc E n d) stop N T.f T.fs T.H).lfs cc Ts os=some (L k))
  (hO:∀ k T iv bv,Ts[k]? = some T→Agr na iv0 bv0 iv bv→Inv k iv bv→∀ lf∈L k,LfOk (fun iv bv=>(X.ct iv bv).σ) Ts os Inv mu k iv bv lf)
  (hR:∀ (k:Nat) (iv:Nat→Int) (bv:Nat→Bool) (j:Nat) (o:Out) (u:Value) (w':World),Agr na iv0 bv0 iv bv→Inv k iv bv→os[j]? = some o→OutIs (X.ct iv bv).σ X.F0 w0 w' u o→Below w0.heap.size w0 w'→(∀ (i:Nat) (o':Out),os[i]? = some o'→i≠j→(∀ p∈o'.cs,p.1.den (X.ct iv bv).σ dyn0=some p.2)→False)→R u w') :
  ∀ (q k:Nat) (T:Tm) (iv:Nat→Int) (bv:Nat→Bool),Ts[k]? = some T→mu k iv bv < q→Agr na iv0 bv0 iv bv→Inv k iv bv→∀ ρ m,Sat (X.ct iv bv) hc w0 cs ρ T.f T.fs T.H m→botOf T.f T.fs=bot→Fin cc.P m cs bot R:=by
 intro q
 induction q with
 | zero=>intro k T iv bv _ h;omega
 | succ q ih=>
   intro k T iv bv hT hmu hagr hinv ρ m hm hbot
   have hcc':=hcc iv bv hagr
   have hE':=hE iv bv hagr
   have hOk:=hO k T iv bv hT hagr hinv
   have hb:(X.ct iv bv).Base w0:=fun _ U=>hbase U
   have hall:∀ (t:Tr) (l:List Lf),t.lfs cc Ts os=some l→(∀ lf∈l,LfOk (fun iv bv=>(X.ct iv bv).σ) Ts os Inv mu k iv bv lf)→
     t.All (X.ct iv bv) hc w0 (fun z H=>∃ l,finM cc z H os 0=some l∧LfOk (fun iv bv=>(X.ct iv bv).σ) Ts os Inv mu k iv bv l) (fun f fs H=>∃ l,cutM cc f fs H Ts 0=some l∧LfOk (fun iv bv=>(X.ct iv bv).σ) Ts os Inv mu k iv bv l):=by
    intro t
    induction t with
    | leaf z H=>
      intro l hl hok
      have hl':(match finM cc z H os 0 with | some l=>some [l] | none=>none)=some l:=hl
      split at hl'
      ·rename_i x hx;cases hl';exact ⟨x,hx,hok x (by simp)⟩
      ·cases hl'
    | cut f fs H=>
      intro l hl hok
      have hl':(match cutM cc f fs H Ts 0 with | some l=>some [l] | none=>none)=some l:=hl
      split at hl'
      ·rename_i x hx;cases hl';exact ⟨x,hx,hok x (by simp)⟩
      ·cases hl'
    | fork p a b ha hb=>
      intro l hl hok
      have hl':(match a.lfs cc Ts os,b.lfs cc Ts os with | some x,some y=>some (lapp x y) | _,_=>none)=some l:=hl
      split at hl'
      ·rename_i x y hx hy
       cases hl'
       rw [lapp_eq] at hok
       exact ⟨ha x hx fun lf h=>hok lf (List.mem_append_left _ h),hb y hy fun lf h=>hok lf (List.mem_append_right _ h)⟩
      ·cases hl'
    | bad why f fs H=>
      intro l hl hok
      cases hl
      intro ρ w hh
      exact hok (.bad H.facts) (by simp) ρ hh.facts
   refine ex_ok hcc' hE' (dw_ok hcc' hE' n d) (R:=R) (ρ0:=ρ) (H0:=T.H) (W0:=m.world) ?_ ?_ N T.f T.fs T.H ρ m hm (Tn.refl _ _ _) hbot (hall _ _ (hL k T hT) hOk)
   ·rintro z H ρ' u w' ⟨l,hl,hok⟩ hz hh _
    obtain ⟨j,o,Lo,h1,rfl,h3⟩:=finM_ok hl
    obtain ⟨⟨o',h4,h5⟩,h6⟩:=hok
    have hj:0+j=j:=by omega
    rw [hj] at h4
    rw [h1] at h4;cases h4
    have h0:0∈H.phis:=by
     have hk:finK cc o (frzT cc o.z z H).2 (finI o (frzT cc o.z z H).1 (frzT cc o.z z H).2)=true:=by
      cases hk:finK cc o (frzT cc o.z z H).2 (finI o (frzT cc o.z z H).1 (frzT cc o.z z H).2) with
      | true=>rfl
      | false=>unfold finOf at h3;rw [hk] at h3;cases h3
     unfold finK at hk
     simp only [cond_true_iff] at hk
     rw [← frzT_phis cc o.z z H]
     exact lmem_iff.1 hk.2.2.2.2.2.2.2.2.2
    obtain ⟨ρ2,k1,k2⟩:=frzT_ok hcc' o.z z hh hz
    obtain ⟨g1,g2⟩:=fin_ok hcc' hb hX h3 h5 k1.hp k2
    obtain ⟨g3,g4⟩:=h6 ρ2 (by have:=k1.hp.facts;rw [k1.facts] at this;exact this) g1
    obtain ⟨g5,g6⟩:=g2 g3
    exact hR k iv bv j o u w' hagr hinv h1 g5 g6 (by rw [hj] at g4;exact g4)
   ·rintro f fs H ρ' m' ⟨l,hl,hok⟩ hsat _ hbot'
    obtain ⟨j,T',Lo,h1,rfl,h3⟩:=cutM_ok hl
    obtain ⟨⟨T2,h4,h5⟩,h6⟩:=hok
    have hj:0+j=j:=by omega
    rw [hj] at h4
    rw [h1] at h4;cases h4
    have hk:instK cc T' H (mTm T' f fs H)=true:=by
     cases hk:instK cc T' H (mTm T' f fs H) with
     | true=>rfl
     | false=>unfold instOf at h3;rw [hk] at h3;cases h3
    have hdef:(mTm T' f fs H).Def (X.ct iv bv).σ ρ':=by
     obtain ⟨fr,frs,w,_,_,_,hh⟩:=hsat
     exact instK_def hcc' hh hk
    have hfacts:Known (X.ct iv bv).σ ρ' H.facts:=by
     obtain ⟨fr,frs,w,_,_,_,hh⟩:=hsat
     exact hh.facts
    obtain ⟨g1,g2,g3⟩:=h6 ρ' hfacts hdef
    have hk2:=hk
    unfold instK at hk2
    simp only [cond_true_iff] at hk2
    obtain ⟨_,_,_,_,_,_,g0,v1,v2⟩:=hk2
    rw [hj] at g2 g3
    dsimp only at g2 g3
    have hsta:(X.ct ((mTm T' f fs H).iv (X.ct iv bv).σ ρ') ((mTm T' f fs H).bv (X.ct iv bv).σ ρ')).σ=(mTm T' f fs H).sta (X.ct iv bv).σ ρ':=by
     have hkv:(mTm T' f fs H).kv (X.ct iv bv).σ ρ'=X.kv.n:=by
      generalize mTm T' f fs H=I at g0
      obtain ⟨s,bm,dm,km⟩:=I
      cases km with
      | cons=>cases g0
      | nil=>rfl
     show sta X.FI X.FB X.kv _ _=In.sta _ _ _
     unfold In.sta
     rw [hkv];rfl
    obtain ⟨g4,g5⟩:=inst_ok (C':=X.ct ((mTm T' f fs H).iv (X.ct iv bv).σ ρ') ((mTm T' f fs H).bv (X.ct iv bv).σ ρ')) hcc' hsta rfl rfl (fun j _ U U' hU h=>X.mono j U U' hU h) h3 h5 hsat g1
    have hagr':Agr na iv0 bv0 ((mTm T' f fs H).iv (X.ct iv bv).σ ρ') ((mTm T' f fs H).bv (X.ct iv bv).σ ρ'):=by
     have hm':=List.mem_of_getElem? h1
     refine ⟨fun i hi=>?_,fun i hi=>?_⟩
     ·rw [← hagr.1 i hi]
      unfold In.iv
      cases hg:get (mTm T' f fs H).s.i i with
      | none=>rfl
      | some e=>
        have:=hvs T' hm' i (lmem_iff.1 (lall_iff.1 v1 _ (get_mem hg)))
        omega
     ·rw [← hagr.2 i hi]
      unfold In.bv
      cases hg:get (mTm T' f fs H).s.b i with
      | none=>rfl
      | some e=>
        have:=hvs T' hm' i (lmem_iff.1 (lall_iff.1 v2 _ (get_mem hg)))
        omega
    exact ih j T' _ _ h1 (by omega) hagr' g2 _ _ g4 (g5.trans hbot')
end
end Go.Sx
