/- A symbolic executor: a state, seen as an instance of a template: what is left to be shown. -/
import Derived.Test.YtfgdpkceoadgjaaSxX
namespace Go.Sx
set_option linter.unusedSectionVars false
set_option linter.unusedVariables false
set_option linter.unusedSimpArgs false
open Go.RowKit
inductive Ob where
 | ei (x y:SI)
 | eb (p q:SB)
 | fa (p:SB) (b:Bool)
 | rn (x:SI) (a b:Int)
 | ar (lay:List Kd) (c c' n:SI)
def Ob.Ok (σ:Sta) (ρ:Dyn):Ob→Prop
 | .ei x y=>x.den σ ρ=y.den σ ρ
 | .eb p q=>p.den σ ρ=q.den σ ρ
 | .fa p b=>p.den σ ρ=some b
 | .rn x a b=>∃ v,x.den σ ρ=some v∧a≤v∧v≤(if a≤b then b else v)
 | .ar lay c c' n=>(∃ v,c.den σ ρ=some v)∧∀ cv cv' nv,c.den σ ρ=some cv→c'.den σ ρ=some cv'→n.den σ ρ=some (Int.ofNat nv)→∀ j,j < nv→∀ (f:Nat) (κ:Kd),lay[f]? = some κ→κ.val σ cv j f=κ.val σ cv' j f
def Obs (σ:Sta) (ρ:Dyn) (L:List Ob):Prop:=∀ ob∈L,ob.Ok σ ρ
theorem Obs.app {σ:Sta} {ρ:Dyn} {L L':List Ob} (h:Obs σ ρ (lapp L L')):Obs σ ρ L∧Obs σ ρ L':=by
 rw [lapp_eq] at h
 exact ⟨fun o ho=>h o (List.mem_append_left _ ho),fun o ho=>h o (List.mem_append_right _ ho)⟩
noncomputable def obI (x y:SI):List Ob:=bif x.beq y then [] else [.ei x y]
noncomputable def obB (p q:SB):List Ob:=bif p.beq q then [] else [.eb p q]
section
variable {σ:Sta} {ρ:Dyn}
theorem obI_ok {x y:SI} (h:Obs σ ρ (obI x y)):x.den σ ρ=y.den σ ρ:=by
 unfold obI at h
 cases hb:x.beq y with
 | true=>rw [SI.beq_eq hb]
 | false=>
   rw [hb] at h
   exact h (.ei x y) (by simp)
theorem obB_ok {x y:SB} (h:Obs σ ρ (obB x y)):x.den σ ρ=y.den σ ρ:=by
 unfold obB at h
 cases hb:x.beq y with
 | true=>exact SB.den_of_beq hb
 | false=>
   rw [hb] at h
   exact h (.eb x y) (by simp)
noncomputable def oapp (a b:Option (List Ob)):Option (List Ob):=match a,b with | some x,some y=>some (lapp x y) | _,_=>none
theorem oapp_ok {a b:Option (List Ob)} {L:List Ob} (h:oapp a b=some L) (hL:Obs σ ρ L):∃ x y,a=some x∧b=some y∧Obs σ ρ x∧Obs σ ρ y:=by
 unfold oapp at h
 split at h
 ·cases h
  exact ⟨_,_,rfl,rfl,(Obs.app hL).1,(Obs.app hL).2⟩
 ·cases h
mutual
noncomputable def SV.cmp:SV→SV→Option (List Ob)
 | .any,_=>some []
 | .it k e,.it k' e'=>bif keq k k' then some (obI e e') else none
 | .bo p,.bo q=>some (obB p q)
 | .st a,.st b=>bif a.beq b then some [] else none
 | .pt r o,.pt r' o'=>bif r.beq r' then some (obI o o') else none
 | .sl r o l c,.sl r' o' l' c'=>bif r.beq r' then some (lapp (obI o o') (lapp (obI l l') (obI c c'))) else none
 | .mp r,.mp r'=>bif r.beq r' then some [] else none
 | .fn f a c,.fn f' a' c'=>bif Nat.beq f f' then oapp (SV.cmpL a a') (SV.cmpL c c') else none
 | .yl i,.yl j=>bif Nat.beq i j then some [] else none
 | .fc t x,.fc t' x'=>bif Nat.beq t t' then SV.cmp x x' else none
 | .ag l,.ag l'=>SV.cmpL l l'
 | .tp l,.tp l'=>SV.cmpL l l'
 | .va i,.va j=>bif Nat.beq i j then some [] else none
 | .sn,.sn=>some []
 | .pn,.pn=>some []
 | .mn,.mn=>some []
 | .fz,.fz=>some []
 | .fcn,.fcn=>some []
 | _,_=>none
noncomputable def SV.cmpL:List SV→List SV→Option (List Ob)
 | [],[]=>some []
 | a::l,b::l'=>oapp (SV.cmp a b) (SV.cmpL l l')
 | _,_=>none
end
theorem SS.eq_of_beq {a b:SS} (h:a.beq b=true):a.den σ=b.den σ:=by
 have h':=SS.den_of_beq (σ:=σ) h
 generalize a.den σ=x at h' ⊢
 generalize b.den σ=y at h' ⊢
 have hx:x.toList=x.data.toList:=ByteArray.toList_eq x
 have hy:y.toList=y.data.toList:=ByteArray.toList_eq y
 rw [hx,hy] at h'
 exact ByteArray.ext (Array.ext' h')
mutual
theorem SV.cmp_ok:∀ (y z:SV) (L:List Ob) (u:Value),SV.cmp y z=some L→Obs σ ρ L→z.Is σ ρ u→y.Is σ ρ u
 | .any,z,L,u,h,hL,hz=>by simp only [SV.Is]
 | .it k e,z,L,u,h,hL,hz=>by
   cases z<;>simp only [SV.cmp] at h<;>try (cases h;done)
   rename_i k' e'
   cases hk:keq k k' with
   | false=>rw [hk] at h;cases h
   | true=>
     rw [hk] at h;cases h
     have:=keq_eq hk;subst this
     simp only [SV.Is] at hz ⊢
     rw [obI_ok hL];exact hz
 | .bo p,z,L,u,h,hL,hz=>by
   cases z<;>simp only [SV.cmp] at h<;>try (cases h;done)
   cases h
   simp only [SV.Is] at hz ⊢
   rw [obB_ok hL];exact hz
 | .st e,z,L,u,h,hL,hz=>by
   cases z<;>simp only [SV.cmp] at h<;>try (cases h;done)
   rename_i e'
   cases hk:e.beq e' with
   | false=>rw [hk] at h;cases h
   | true=>
     simp only [SV.Is] at hz ⊢
     rw [SS.eq_of_beq hk];exact hz
 | .pt r o,z,L,u,h,hL,hz=>by
   cases z<;>simp only [SV.cmp] at h<;>try (cases h;done)
   rename_i r' o'
   cases hk:r.beq r' with
   | false=>rw [hk] at h;cases h
   | true=>
     rw [hk] at h;cases h
     have:=SR.beq_eq hk;subst this
     simp only [SV.Is] at hz ⊢
     rw [obI_ok hL];exact hz
 | .sl r o l c,z,L,u,h,hL,hz=>by
   cases z<;>simp only [SV.cmp] at h<;>try (cases h;done)
   rename_i r' o' l' c'
   cases hk:r.beq r' with
   | false=>rw [hk] at h;cases h
   | true=>
     rw [hk] at h;cases h
     have:=SR.beq_eq hk;subst this
     simp only [SV.Is] at hz ⊢
     obtain ⟨h1,h2⟩:=Obs.app hL
     obtain ⟨h2,h3⟩:=Obs.app h2
     rw [obI_ok h1,obI_ok h2,obI_ok h3];exact hz
 | .mp r,z,L,u,h,hL,hz=>by
   cases z<;>simp only [SV.cmp] at h<;>try (cases h;done)
   rename_i r'
   cases hk:r.beq r' with
   | false=>rw [hk] at h;cases h
   | true=>have:=SR.beq_eq hk;subst this;exact hz
 | .fn f a c,z,L,u,h,hL,hz=>by
   cases z<;>simp only [SV.cmp] at h<;>try (cases h;done)
   rename_i f' a' c'
   cases hk:Nat.beq f f' with
   | false=>rw [hk] at h;cases h
   | true=>
     rw [hk] at h
     have:=Nat.eq_of_beq_eq_true hk;subst this
     obtain ⟨x,y,h1,h2,h3,h4⟩:=oapp_ok h hL
     simp only [SV.Is] at hz ⊢
     obtain ⟨as,cs,g1,g2,rfl⟩:=hz
     exact ⟨as,cs,SV.cmpL_ok a a' x as h1 h3 g1,SV.cmpL_ok c c' y cs h2 h4 g2,rfl⟩
 | .yl i,z,L,u,h,hL,hz=>by
   cases z<;>simp only [SV.cmp] at h<;>try (cases h;done)
   rename_i j
   cases hk:Nat.beq i j with
   | false=>rw [hk] at h;cases h
   | true=>have:=Nat.eq_of_beq_eq_true hk;subst this;exact hz
 | .fc t x,z,L,u,h,hL,hz=>by
   cases z<;>simp only [SV.cmp] at h<;>try (cases h;done)
   rename_i t' x'
   cases hk:Nat.beq t t' with
   | false=>rw [hk] at h;cases h
   | true=>
     rw [hk] at h
     have:=Nat.eq_of_beq_eq_true hk;subst this
     simp only [SV.Is] at hz ⊢
     obtain ⟨y,h1,rfl⟩:=hz
     exact ⟨y,SV.cmp_ok x x' L y h hL h1,rfl⟩
 | .ag l,z,L,u,h,hL,hz=>by
   cases z<;>simp only [SV.cmp] at h<;>try (cases h;done)
   rename_i l'
   simp only [SV.Is] at hz ⊢
   obtain ⟨vs,h1,rfl⟩:=hz
   exact ⟨vs,SV.cmpL_ok l l' L vs h hL h1,rfl⟩
 | .tp l,z,L,u,h,hL,hz=>by
   cases z<;>simp only [SV.cmp] at h<;>try (cases h;done)
   rename_i l'
   simp only [SV.Is] at hz ⊢
   obtain ⟨vs,h1,rfl⟩:=hz
   exact ⟨vs,SV.cmpL_ok l l' L vs h hL h1,rfl⟩
 | .va i,z,L,u,h,hL,hz=>by
   cases z<;>simp only [SV.cmp] at h<;>try (cases h;done)
   rename_i j
   cases hk:Nat.beq i j with
   | false=>rw [hk] at h;cases h
   | true=>have:=Nat.eq_of_beq_eq_true hk;subst this;exact hz
 | .dv i,z,L,u,h,hL,hz=>by cases z<;>simp only [SV.cmp] at h<;>cases h
 | .sn,z,L,u,h,hL,hz=>by cases z<;>simp only [SV.cmp] at h<;>first | (cases h;done) | exact hz
 | .pn,z,L,u,h,hL,hz=>by cases z<;>simp only [SV.cmp] at h<;>first | (cases h;done) | exact hz
 | .mn,z,L,u,h,hL,hz=>by cases z<;>simp only [SV.cmp] at h<;>first | (cases h;done) | exact hz
 | .fz,z,L,u,h,hL,hz=>by cases z<;>simp only [SV.cmp] at h<;>first | (cases h;done) | exact hz
 | .fcn,z,L,u,h,hL,hz=>by cases z<;>simp only [SV.cmp] at h<;>first | (cases h;done) | exact hz
theorem SV.cmpL_ok:∀ (l l':List SV) (L:List Ob) (us:List Value),SV.cmpL l l'=some L→Obs σ ρ L→SV.IsL σ ρ l' us→SV.IsL σ ρ l us
 | [],l',L,us,h,hL,hz=>by
   cases l'<;>simp only [SV.cmpL] at h
   ·exact hz
   ·cases h
 | a::l,l',L,us,h,hL,hz=>by
   cases l' with
   | nil=>simp only [SV.cmpL] at h;cases h
   | cons b l'=>
     simp only [SV.cmpL] at h
     obtain ⟨x,y,h1,h2,h3,h4⟩:=oapp_ok h hL
     rw [SV.isL_cons] at hz ⊢
     obtain ⟨u,r,rfl,g1,g2⟩:=hz
     exact ⟨u,r,rfl,SV.cmp_ok a b x u h1 h3 g1,SV.cmpL_ok l l' y r h2 h4 g2⟩
end
noncomputable def tmCmp (T T':List (Nat×SV)):Option (List Ob):=
 List.rec (motive:=fun _=>Option (List Ob)) (some []) (fun p _ ih=>match get T' p.1 with | some z=>oapp (SV.cmp p.2 z) ih | none=>none) T
theorem tmCmp_ok {nt:Nat} {T':List (Nat×SV)} {tmps:Array Value} (h:TmRel σ ρ nt T' tmps):∀ {T:List (Nat×SV)} {L:List Ob},tmCmp T T'=some L→Obs σ ρ L→∀ t z,get T t=some z→z.Is σ ρ (tmps.getD t undef)
 | [],L,_,_,t,z,e=>by cases e
 | (s,z0)::T,L,hc,hL,t,z,e=>by
   have hc':(match get T' s with | some z=>oapp (SV.cmp z0 z) (tmCmp T T') | none=>none)=some L:=hc
   split at hc'
   ·rename_i z1 hz1
    obtain ⟨x,y,h1,h2,h3,h4⟩:=oapp_ok hc' hL
    rw [get_cons] at e
    split at e
    ·rename_i hs
     cases e
     simp only at hs
     subst hs
     exact SV.cmp_ok _ _ _ _ h1 h3 (h.get _ _ hz1)
    ·exact tmCmp_ok h h2 h4 t z e
   ·cases hc'
noncomputable def esCmp (l:List (SV×SV×Nat)):List (SV×SV×Nat)→Option (List Ob):=
 List.rec (motive:=fun _=>List (SV×SV×Nat)→Option (List Ob)) (fun l'=>match l' with | []=>some [] | _=>none)
  (fun p _ ih l'=>match l' with | q::r=>bif Nat.beq p.2.2 q.2.2 then oapp (SV.cmp p.1 q.1) (oapp (SV.cmp p.2.1 q.2.1) (ih r)) else none | []=>none) l
theorem esCmp_ok:∀ {l l':List (SV×SV×Nat)} {L:List Ob} {es:List MapEntry},esCmp l l'=some L→Obs σ ρ L→EsRel σ ρ l' es→EsRel σ ρ l es
 | [],l',L,es,h,hL,he=>by
   cases l' with
   | nil=>exact he
   | cons=>cases h
 | (k,z,n)::l,l',L,es,h,hL,he=>by
   cases l' with
   | nil=>cases h
   | cons q r=>
     obtain ⟨k',z',n'⟩:=q
     have h':(bif Nat.beq n n' then oapp (SV.cmp k k') (oapp (SV.cmp z z') (esCmp l r)) else none)=some L:=h
     cases hb:Nat.beq n n' with
     | false=>rw [hb] at h';cases h'
     | true=>
       rw [hb] at h'
       have:=Nat.eq_of_beq_eq_true hb;subst this
       obtain ⟨x,y,h1,h2,h3,h4⟩:=oapp_ok h' hL
       obtain ⟨x',y',h5,h6,h7,h8⟩:=oapp_ok h2 h4
       obtain ⟨e,r',rfl,g1,g2,g3,g4⟩:=he
       exact ⟨e,r',rfl,SV.cmp_ok _ _ _ _ h1 h3 g1,SV.cmp_ok _ _ _ _ h5 h7 g2,g3,esCmp_ok h6 h8 g4⟩
noncomputable def rowsS (c:SI) (lay:List Kd) (m:Nat):Nat→List SV:=
 Nat.rec (motive:=fun _=>Nat→List SV) (fun _=>[]) (fun _ ih j=>lapp (kdS c (.c (.ofNat j)) lay 0) (ih (Nat.succ j))) m
def obN (n n':SI) (b:Bool):List Ob:=bif b then [] else [.fa (.le n n') true]
def obC (lay:List Kd) (c c' n:SI) (b:Bool):List Ob:=bif b then [] else [.ar lay c c' n]
noncomputable def lsEq (a b:LoopState):Bool:=Nat.beq a.ctorIdx b.ctorIdx
theorem lsEq_eq {a b:LoopState} (h:lsEq a b=true):a=b:=by cases a<;>cases b<;>first | rfl | (exact absurd h (by decide))
noncomputable def Bk.cmp (y z:Bk):Option (List Ob):=
 match y,z with
 | .arr lay c n t cp,.arr lay' c' n' t' cp'=>bif layEq lay lay' then (bif Nat.beq t t' then some (lapp (obC lay c c' n (c.beq c')) (lapp (obN n n' (n.beq n')) (obI cp cp'))) else none) else none
 | .arr lay c n t cp,.row none l t' cp' sz=>bif Nat.beq sz (llen lay) then (bif Nat.beq t t' then oapp (SV.cmpL (rowsS c lay (Nat.div (llen l) sz) 0) l) (some (lapp (.fa (.le n (.c (.ofNat (Nat.div (llen l) sz)))) true::.fa (.le (.c (.ofNat (Nat.div (llen l) sz))) cp') true::[]) (obI cp cp'))) else none) else none
 | .arr lay c n t cp,.cells l t'=>bif Nat.beq t t' then oapp (SV.cmpL (rowsS c lay (Nat.div (llen l) (llen lay)) 0) l) (some (.fa (.le n (.c (.ofNat (Nat.div (llen l) (llen lay))))) true::obI cp (.c (.ofNat (Nat.div (llen l) (llen lay)))))) else none
 | .cells l t,.cells l' t'=>bif Nat.beq t t' then SV.cmpL l l' else none
 | .row none l t cp sz,.row none l' t' cp' sz'=>bif Nat.beq t t' then (bif Nat.beq sz sz' then oapp (SV.cmpL l l') (some (obI cp cp')) else none) else none
 | .loop s _ fn nt tm _ _ _ df,.loop s' _ fn' nt' tm' _ _ _ df'=>bif lsEq s s' then (bif Nat.beq fn fn' then (bif Nat.beq nt nt' then (bif Nat.beq df df' then tmCmp tm tm' else none) else none) else none) else none
 | .dfr,.dfr=>some []
 | .dfn,.dfn=>some []
 | .map es clock,.map es' clock'=>bif Nat.beq clock clock' then esCmp es es' else none
 | .mapc kk vk c,.mapc kk' vk' c'=>bif keq kk kk' then (bif keq vk vk' then some (obI c c') else none) else none
 | .ob i,.ob j=>bif Nat.beq i j then some [] else none
 | _,_=>none
def Bk.code:Bk→Option (Option Code×Array Tmp×Code×Code)
 | .loop _ pd _ _ _ ps asg body _=>some (pd,ps,asg,body)
 | _=>none
theorem kdS_val {c:SI} {cv:Int} (hc:c.den σ ρ=some cv) {jv:Nat} {lay:List Kd} {f0:Nat}:∀ {us:List Value},SV.IsL σ ρ (kdS c (.c (.ofNat jv)) lay f0) us→∀ (f:Nat) (κ:Kd),lay[f]? = some κ→us[f]? = some (κ.val σ cv jv (f0+f)):=by
 induction lay generalizing f0 with
 | nil=>intro us _ f κ h;simp at h
 | cons k lay ih=>
   intro us h f κ hκ
   have h':SV.IsL σ ρ (k.sv c (.c (.ofNat jv)) f0::kdS c (.c (.ofNat jv)) lay (f0+1)) us:=h
   rw [SV.isL_cons] at h'
   obtain ⟨u,r,rfl,h1,h2⟩:=h'
   cases f with
   | zero=>
     simp only [List.getElem?_cons_zero,Option.some.injEq] at hκ
     subst hκ
     have huniq:u=k.val σ cv jv f0:=by
      cases k with
      | nt kk=>
        simp only [Kd.sv,SV.Is,SI.den,hc,Option.bind_some] at h1
        obtain ⟨x,hx,rfl⟩:=h1
        cases hx;rfl
      | tv=>
        simp only [Kd.sv,SV.Is,SB.den,SI.den,hc,Option.bind_some] at h1
        obtain ⟨x,hx,rfl⟩:=h1
        cases hx;rfl
     simp [huniq]
   | succ f=>
     have:=ih h2 f κ (by simpa using hκ)
     rw [show f0+(f+1)=f0+1+f by omega]
     simpa using this
theorem rowsS_val {c:SI} {cv:Int} (hc:c.den σ ρ=some cv) {lay:List Kd}:∀ {m j0:Nat} {us:List Value},SV.IsL σ ρ (rowsS c lay m j0) us→us.length=m * lay.length∧∀ j,j < m→∀ (f:Nat) (κ:Kd),lay[f]? = some κ→us[j * lay.length+f]? = some (κ.val σ cv (j0+j) f)
 | 0,j0,us,h=>by
   have h':SV.IsL σ ρ [] us:=h
   rw [SV.isL_nil] at h';subst h'
   exact ⟨by simp,fun j hj=>absurd hj (Nat.not_lt_zero _)⟩
 | m+1,j0,us,h=>by
   have h':SV.IsL σ ρ (lapp (kdS c (.c (.ofNat j0)) lay 0) (rowsS c lay m (j0+1))) us:=h
   rw [lapp_eq] at h'
   have split:∀ {l l':List SV} {us:List Value},SV.IsL σ ρ (l++l') us→∃ a b,us=a++b∧SV.IsL σ ρ l a∧SV.IsL σ ρ l' b:=by
    intro l
    induction l with
    | nil=>intro l' us h;exact ⟨[],us,rfl,SV.isL_nil.2 rfl,h⟩
    | cons x l ih=>
      intro l' us h
      rw [List.cons_append,SV.isL_cons] at h
      obtain ⟨u,r,rfl,h1,h2⟩:=h
      obtain ⟨a,b,rfl,h3,h4⟩:=ih h2
      exact ⟨u::a,b,rfl,SV.isL_cons.2 ⟨u,a,rfl,h1,h3⟩,h4⟩
   obtain ⟨a,b,rfl,h1,h2⟩:=split h'
   have hla:a.length=lay.length:=by
    rw [SV.isL_length h1]
    have:∀ (lay:List Kd) (f:Nat),(kdS c (.c (.ofNat j0)) lay f).length=lay.length:=by
     intro lay
     induction lay with
     | nil=>intro f;rfl
     | cons k lay ih=>intro f;show (kdS c (.c (.ofNat j0)) lay (f+1)).length+1=_;rw [ih];rfl
    exact this lay 0
   obtain ⟨i1,i2⟩:=rowsS_val hc h2
   refine ⟨by rw [List.length_append,hla,i1,Nat.add_mul];omega,fun j hj f κ hκ=>?_⟩
   have hf:f < lay.length:=(List.getElem?_eq_some_iff.1 hκ).1
   cases j with
   | zero=>
     have:=kdS_val hc h1 f κ hκ
     rw [List.getElem?_append_left (by omega)]
     simpa using this
   | succ j=>
     rw [List.getElem?_append_right (by rw [Nat.add_mul];omega),hla]
     have:=i2 j (by omega) f κ hκ
     rw [show (j+1) * lay.length+f - lay.length=j * lay.length+f by rw [Nat.add_mul];omega,show j0+(j+1)=j0+1+j by omega]
     exact this
theorem Bk.cmp_ok {y:Bk} (hdef:∀ lay c n t cp,y=Bk.arr lay c n t cp→(∃ a,c.den σ ρ=some a)∧(∃ a,n.den σ ρ=some (Int.ofNat a))) {z:Bk} {L:List Ob} {o:Obj} (h:Bk.cmp y z=some L) (hL:Obs σ ρ L) (hcode:y.code=z.code) (hz:z.Is σ ρ o):y.Is σ ρ o:=by
 unfold Bk.cmp at h
 split at h
 ·rename_i lay c n t cp lay' c' n' t' cp'
  cases h1:layEq lay lay' with
  | false=>rw [h1] at h;cases h
  | true=>
    cases h2:Nat.beq t t' with
    | false=>rw [h1,h2] at h;cases h
    | true=>
      rw [h1,h2] at h
      simp only [cond_true,Option.some.injEq] at h
      subst h
      have:=layEq_eq h1;subst this
      have:=Nat.eq_of_beq_eq_true h2;subst this
      obtain ⟨o1,o2⟩:=Obs.app hL
      obtain ⟨o2,o3⟩:=Obs.app o2
      obtain ⟨cv,nv,cpv,A,g1,g2,g3,g4,g5,g6,rfl⟩:=hz
      obtain ⟨⟨cv0,d1⟩,⟨nv0,d2⟩⟩:=hdef _ _ _ _ _ rfl
      have hn:nv0≤nv:=by
       unfold obN at o2
       cases hb:n.beq n' with
       | true=>
         have:=SI.beq_eq hb;subst this
         rw [d2] at g2
         have:nv0=nv:=by injection g2 with g2;injection g2
         omega
       | false=>
         rw [hb] at o2
         have:=o2 (.fa (.le n n') true) (by simp)
         simp only [Ob.Ok,SB.den,d2,g2,Option.bind_some,Option.some.injEq,decide_eq_true_eq] at this
         exact Int.ofNat_le.1 this
      refine ⟨cv0,nv0,cpv,A,d1,d2,by rw [obI_ok o3];exact g3,by omega,g5,?_,rfl⟩
      intro j hj f κ hκ
      have hold:=g6 j (by omega) f κ hκ
      unfold obC at o1
      cases hb:c.beq c' with
      | true=>
        have:=SI.beq_eq hb;subst this
        rw [d1] at g1;cases g1
        exact hold
      | false=>
        rw [hb] at o1
        have:=(o1 (.ar lay c c' n) (by simp)).2 cv0 cv nv0 d1 g1 d2 j hj f κ hκ
        rw [this];exact hold
 ·rename_i lay c n t cp l t' cp' sz
  cases h1:Nat.beq sz (llen lay) with
  | false=>rw [h1] at h;cases h
  | true=>
    cases h2:Nat.beq t t' with
    | false=>rw [h1,h2] at h;cases h
    | true=>
      rw [h1,h2] at h
      simp only [cond_true] at h
      have hsz:=Nat.eq_of_beq_eq_true h1
      rw [llen_eq] at hsz
      have:=Nat.eq_of_beq_eq_true h2;subst this
      obtain ⟨x,y,k1,k2,k3,k4⟩:=oapp_ok h hL
      cases k2
      obtain ⟨o1,o2⟩:=Obs.app k4
      obtain ⟨us,sp,nn,g1,g2,g3,rfl⟩:=hz
      obtain ⟨⟨cv0,d1⟩,⟨nv0,d2⟩⟩:=hdef _ _ _ _ _ rfl
      have hrow:=SV.cmpL_ok _ _ _ _ k1 k3 g1
      obtain ⟨r1,r2⟩:=rowsS_val d1 hrow
      have hn:nv0≤Nat.div (llen l) sz:=by
       have:=o1 (.fa (.le n (.c (.ofNat (Nat.div (llen l) sz)))) true) (by simp)
       simp only [Ob.Ok,SB.den,SI.den,d2,Option.bind_some,Option.some.injEq,decide_eq_true_eq] at this
       exact Int.ofNat_le.1 this
      have hn2:Nat.div (llen l) sz≤nn:=by
       have:=o1 (.fa (.le (.c (.ofNat (Nat.div (llen l) sz))) cp') true) (by simp)
       simp only [Ob.Ok,SB.den,SI.den,g2,Option.bind_some,Option.some.injEq,decide_eq_true_eq] at this
       exact Int.ofNat_le.1 this
      refine ⟨cv0,nv0,nn,_,d1,d2,by rw [obI_ok o2];exact g2,by omega,?_,?_,rfl⟩
      ·rw [← hsz,← g3];simp [preL]
      ·intro j hj f κ hκ
       have:=r2 j (by omega) f κ hκ
       have hlt:=(List.getElem?_eq_some_iff.1 this).1
       rw [Nat.zero_add] at this
       rw [Nat.zero_add]
       simp only [preL,List.nil_append,List.getElem?_toArray]
       rw [List.getElem?_append_left hlt]
       exact this
 ·rename_i lay c n t cp l t'
  cases h2:Nat.beq t t' with
  | false=>rw [h2] at h;cases h
  | true=>
    rw [h2] at h
    simp only [cond_true] at h
    have:=Nat.eq_of_beq_eq_true h2;subst this
    obtain ⟨x,y,k1,k2,k3,k4⟩:=oapp_ok h hL
    cases k2
    obtain ⟨us,g1,rfl⟩:=hz
    obtain ⟨⟨cv0,d1⟩,⟨nv0,d2⟩⟩:=hdef _ _ _ _ _ rfl
    have hrow:=SV.cmpL_ok _ _ _ _ k1 k3 g1
    obtain ⟨r1,r2⟩:=rowsS_val d1 hrow
    have o2:Obs σ ρ (obI cp (.c (.ofNat (Nat.div (llen l) (llen lay))))):=fun ob hob=>k4 ob (List.mem_cons_of_mem _ hob)
    have hn:nv0≤Nat.div (llen l) (llen lay):=by
     have:=k4 (.fa (.le n (.c (.ofNat (Nat.div (llen l) (llen lay))))) true) (by simp)
     simp only [Ob.Ok,SB.den,SI.den,d2,Option.bind_some,Option.some.injEq,decide_eq_true_eq] at this
     exact Int.ofNat_le.1 this
    refine ⟨cv0,nv0,Nat.div (llen l) (llen lay),us.toArray,d1,d2,by rw [obI_ok o2];rfl,hn,?_,?_,rfl⟩
    ·rw [List.size_toArray,r1]
    ·intro j hj f κ hκ
     have:=r2 j (by omega) f κ hκ
     rw [Nat.zero_add] at this
     rw [Nat.zero_add]
     simpa using this
 ·rename_i l t l' t'
  cases h2:Nat.beq t t' with
  | false=>rw [h2] at h;cases h
  | true=>
    rw [h2] at h
    have:=Nat.eq_of_beq_eq_true h2;subst this
    obtain ⟨us,g1,rfl⟩:=hz
    exact ⟨us,SV.cmpL_ok _ _ _ _ h hL g1,rfl⟩
 ·rename_i l t cp sz l' t' cp' sz'
  cases h1:Nat.beq t t' with
  | false=>rw [h1] at h;cases h
  | true=>
    cases h2:Nat.beq sz sz' with
    | false=>rw [h1,h2] at h;cases h
    | true=>
      rw [h1,h2] at h
      have:=Nat.eq_of_beq_eq_true h1;subst this
      have:=Nat.eq_of_beq_eq_true h2;subst this
      obtain ⟨x,y,k1,k2,k3,k4⟩:=oapp_ok h hL
      cases k2
      obtain ⟨us,sp,nn,g1,g2,g3,rfl⟩:=hz
      exact ⟨us,sp,nn,SV.cmpL_ok _ _ _ _ k1 k3 g1,by rw [obI_ok k4];exact g2,g3,rfl⟩
 ·rename_i s pd fn nt tm ps asg body df s' pd' fn' nt' tm' ps' asg' body' df'
  cases h1:lsEq s s' with
  | false=>rw [h1] at h;cases h
  | true=>
    cases h2:Nat.beq fn fn' with
    | false=>rw [h1,h2] at h;cases h
    | true=>
      cases h3:Nat.beq nt nt' with
      | false=>rw [h1,h2,h3] at h;cases h
      | true=>
        cases h4:Nat.beq df df' with
        | false=>rw [h1,h2,h3,h4] at h;cases h
        | true=>
          rw [h1,h2,h3,h4] at h
          simp only [cond_true] at h
          have:=lsEq_eq h1;subst this
          have:=Nat.eq_of_beq_eq_true h2;subst this
          have:=Nat.eq_of_beq_eq_true h3;subst this
          have:=Nat.eq_of_beq_eq_true h4;subst this
          simp only [Bk.code,Option.some.injEq,Prod.mk.injEq] at hcode
          obtain ⟨rfl,rfl,rfl,rfl⟩:=hcode
          obtain ⟨tmps,d,g1,g2,rfl⟩:=hz
          exact ⟨tmps,d,⟨g1.size,tmCmp_ok g1 h hL⟩,g2,rfl⟩
 ·exact hz
 ·exact hz
 ·rename_i es clock es' clock'
  cases h1:Nat.beq clock clock' with
  | false=>rw [h1] at h;cases h
  | true=>
    rw [h1] at h
    have:=Nat.eq_of_beq_eq_true h1;subst this
    obtain ⟨l,g1,rfl⟩:=hz
    exact ⟨l,esCmp_ok h hL g1,rfl⟩
 ·rename_i kk vk c kk' vk' c'
  cases h1:keq kk kk' with
  | false=>rw [h1] at h;cases h
  | true=>
    cases h2:keq vk vk' with
    | false=>rw [h1,h2] at h;cases h
    | true=>
      rw [h1,h2] at h
      simp only [cond_true,Option.some.injEq] at h
      subst h
      have:=keq_eq h1;subst this
      have:=keq_eq h2;subst this
      simp only [Bk.Is] at hz ⊢
      rw [obI_ok hL];exact hz
 ·rename_i i j
  cases h1:Nat.beq i j with
  | false=>rw [h1] at h;cases h
  | true=>have:=Nat.eq_of_beq_eq_true h1;subst this;exact hz
 ·cases h
end
end Go.Sx
