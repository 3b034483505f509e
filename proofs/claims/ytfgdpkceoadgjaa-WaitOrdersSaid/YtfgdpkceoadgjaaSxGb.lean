/- A symbolic executor: arrays that are told by a code: places, loads, stores. -/
import Derived.Test.YtfgdpkceoadgjaaSxGa
namespace Go.Sx
set_option linter.unusedSectionVars false
set_option linter.unusedVariables false
set_option linter.unusedSimpArgs false
open Go.RowKit
def one1 (sz:Nat) (x:SI):Option (SI×Nat):=bif Nat.beq sz 1 then some (x,0) else none
def mulB (sz:Nat) (x y:SI):Option (SI×Nat):=
 match y with
 | .c (.ofNat m)=>bif Nat.beq m sz then some (x,0) else one1 sz (.op .mul x y)
 | y=>one1 sz (.op .mul x y)
noncomputable def sumB (bv:Option Nat) (sz:Nat) (x:SI):Option (SI×Nat):=
 SI.rec (motive:=fun _=>Option (SI×Nat))
  (fun n=>match n with
   | .ofNat k=>bif Nat.beq (Nat.mul (Nat.div k sz) sz) k then some (.c (.ofNat (Nat.div k sz)),0) else none
   | _=>none)
  (fun i=>match bv with
   | some b=>bif Nat.beq i b then some (.c 0,1) else one1 sz (.v i)
   | none=>one1 sz (.v i))
  (fun i=>one1 sz (.d i))
  (fun f x y hx hy=>match f with
   | .add=>match hx,hy with
     | some (j1,c1),some (j2,c2)=>some (SI.add j1 j2,Nat.add c1 c2)
     | _,_=>none
   | .mul=>mulB sz x y
   | f=>one1 sz (.op f x y))
  (fun k x _=>one1 sz (.wk k x))
  (fun f a0 a1 a2 a3 a4 a5 _ _ _ _ _ _=>one1 sz (.ap f a0 a1 a2 a3 a4 a5)) x
theorem one1_ok {σ:Sta} {ρ:Dyn} {sz:Nat} {x:SI} {j:SI} {n:Nat} {a bn:Int} (h:one1 sz x=some (j,n)) (hx:x.den σ ρ=some a):∃ y,j.den σ ρ=some y∧a=n * bn+y * sz:=by
 unfold one1 at h
 cases hb:Nat.beq sz 1 with
 | false=>rw [hb] at h;cases h
 | true=>
   rw [hb] at h;cases h
   have:=Nat.eq_of_beq_eq_true hb
   subst this
   exact ⟨a,hx,by simp⟩
theorem sumB_ok {σ:Sta} {ρ:Dyn} {bv:Option Nat} {sz:Nat} {bn:Int} (hb:∀ i,bv=some i→σ.iv i=bn):∀ {x j:SI} {n:Nat} {a:Int},sumB bv sz x=some (j,n)→x.den σ ρ=some a→∃ y,j.den σ ρ=some y∧a=n * bn+y * sz:=by
 intro x
 induction x with
 | c m=>
   intro j n a h hx
   cases m with
   | ofNat k=>
     have h':(bif Nat.beq (Nat.mul (Nat.div k sz) sz) k then some (SI.c (.ofNat (Nat.div k sz)),0) else none)=some (j,n):=h
     cases hk:Nat.beq (Nat.mul (Nat.div k sz) sz) k with
     | false=>rw [hk] at h';cases h'
     | true=>
       rw [hk] at h';cases h'
       have:=Nat.eq_of_beq_eq_true hk
       simp only [SI.den,Option.some.injEq] at hx
       refine ⟨_,rfl,?_⟩
       rw [← hx]
       have e:((Nat.div k sz * sz:Nat):Int)=(k:Int):=congrArg Int.ofNat this
       simp only [Int.ofNat_eq_natCast]
       rw [Int.natCast_mul] at e
       omega
   | negSucc k=>cases h
 | v i=>
   intro j n a h hx
   cases bv with
   | none=>exact one1_ok (x:=.v i) h hx
   | some b=>
     have h':(bif Nat.beq i b then some (SI.c 0,1) else one1 sz (.v i))=some (j,n):=h
     cases hk:Nat.beq i b with
     | false=>rw [hk] at h';exact one1_ok (x:=.v i) h' hx
     | true=>
       rw [hk] at h';cases h'
       have:=Nat.eq_of_beq_eq_true hk
       subst this
       simp only [SI.den,Option.some.injEq] at hx
       exact ⟨0,rfl,by rw [← hx,hb i rfl];omega⟩
 | d i=>intro j n a h hx;exact one1_ok (x:=.d i) h hx
 | op f p q hp hq=>
   intro j n a h hx
   cases f
   case add=>
    have h':(match sumB bv sz p,sumB bv sz q with
     | some (j1,c1),some (j2,c2)=>some (SI.add j1 j2,Nat.add c1 c2)
     | _,_=>none)=some (j,n):=h
    split at h'
    ·rename_i j1 c1 j2 c2 h1 h2
     cases h'
     simp only [SI.den] at hx
     obtain ⟨u,hu,hx⟩:=Option.bind_eq_some_iff.1 hx
     obtain ⟨v,hv,hx⟩:=Option.bind_eq_some_iff.1 hx
     simp only [IB.eval,Option.some.injEq] at hx
     obtain ⟨y1,e1,e2⟩:=hp h1 hu
     obtain ⟨y2,e3,e4⟩:=hq h2 hv
     refine ⟨y1+y2,SI.add_den e1 e3,?_⟩
     rw [← hx,e2,e4]
     show _=((c1+c2:Nat):Int) * bn+(y1+y2) * sz
     rw [Int.natCast_add,Int.add_mul,Int.add_mul]
     omega
    ·cases h'
   case mul=>
    have h':mulB sz p q=some (j,n):=h
    unfold mulB at h'
    split at h'
    ·rename_i m
     cases hk:Nat.beq m sz with
     | false=>rw [hk] at h';exact one1_ok h' hx
     | true=>
       rw [hk] at h';cases h'
       have:=Nat.eq_of_beq_eq_true hk
       subst this
       simp only [SI.den] at hx
       obtain ⟨u,hu,hx⟩:=Option.bind_eq_some_iff.1 hx
       simp only [IB.eval,Option.bind_some,Option.some.injEq] at hx
       exact ⟨u,hu,by rw [← hx];simp⟩
    ·exact one1_ok h' hx
   all_goals exact one1_ok (x:=.op _ p q) h hx
 | wk k p hp=>intro j n a h hx;exact one1_ok (x:=.wk k p) h hx
 | ap f p0 p1 p2 p3 p4 p5=>intro j n a h hx;exact one1_ok (x:=.ap f p0 p1 p2 p3 p4 p5) h hx
def cntOk (bv:Option Nat) (n:Nat):Bool:=match bv with | some _=>Nat.beq n 1 | none=>Nat.beq n 0
noncomputable def splitA (bv:Option Nat) (sz:Nat) (o:SI):Option (SI×Nat):=
 match o with
 | .op .add p (.c (.ofNat k))=>match sumB bv sz p with
   | some (j,n)=>bif cntOk bv n then some (SI.addc j (.ofNat (Nat.div k sz)),Nat.mod k sz) else none
   | none=>none
 | .c (.ofNat k)=>match bv with
   | none=>some (.c (.ofNat (Nat.div k sz)),Nat.mod k sz)
   | some _=>none
 | p=>match sumB bv sz p with
   | some (j,n)=>bif cntOk bv n then some (j,0) else none
   | none=>none
theorem splitA_ok {σ:Sta} {ρ:Dyn} {bv:Option Nat} {sz:Nat} {bn:Nat} (hb:match bv with | some i=>σ.iv i=bn | none=>bn=0) {o j:SI} {f:Nat} {a:Int} (h:splitA bv sz o=some (j,f)) (ho:o.den σ ρ=some a) :
  ∃ y:Int,j.den σ ρ=some y∧a=bn+y * sz+f:=by
 have hb':∀ i,bv=some i→σ.iv i=bn:=by intro i e;subst e;exact hb
 have hcnt:∀ n:Nat,cntOk bv n=true→(n:Int) * bn=bn:=by
  intro n hn
  cases bv with
  | none=>
    have:=Nat.eq_of_beq_eq_true (show Nat.beq n 0=true from hn)
    subst this
    have hb:bn=0:=hb
    simp [hb]
  | some i=>
    have:=Nat.eq_of_beq_eq_true (show Nat.beq n 1=true from hn)
    subst this;simp
 have hdm:∀ k:Nat,((k:Nat):Int)=(Nat.div k sz:Nat) * (sz:Int)+(Nat.mod k sz:Nat):=by
  intro k
  have:=Nat.div_add_mod k sz
  have e:((sz * (k / sz)+k % sz:Nat):Int)=(k:Int):=congrArg Int.ofNat this
  rw [Int.natCast_add,Int.natCast_mul,Int.mul_comm] at e
  exact e.symm
 unfold splitA at h
 split at h
 ·rename_i p k
  split at h
  ·rename_i j' n hs
   cases hc:cntOk bv n with
   | false=>rw [hc] at h;cases h
   | true=>
     rw [hc] at h;cases h
     simp only [SI.den] at ho
     obtain ⟨u,hu,ho⟩:=Option.bind_eq_some_iff.1 ho
     simp only [IB.eval,Option.bind_some,Option.some.injEq] at ho
     obtain ⟨y,e1,e2⟩:=sumB_ok hb' hs hu
     refine ⟨y+(Nat.div k sz:Nat),SI.addc_den e1,?_⟩
     have:=hcnt n hc
     have:=hdm k
     rw [← ho,e2,Int.add_mul]
     simp only [Int.ofNat_eq_natCast]
     omega
  ·cases h
 ·rename_i k
  split at h
  ·cases h
   simp only [SI.den,Option.some.injEq] at ho
   refine ⟨_,rfl,?_⟩
   have:=hdm k
   have hb:bn=0:=hb
   rw [← ho]
   simp only [Int.ofNat_eq_natCast]
   omega
  ·cases h
 ·split at h
  ·rename_i j' n hs
   cases hc:cntOk bv n with
   | false=>rw [hc] at h;cases h
   | true=>
     rw [hc] at h;cases h
     obtain ⟨y,e1,e2⟩:=sumB_ok hb' hs ho
     exact ⟨y,e1,by have:=hcnt n hc;rw [e2];omega⟩
  ·cases h
section
variable {cc:Cc} {C:Ct} {hc:Nat→Option Obj} {w0:World} {ρ:Dyn} {H:Hp} {w:World}
def baseV (o:SI):Option (Option Nat):=match o with | .c 0=>some none | .v i=>some (some i) | _=>none
noncomputable def arF (H:Hp) (r:SR) (l:List (Nat×SR×SI×List Kd×SI×SI)):Option (List Kd×SI×SI×Option Nat):=
 List.rec (motive:=fun _=>Option (List Kd×SI×SI×Option Nat)) none (fun e _ ih=>
  bif lmem H.phis e.1 then (bif e.2.1.beq r then (match baseV e.2.2.1 with | some b=>some (e.2.2.2.1,e.2.2.2.2.1,e.2.2.2.2.2,b) | none=>ih) else ih) else ih) l
noncomputable def arrAt (cc:Cc) (H:Hp) (r:SR):Option (List Kd×SI×SI×Option Nat):=
 match r with
 | .n id=>match get H.heap id with
   | some (.arr lay c n _ _)=>some (lay,c,n,none)
   | _=>none
 | r=>arF H r cc.ar
theorem arF_mem {H:Hp} {r:SR} {x:List Kd×SI×SI×Option Nat}:∀ {l:List (Nat×SR×SI×List Kd×SI×SI)},arF H r l=some x→∃ j o,(j,r,o,x.1,x.2.1,x.2.2.1)∈l∧j∈H.phis∧baseV o=some x.2.2.2
 | [],h=>by cases h
 | (j,r',o,lay,c,n)::l,h=>by
   have h':(bif lmem H.phis j then (bif r'.beq r then (match baseV o with | some b=>some (lay,c,n,b) | none=>arF H r l) else arF H r l) else arF H r l)=some x:=h
   have up:(∃ j o,(j,r,o,x.1,x.2.1,x.2.2.1)∈l∧j∈H.phis∧baseV o=some x.2.2.2)→∃ j2 o2,(j2,r,o2,x.1,x.2.1,x.2.2.1)∈(j,r',o,lay,c,n)::l∧j2∈H.phis∧baseV o2=some x.2.2.2:=
    fun ⟨a,b,h1,h2⟩=>⟨a,b,List.mem_cons_of_mem _ h1,h2⟩
   cases h1:lmem H.phis j with
   | false=>rw [h1] at h';exact up (arF_mem h')
   | true=>
     cases h2:r'.beq r with
     | false=>rw [h1,h2] at h';exact up (arF_mem h')
     | true=>
       rw [h1,h2] at h'
       simp only [cond_true] at h'
       split at h'
       ·rename_i b hb
        cases h'
        have:=SR.beq_eq h2;subst this
        exact ⟨j,o,by simp,lmem_iff.1 h1,hb⟩
       ·exact up (arF_mem h')
def BaseIs (σ:Sta) (bv:Option Nat) (bn:Nat):Prop:=match bv with | some i=>σ.iv i=bn | none=>bn=0
theorem arrAt_ok (hcc:cc.Ok C) (h:HpRel C hc w0 ρ H w) {r:SR} {lay:List Kd} {c n:SI} {bv:Option Nat} {b:Nat} (hr:r.den C.σ ρ=some b) (ha:arrAt cc H r=some (lay,c,n,bv)) :
  ∃ bn cv nv,BaseIs C.σ bv bn∧c.den C.σ ρ=some cv∧n.den C.σ ρ=some (Int.ofNat nv)∧∀ j,j < nv→∀ f κ,lay[f]? = some κ→w.cell? ⟨b,bn+j * lay.length+f,none⟩=some (κ.val C.σ cv j f):=by
 have via:∀ r,r.den C.σ ρ=some b→arF H r cc.ar=some (lay,c,n,bv)→∃ bn cv nv,BaseIs C.σ bv bn∧c.den C.σ ρ=some cv∧n.den C.σ ρ=some (Int.ofNat nv)∧∀ j,j < nv→∀ f κ,lay[f]? = some κ→w.cell? ⟨b,bn+j * lay.length+f,none⟩=some (κ.val C.σ cv j f):=by
  intro r hr ha
  obtain ⟨j,o,h1,h2,h3⟩:=arF_mem ha
  obtain ⟨b',on,cv,nv,e1,e2,e3,e4,hall⟩:=hcc.ar j r o lay c n h1 ρ _ (h.phis j h2)
  rw [hr] at e1;cases e1
  refine ⟨on,cv,nv,?_,e3,e4,fun j hj f κ hκ=>?_⟩
  ·unfold baseV at h3
   split at h3
   ·cases h3
    simp only [SI.den,Option.some.injEq] at e2
    show on=0
    have:(on:Int)=0:=e2.symm
    omega
   ·cases h3
    simp only [SI.den,Option.some.injEq] at e2
    exact e2
   ·cases h3
  ·obtain ⟨A,t,fz,hU,hA⟩:=hall j hj f κ hκ
   simp only [World.cell?,hU.1]
   simpa using hA
 unfold arrAt at ha
 split at ha
 ·rename_i id
  split at ha
  ·rename_i lay' c' n' t cp hg
   cases ha
   obtain ⟨b',o',e1,e2,cv,nv,cpv,A,h1,h2,h3,h4,h5,h6,rfl⟩:=h.blk id _ hg rfl
   have:b'=b:=by simp only [SR.den] at hr;rw [e1] at hr;exact Option.some.inj hr
   subst this
   refine ⟨0,cv,nv,rfl,h1,h2,fun j hj f κ hκ=>?_⟩
   have:=h6 j hj f κ hκ
   simp only [World.cell?,e2]
   simpa using this
  ·cases ha
 ·exact via _ hr ha
noncomputable def kdS (c j:SI) (l:List Kd):Nat→List SV:=
 List.rec (motive:=fun _=>Nat→List SV) (fun _=>[]) (fun κ _ ih f=>κ.sv c j f::ih (Nat.succ f)) l
noncomputable def Kd.ofS (cc:Cc) (H:Hp) (κ:Kd) (x:SI):SV:=
 match κ with
 | .nt k=>.it k (SI.wr (bdOf cc H) k x)
 | .tv=>.bo (.not (.eq x (.c 0)))
theorem Kd.ofS_is (hcc:cc.Ok C) (h:HpRel C hc w0 ρ H w) {κ:Kd} {x:SI} {xv:Int} (hx:x.den C.σ ρ=some xv):(κ.ofS cc H x).Is C.σ ρ (κ.of xv):=by
 cases κ with
 | nt k=>simp only [Kd.ofS,Kd.of,SV.Is];exact ⟨_,SI.wr_den (bdOf_ok hcc h) hx,rfl⟩
 | tv=>simp only [Kd.ofS,Kd.of,SV.Is,SB.den,SI.den,hx,Option.bind_some];exact ⟨_,rfl,by simp⟩
noncomputable def rdSet (cc:Cc) (H:Hp) (κ:Kd) (f:Nat) (j i g x:SI) (els dflt:SV):SV:=
 match g with
 | .c (.ofNat f')=>bif Nat.beq f' f then (bif i.beq j then κ.ofS cc H x else match dec (bdOf cc H) H.facts (.eq j i) with
   | .yes true=>κ.ofS cc H x
   | .yes false=>bif nonneg (bdOf cc H) i then els else dflt
   | _=>dflt) else (bif nonneg (bdOf cc H) i then els else dflt)
 | _=>dflt
noncomputable def rdBlit (cc:Cc) (H:Hp) (j i n:SI) (thn els dflt:SV):SV:=
 bif nonneg (bdOf cc H) i then (match dec (bdOf cc H) H.facts (.le i j) with
  | .yes false=>els
  | .yes true=>(match dec (bdOf cc H) H.facts (.lt j (SI.add i n)) with
    | .yes true=>thn
    | .yes false=>els
    | _=>dflt)
  | _=>(match dec (bdOf cc H) H.facts (.lt j (SI.add i n)) with
    | .yes false=>els
    | _=>dflt)) else dflt
noncomputable def rd1 (cc:Cc) (H:Hp) (κ:Kd) (f:Nat) (c:SI):SI→SV:=
 SI.rec (motive:=fun _=>SI→SV) (fun n j=>bif ieq n 0 then κ.ofS cc H (.c 0) else κ.sv (.c n) j f) (fun i j=>κ.sv (.v i) j f) (fun i j=>κ.sv (.d i) j f) (fun g a b _ _ j=>κ.sv (.op g a b) j f) (fun k a _ j=>κ.sv (.wk k a) j f)
  (fun g a0 a1 a2 a3 a4 a5 ih0 _ ih2 _ _ _ j=>
   bif Nat.beq g 8 then (bif a4.beq (.c 0) then (bif a5.beq (.c 0) then rdSet cc H κ f j a1 a2 a3 (ih0 j) (κ.sv (.ap g a0 a1 a2 a3 a4 a5) j f) else κ.sv (.ap g a0 a1 a2 a3 a4 a5) j f) else κ.sv (.ap g a0 a1 a2 a3 a4 a5) j f)
   else bif Nat.beq g 9 then (bif a5.beq (.c 0) then (bif nonneg (bdOf cc H) a3 then (bif nonneg (bdOf cc H) a4 then rdBlit cc H j a1 a4 (ih2 (SI.add a3 (SI.sub j a1))) (ih0 j) (κ.sv (.ap g a0 a1 a2 a3 a4 a5) j f) else κ.sv (.ap g a0 a1 a2 a3 a4 a5) j f) else κ.sv (.ap g a0 a1 a2 a3 a4 a5) j f) else κ.sv (.ap g a0 a1 a2 a3 a4 a5) j f)
   else κ.sv (.ap g a0 a1 a2 a3 a4 a5) j f) c
theorem rd1_is (hcc:cc.Ok C) (h:HpRel C hc w0 ρ H w) {κ:Kd} {f:Nat}:∀ {c j:SI} {cv:Int} {jv:Nat},c.den C.σ ρ=some cv→j.den C.σ ρ=some (Int.ofNat jv)→(rd1 cc H κ f c j).Is C.σ ρ (κ.val C.σ cv jv f):=by
 intro c
 induction c with
 | c n=>
   intro j cv jv hc hj
   show (bif ieq n 0 then κ.ofS cc H (.c 0) else κ.sv (.c n) j f).Is C.σ ρ _
   cases hb:ieq n 0 with
   | true=>
     have:=ieq_iff.1 hb;subst this
     cases hc
     rw [hcc.al.z]
     exact Kd.ofS_is hcc h rfl
   | false=>exact Kd.sv_is hc hj
 | v i=>intro j cv jv hc hj;exact Kd.sv_is hc hj
 | d i=>intro j cv jv hc hj;exact Kd.sv_is hc hj
 | op g a b _ _=>intro j cv jv hc hj;exact Kd.sv_is hc hj
 | wk k a _=>intro j cv jv hc hj;exact Kd.sv_is hc hj
 | ap g a0 a1 a2 a3 a4 a5 ih0 _ ih2 _ _ _=>
   intro j cv jv hc hj
   have hd:(κ.sv (.ap g a0 a1 a2 a3 a4 a5) j f).Is C.σ ρ (κ.val C.σ cv jv f):=Kd.sv_is hc hj
   show (bif Nat.beq g 8 then (bif a4.beq (.c 0) then (bif a5.beq (.c 0) then rdSet cc H κ f j a1 a2 a3 (rd1 cc H κ f a0 j) (κ.sv (.ap g a0 a1 a2 a3 a4 a5) j f) else κ.sv (.ap g a0 a1 a2 a3 a4 a5) j f) else κ.sv (.ap g a0 a1 a2 a3 a4 a5) j f)
    else bif Nat.beq g 9 then (bif a5.beq (.c 0) then (bif nonneg (bdOf cc H) a3 then (bif nonneg (bdOf cc H) a4 then rdBlit cc H j a1 a4 (rd1 cc H κ f a2 (SI.add a3 (SI.sub j a1))) (rd1 cc H κ f a0 j) (κ.sv (.ap g a0 a1 a2 a3 a4 a5) j f) else κ.sv (.ap g a0 a1 a2 a3 a4 a5) j f) else κ.sv (.ap g a0 a1 a2 a3 a4 a5) j f) else κ.sv (.ap g a0 a1 a2 a3 a4 a5) j f)
    else κ.sv (.ap g a0 a1 a2 a3 a4 a5) j f).Is C.σ ρ _
   cases h8:Nat.beq g 8 with
   | true=>
     have:=Nat.eq_of_beq_eq_true h8;subst this
     simp only [cond_true]
     cases h4:a4.beq (.c 0) with
     | false=>exact hd
     | true=>
       cases h5:a5.beq (.c 0) with
       | false=>exact hd
       | true=>
         have:=SI.beq_eq h4;subst this
         have:=SI.beq_eq h5;subst this
         simp only [cond_true]
         have hc':=hc
         simp only [SI.den,Option.bind_eq_some_iff,Option.some.injEq] at hc'
         obtain ⟨c0,e0,i0,e1,g0,e2,x0,e3,o0,rfl,z1,rfl,rfl⟩:=hc'
         unfold rdSet
         split
         ·rename_i f'
          simp only [SI.den,Option.some.injEq] at e2
          subst e2
          have heq:(SB.eq j a1).den C.σ ρ=some (decide (Int.ofNat jv=i0)):=by simp [SB.den,hj,e1]
          have same:i0=Int.ofNat jv→f'=f→(κ.ofS cc H a3).Is C.σ ρ (κ.val C.σ (C.σ.fi 8 c0 i0 (Int.ofNat f') x0 0 0) jv f):=by
           intro ei ef
           subst ei ef
           have:=hcc.al.s κ c0 jv f' x0 jv f'
           rw [if_pos ⟨rfl,rfl⟩] at this
           rw [show C.σ.fi 8 c0 (Int.ofNat jv) (Int.ofNat f') x0 0 0=C.σ.fi 8 c0 (jv:Int) (f':Int) x0 0 0 from rfl,this]
           exact Kd.ofS_is hcc h e3
          have other:nonneg (bdOf cc H) a1=true→(¬ (jv:Int)=i0∨¬ f'=f)→(rd1 cc H κ f a0 j).Is C.σ ρ (κ.val C.σ (C.σ.fi 8 c0 i0 (Int.ofNat f') x0 0 0) jv f):=by
           intro hn hne
           obtain ⟨iv,rfl⟩:=nonneg_ok (bdOf_ok hcc h) hn e1
           have:=hcc.al.s κ c0 iv f' x0 jv f
           rw [if_neg (by rintro ⟨e1,e2⟩;rcases hne with hne | hne;exact hne (by rw [e1];rfl);exact hne e2.symm)] at this
           rw [show C.σ.fi 8 c0 (Int.ofNat iv) (Int.ofNat f') x0 0 0=C.σ.fi 8 c0 (iv:Int) (f':Int) x0 0 0 from rfl,this]
           exact ih0 e0 hj
          cases hf:Nat.beq f' f with
          | true=>
            have hf':=Nat.eq_of_beq_eq_true hf
            simp only [cond_true]
            cases hb:a1.beq j with
            | true=>
              have:=SI.beq_eq hb;subst this
              rw [hj] at e1;cases e1
              exact same rfl hf'
            | false=>
              simp only [cond_false]
              split
              ·rename_i hdc
               have hk:Int.ofNat jv=i0:=by simpa using (dec_ok (bdOf_ok hcc h) h.facts heq hdc).symm
               exact same hk.symm hf'
              ·rename_i hdc
               have hk:¬ (jv:Int)=i0:=by simpa using (dec_ok (bdOf_ok hcc h) h.facts heq hdc).symm
               cases hn:nonneg (bdOf cc H) a1 with
               | false=>exact hd
               | true=>exact other hn (.inl hk)
              ·exact hd
          | false=>
            have hf':¬ f'=f:=fun e=>by rw [e] at hf;simp at hf
            simp only [cond_false]
            cases hn:nonneg (bdOf cc H) a1 with
            | false=>exact hd
            | true=>exact other hn (.inr hf')
         ·exact hd
   | false=>
     simp only [cond_false]
     cases h9:Nat.beq g 9 with
     | false=>exact hd
     | true=>
       have:=Nat.eq_of_beq_eq_true h9;subst this
       simp only [cond_true]
       cases h5:a5.beq (.c 0) with
       | false=>exact hd
       | true=>
         have:=SI.beq_eq h5;subst this
         simp only [cond_true]
         cases n3:nonneg (bdOf cc H) a3 with
         | false=>exact hd
         | true=>
           simp only [cond_true]
           cases n4:nonneg (bdOf cc H) a4 with
           | false=>exact hd
           | true=>
             simp only [cond_true]
             unfold rdBlit
             cases n1:nonneg (bdOf cc H) a1 with
             | false=>exact hd
             | true=>
               simp only [cond_true]
               have hc':=hc
               simp only [SI.den,Option.bind_eq_some_iff,Option.some.injEq] at hc'
               obtain ⟨c0,e0,i0,e1,c2,e2,k0,e3,m0,e4,z1,rfl,rfl⟩:=hc'
               obtain ⟨i1,rfl⟩:=nonneg_ok (bdOf_ok hcc h) n1 e1
               obtain ⟨k1,rfl⟩:=nonneg_ok (bdOf_ok hcc h) n3 e3
               obtain ⟨m1,rfl⟩:=nonneg_ok (bdOf_ok hcc h) n4 e4
               have hle:(SB.le a1 j).den C.σ ρ=some (decide (Int.ofNat i1≤Int.ofNat jv)):=by simp [SB.den,hj,e1]
               have hlt:(SB.lt j (SI.add a1 a4)).den C.σ ρ=some (decide (Int.ofNat jv < Int.ofNat i1+Int.ofNat m1)):=by simp [SB.den,hj,SI.add_den e1 e4]
               have hlaw:=hcc.al.b κ c0 i1 c2 k1 m1 jv f
               have els:¬ (i1≤jv∧jv < i1+m1)→(rd1 cc H κ f a0 j).Is C.σ ρ (κ.val C.σ (C.σ.fi 9 c0 (Int.ofNat i1) c2 (Int.ofNat k1) (Int.ofNat m1) 0) jv f):=fun hne=>by
                rw [if_neg hne] at hlaw
                rw [show C.σ.fi 9 c0 (Int.ofNat i1) c2 (Int.ofNat k1) (Int.ofNat m1) 0=C.σ.fi 9 c0 (i1:Int) c2 (k1:Int) (m1:Int) 0 from rfl,hlaw]
                exact ih0 e0 hj
               have thn:(i1≤jv∧jv < i1+m1)→(rd1 cc H κ f a2 (SI.add a3 (SI.sub j a1))).Is C.σ ρ (κ.val C.σ (C.σ.fi 9 c0 (Int.ofNat i1) c2 (Int.ofNat k1) (Int.ofNat m1) 0) jv f):=fun hin=>by
                rw [if_pos hin] at hlaw
                rw [show C.σ.fi 9 c0 (Int.ofNat i1) c2 (Int.ofNat k1) (Int.ofNat m1) 0=C.σ.fi 9 c0 (i1:Int) c2 (k1:Int) (m1:Int) 0 from rfl,hlaw]
                refine ih2 e2 (jv:=k1+(jv - i1)) ?_
                rw [SI.add_den e3 (SI.sub_den hj e1)]
                congr 1
                simp only [Int.ofNat_eq_natCast];omega
               split
               ·rename_i hdc
                have:=dec_ok (bdOf_ok hcc h) h.facts hle hdc
                have:¬ (Int.ofNat i1≤Int.ofNat jv):=by simpa using this.symm
                exact els fun hh=>this (by simpa using hh.1)
               ·rename_i hdc
                have:=dec_ok (bdOf_ok hcc h) h.facts hle hdc
                have hl1:Int.ofNat i1≤Int.ofNat jv:=by simpa using this.symm
                split
                ·rename_i hdc
                 have:=dec_ok (bdOf_ok hcc h) h.facts hlt hdc
                 have hl2:Int.ofNat jv < Int.ofNat i1+Int.ofNat m1:=by simpa using this.symm
                 exact thn ⟨by simpa using hl1,by simp only [Int.ofNat_eq_natCast] at hl2;omega⟩
                ·rename_i hdc
                 have:=dec_ok (bdOf_ok hcc h) h.facts hlt hdc
                 have hl2:¬ (Int.ofNat jv < Int.ofNat i1+Int.ofNat m1):=by simpa using this.symm
                 exact els fun hh=>hl2 (by simp only [Int.ofNat_eq_natCast];omega)
                ·exact hd
               ·split
                ·rename_i hdc
                 have:=dec_ok (bdOf_ok hcc h) h.facts hlt hdc
                 have hl2:¬ (Int.ofNat jv < Int.ofNat i1+Int.ofNat m1):=by simpa using this.symm
                 exact els fun hh=>hl2 (by simp only [Int.ofNat_eq_natCast];omega)
                ·exact hd
noncomputable def rdS (cc:Cc) (H:Hp) (c j:SI) (l:List Kd):Nat→List SV:=
 List.rec (motive:=fun _=>Nat→List SV) (fun _=>[]) (fun κ _ ih f=>rd1 cc H κ f c j::ih (Nat.succ f)) l
theorem rdS_is (hcc:cc.Ok C) (h:HpRel C hc w0 ρ H w) {c j:SI} {cv:Int} {jv:Nat} (hc:c.den C.σ ρ=some cv) (hj:j.den C.σ ρ=some (Int.ofNat jv)):∀ (l:List Kd) (f:Nat),SV.IsL C.σ ρ (rdS cc H c j l f) (l.zipIdx f |>.map fun p=>p.1.val C.σ cv jv p.2)
 | [],f=>SV.isL_nil.2 rfl
 | κ::l,f=>by
   show SV.IsL C.σ ρ (rd1 cc H κ f c j::rdS cc H c j l (f+1)) _
   rw [List.zipIdx_cons,List.map_cons]
   exact SV.isL_cons.2 ⟨_,_,rfl,rd1_is hcc h hc hj,rdS_is hcc h hc hj l (f+1)⟩
noncomputable def lodA (cc:Cc) (H:Hp) (t:TypeId) (r:SR) (o:SI):OpR:=
 match arrAt cc H r with
 | some (lay,c,n,bv)=>match splitA bv (llen lay) o,aggOf cc.P t with
   | some (j,f),some (g,m)=>bif Nat.ble (Nat.add f m) (llen lay) then
     need cc H (.le (.c 0) j) 300 (need cc H (.lt j n) 301 (match g with
      | true=>.val (.ag (rdS cc H c j (ltake (ldrop lay f) m) f)) H
      | false=>match rdS cc H c j (ldrop lay f) f with | z::_=>.val z H | []=>.bad 303)) else .bad 302
   | _,_=>.bad 304
 | none=>.bad 305
theorem kdS_get {σ:Sta} {cv:Int} {jv:Nat} {lay:List Kd} {f m i:Nat} {u:Value} (h:(((lay.drop f).take m).zipIdx f |>.map fun p=>p.1.val σ cv jv p.2)[i]? = some u):∃ κ,lay[f+i]? = some κ∧u=κ.val σ cv jv (f+i)∧i < m:=by
 rw [List.getElem?_map,List.getElem?_zipIdx] at h
 cases hk:((lay.drop f).take m)[i]? with
 | none=>rw [hk] at h;cases h
 | some κ=>
   rw [hk] at h
   simp only [Option.map_some,Option.some.injEq] at h
   rw [List.getElem?_take] at hk
   split at hk
   ·rename_i hi
    rw [List.getElem?_drop] at hk
    exact ⟨κ,hk,h.symm,hi⟩
   ·cases hk
theorem lodA_ok (hcc:cc.Ok C) (h:HpRel C hc w0 ρ H w) {t:TypeId} {r:SR} {o:SI} {b k:Nat} (hr:r.den C.σ ρ=some b) (ho:o.den C.σ ρ=some (Int.ofNat k)) :
  (lodA cc H t r o).Ok cc C hc w0 ρ H w (do pure (.value (← loadVar t ⟨b,k,none⟩))):=by
 unfold lodA
 split
 ·rename_i lay c n bv harr
  split
  ·rename_i j f g m hs ha
   cases hf:Nat.ble (Nat.add f m) (llen lay) with
   | false=>trivial
   | true=>
     have hfm:=Nat.le_of_ble_eq_true hf
     rw [llen_eq] at hfm
     have hfm:f+m≤lay.length:=hfm
     obtain ⟨bn,cv,nv,q1,q2,q3,q5⟩:=arrAt_ok hcc h hr harr
     obtain ⟨y,e1,e2⟩:=splitA_ok q1 hs ho
     rw [llen_eq] at e2
     simp only [cond_true]
     refine need_ok hcc h (le_den0 e1) fun h0=>?_
     refine need_ok hcc h (b:=decide (y < Int.ofNat nv)) (by simp [SB.den,e1,q3]) fun h1=>?_
     have h0':0≤y:=by simpa using h0
     have h1':y < nv:=by simpa using h1
     obtain ⟨jv,rfl⟩:∃ jv:Nat,y=jv:=⟨y.toNat,by omega⟩
     have hk:k=bn+jv * lay.length+f:=by
      have e3:(k:Int)=((bn+jv * lay.length+f:Nat):Int):=by
       rw [Int.natCast_add,Int.natCast_add,Int.natCast_mul];exact e2
      omega
     have hcell:∀ i κ,lay[f+i]? = some κ→w.cell? ⟨b,k+i,none⟩=some (κ.val C.σ cv jv (f+i)):=by
      intro i κ hκ
      have:=q5 jv (by omega) (f+i) κ hκ
      rw [hk]
      have e:bn+jv * lay.length+f+i=bn+jv * lay.length+(f+i):=by omega
      rw [e]
      exact this
     obtain ⟨g1,g2,_⟩:=aggOf_ok ha w
     cases g with
     | true=>
       have hz:=rdS_is hcc h q2 e1 (ltake (ldrop lay f) m) f
       have hld:=run_loadCells_list (P:=cc.P) w ⟨b,k,none⟩ ((ltake (ldrop lay f) m).zipIdx f |>.map fun p=>p.1.val C.σ cv jv p.2) (fun i v hi=>by
        rw [addr_add]
        rw [ltake_eq,ldrop_eq] at hi
        obtain ⟨κ,hκ,rfl,_⟩:=kdS_get hi
        exact hcell i κ hκ)
       have hlen:((ltake (ldrop lay f) m).zipIdx f |>.map fun p=>p.1.val C.σ cv jv p.2).length=m:=by
        rw [ltake_eq,ldrop_eq]
        simp only [List.length_map,List.length_zipIdx,List.length_take,List.length_drop];omega
       rw [hlen] at hld
       exact OpR.ok_pure h (u:=.agg ((ltake (ldrop lay f) m).zipIdx f |>.map fun p=>p.1.val C.σ cv jv p.2).toArray) (by simp [loadVar,g1,g2,hld]) (by simp only [SV.Is];exact ⟨_,hz,rfl⟩)
     | false=>
       dsimp only
       have hz:=rdS_is hcc h q2 e1 (ldrop lay f) f
       split
       ·rename_i z zs hzs
        rw [hzs] at hz
        rw [SV.isL_cons] at hz
        obtain ⟨u,us,hu,hz1,_⟩:=hz
        have h0:(((lay.drop f).take lay.length).zipIdx f |>.map fun p=>p.1.val C.σ cv jv p.2)[0]? = some u:=by
         rw [List.take_of_length_le (by rw [List.length_drop];omega)]
         rw [ldrop_eq] at hu
         rw [hu];rfl
        obtain ⟨κ,hκ,rfl,_⟩:=kdS_get h0
        have:=hcell 0 κ hκ
        exact OpR.ok_pure h (u:=κ.val C.σ cv jv (f+0)) (by simp [loadVar,g1,run_load,show w.cell? ⟨b,k,none⟩=some _ from this]) hz1
       ·trivial
  ·trivial
 ·trivial
inductive SetR where
 | ok (c:SI)
 | ask (p:SB)
 | no
noncomputable def cellN (cc:Cc) (H:Hp) (κ:Kd) (z:SV) (r:SI→SetR):SetR:=
 match κ,z with
 | .nt k,.it k' e=>bif keq k k' then (match rg (bdOf cc H) e with
   | (some a,some b)=>bif ile (kmin k) a then (bif ile b (kmax k) then r e else .no) else .no
   | _=>.no) else .no
 | .tv,.bo p=>match dec (bdOf cc H) H.facts p with
   | .yes true=>r (.c 1)
   | .yes false=>r (.c 0)
   | .ask q=>.ask q
 | _,_=>.no
theorem cellN_ok (hcc:cc.Ok C) (h:HpRel C hc w0 ρ H w) {κ:Kd} {z:SV} {u:Value} (hz:z.Is C.σ ρ u) {r:SI→SetR} {c:SI} (hr:cellN cc H κ z r=.ok c):∃ e x,r e=.ok c∧e.den C.σ ρ=some x∧u=κ.of x:=by
 unfold cellN at hr
 split at hr
 ·rename_i k k' e
  cases hk:keq k k' with
  | false=>rw [hk] at hr;cases hr
  | true=>
    rw [hk] at hr
    have:=keq_eq hk;subst this
    simp only [cond_true] at hr
    split at hr
    ·rename_i a b hrg
     simp only [SV.Is] at hz
     obtain ⟨x,hx,rfl⟩:=hz
     have hin:=rg_ok (bdOf_ok hcc h) e x hx
     rw [hrg] at hin
     cases h1:ile (kmin k) a with
     | false=>rw [h1] at hr;cases hr
     | true=>
       cases h2:ile b (kmax k) with
       | false=>rw [h1,h2] at hr;cases hr
       | true=>
         rw [h1,h2] at hr
         have e1:=ile_iff.1 h1;have e2:=ile_iff.1 h2
         have e3:=hin.1 a rfl;have e4:=hin.2 b rfl
         exact ⟨e,x,hr,hx,by simp only [Kd.of];rw [wrap_in k x (by omega) (by omega)]⟩
    ·cases hr
 ·rename_i p
  simp only [SV.Is] at hz
  obtain ⟨x,hx,rfl⟩:=hz
  split at hr
  ·rename_i he
   have:=dec_ok (bdOf_ok hcc h) h.facts hx he
   subst this
   exact ⟨_,1,hr,rfl,rfl⟩
  ·rename_i he
   have:=dec_ok (bdOf_ok hcc h) h.facts hx he
   subst this
   exact ⟨_,0,hr,rfl,rfl⟩
  ·cases hr
 ·cases hr
theorem cellN_ask (hcc:cc.Ok C) (h:HpRel C hc w0 ρ H w) {κ:Kd} {z:SV} {u:Value} (hz:z.Is C.σ ρ u) {r:SI→SetR} {q:SB} (hr:cellN cc H κ z r=.ask q):(∃ e x,r e=.ask q∧e.den C.σ ρ=some x)∨∃ b,q.den C.σ ρ=some b:=by
 unfold cellN at hr
 split at hr
 ·rename_i k k' e
  cases hk:keq k k' with
  | false=>rw [hk] at hr;cases hr
  | true=>
    rw [hk] at hr
    simp only [cond_true] at hr
    split at hr
    ·rename_i a b hrg
     simp only [SV.Is] at hz
     obtain ⟨x,hx,rfl⟩:=hz
     cases h1:ile (kmin k) a with
     | false=>rw [h1] at hr;cases hr
     | true=>
       cases h2:ile b (kmax k) with
       | false=>rw [h1,h2] at hr;cases hr
       | true=>rw [h1,h2] at hr;exact .inl ⟨e,x,hr,hx⟩
    ·cases hr
 ·rename_i p
  simp only [SV.Is] at hz
  obtain ⟨x,hx,rfl⟩:=hz
  split at hr
  ·exact .inl ⟨_,1,hr,rfl⟩
  ·exact .inl ⟨_,0,hr,rfl⟩
  ·rename_i q' he
   cases hr
   exact .inr (ask_den (bdOf_ok hcc h) h.facts hx he)
 ·cases hr
noncomputable def setsA (cc:Cc) (H:Hp) (lay:List Kd) (cs:List SV):SI→SI→Nat→SetR:=
 List.rec (motive:=fun _=>SI→SI→Nat→SetR) (fun c _ _=>.ok c)
  (fun z _ ih c j f=>match lnth lay f with
   | some κ=>cellN cc H κ z fun e=>bif Nat.beq (Nat.succ f) (llen lay) then ih (.ap 8 c j (.c (.ofNat f)) e (.c 0) (.c 0)) (SI.addc j 1) 0 else ih (.ap 8 c j (.c (.ofNat f)) e (.c 0) (.c 0)) j (Nat.succ f)
   | none=>.no) cs
theorem setsA_cons (cc:Cc) (H:Hp) (lay:List Kd) (z:SV) (cs:List SV) (c j:SI) (f:Nat):setsA cc H lay (z::cs) c j f=match lnth lay f with
   | some κ=>cellN cc H κ z fun e=>bif Nat.beq (Nat.succ f) (llen lay) then setsA cc H lay cs (.ap 8 c j (.c (.ofNat f)) e (.c 0) (.c 0)) (SI.addc j 1) 0 else setsA cc H lay cs (.ap 8 c j (.c (.ofNat f)) e (.c 0) (.c 0)) j (Nat.succ f)
   | none=>.no:=rfl
theorem setsA_ok (hcc:cc.Ok C) (h:HpRel C hc w0 ρ H w) {lay:List Kd}:∀ {cs:List SV} {us:List Value} {c j:SI} {f:Nat} {cv:Int} {jv:Nat} {c':SI},SV.IsL C.σ ρ cs us→c.den C.σ ρ=some cv→j.den C.σ ρ=some (Int.ofNat jv)→f < lay.length→setsA cc H lay cs c j f=.ok c'→
  ∃ cv',c'.den C.σ ρ=some cv'∧∀ j' f' κ,lay[f']? = some κ→κ.val C.σ cv' j' f'=if jv * lay.length+f≤j' * lay.length+f'∧j' * lay.length+f' < jv * lay.length+f+us.length then us.getD (j' * lay.length+f' - (jv * lay.length+f)) undef else κ.val C.σ cv j' f'
 | [],us,c,j,f,cv,jv,c',hl,hc',hj,hf,hs=>by
   rw [SV.isL_nil] at hl;subst hl
   have hs':SetR.ok c=.ok c':=hs
   cases hs'
   refine ⟨cv,hc',fun j' f' κ _=>?_⟩
   rw [if_neg]
   simp only [List.length_nil];omega
 | z::cs,us,c,j,f,cv,jv,c',hl,hc',hj,hf,hs=>by
   rw [SV.isL_cons] at hl
   obtain ⟨u,us,rfl,hz,hl⟩:=hl
   rw [setsA_cons] at hs
   split at hs
   ·rename_i κ0 hκ0
    rw [lnth_eq] at hκ0
    obtain ⟨e,x,h1,h2,rfl⟩:=cellN_ok hcc h hz hs
    have hden:(SI.ap 8 c j (.c (.ofNat f)) e (.c 0) (.c 0)).den C.σ ρ=some (C.σ.fi 8 cv jv f x 0 0):=by simp [SI.den,hc',hj,h2]
    have hrow:∀ (a b c d L:Nat),b < L→d < L→a * L+b=c * L+d→a=c∧b=d:=by
     intro a b c d L hb hd he
     have hL:0 < L:=by omega
     have h1:(a * L+b) / L=a:=by rw [Nat.mul_comm,Nat.mul_add_div hL,Nat.div_eq_of_lt hb];simp
     have h2:(c * L+d) / L=c:=by rw [Nat.mul_comm,Nat.mul_add_div hL,Nat.div_eq_of_lt hd];simp
     have:a=c:=by rw [← h1,← h2,he]
     subst this
     exact ⟨rfl,by omega⟩
    have rest:∀ (j2:SI) (jv2 f2:Nat),j2.den C.σ ρ=some (Int.ofNat jv2)→f2 < lay.length→jv2 * lay.length+f2=jv * lay.length+f+1→setsA cc H lay cs (.ap 8 c j (.c (.ofNat f)) e (.c 0) (.c 0)) j2 f2=.ok c'→
      ∃ cv',c'.den C.σ ρ=some cv'∧∀ j' f' κ,lay[f']? = some κ→κ.val C.σ cv' j' f'=if jv * lay.length+f≤j' * lay.length+f'∧j' * lay.length+f' < jv * lay.length+f+(κ0.of x::us).length then (κ0.of x::us).getD (j' * lay.length+f' - (jv * lay.length+f)) undef else κ.val C.σ cv j' f':=by
     intro j2 jv2 f2 hj2 hf2 he hs2
     obtain ⟨cv',g1,g2⟩:=setsA_ok hcc h hl hden hj2 hf2 hs2
     refine ⟨cv',g1,fun j' f' κ hκ=>?_⟩
     have hf':f' < lay.length:=(List.getElem?_eq_some_iff.1 hκ).1
     rw [g2 j' f' κ hκ,he,hcc.al.s]
     simp only [List.length_cons]
     generalize hp:j' * lay.length+f'=p
     generalize hq:jv * lay.length+f=q
     by_cases h3:p=q
     ·have:=hrow _ _ _ _ _ hf' hf (hp.trans (h3.trans hq.symm))
      obtain ⟨rfl,rfl⟩:=this
      rw [if_neg (by omega),if_pos ⟨rfl,rfl⟩,if_pos (by omega)]
      rw [hκ] at hκ0;cases hκ0
      have:p - q=0:=by omega
      rw [this];rfl
     ·by_cases h4:q+1≤p∧p < q+1+us.length
      ·rw [if_pos h4,if_pos (by omega)]
       have:p - q=(p - (q+1))+1:=by omega
       rw [this];rfl
      ·rw [if_neg h4,if_neg (fun hh=>by rw [← hp,← hq] at h3;exact h3 (by rw [hh.1,hh.2])),if_neg (by omega)]
    cases hb:Nat.beq (Nat.succ f) (llen lay) with
    | true=>
      rw [hb] at h1
      have hfl:=Nat.eq_of_beq_eq_true hb
      rw [llen_eq] at hfl
      have hfl:f+1=lay.length:=hfl
      exact rest (SI.addc j 1) (jv+1) 0 (by rw [SI.addc_den hj];rfl) (by omega) (by rw [Nat.add_mul];omega) h1
    | false=>
      rw [hb] at h1
      have hfl:f+1≠lay.length:=fun e=>by
       have:Nat.beq (Nat.succ f) (llen lay)=true:=by rw [llen_eq];simpa using e
       rw [this] at hb;cases hb
      exact rest j jv (f+1) hj (by omega) (by omega) h1
   ·cases hs
theorem setsA_ask (hcc:cc.Ok C) (h:HpRel C hc w0 ρ H w) {lay:List Kd} {q:SB}:∀ {cs:List SV} {us:List Value} {c j:SI} {f:Nat},SV.IsL C.σ ρ cs us→setsA cc H lay cs c j f=.ask q→∃ b,q.den C.σ ρ=some b
 | [],us,c,j,f,hl,hs=>by
   have hs':SetR.ok c=.ask q:=hs
   cases hs'
 | z::cs,us,c,j,f,hl,hs=>by
   rw [SV.isL_cons] at hl
   obtain ⟨u,us,rfl,hz,hl⟩:=hl
   rw [setsA_cons] at hs
   split at hs
   ·rcases cellN_ask hcc h hz hs with ⟨e,x,h1,h2⟩ | h1
    ·cases hb:Nat.beq (Nat.succ f) (llen lay) with
     | true=>rw [hb] at h1;exact setsA_ask hcc h hl h1
     | false=>rw [hb] at h1;exact setsA_ask hcc h hl h1
    ·exact h1
   ·cases hs
end
end Go.Sx
