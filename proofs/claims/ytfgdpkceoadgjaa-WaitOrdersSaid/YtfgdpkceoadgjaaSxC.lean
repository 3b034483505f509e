/- A symbolic executor: the heap, and how a world stands to it. -/
import Derived.Test.YtfgdpkceoadgjaaSxB
namespace Go.Sx
set_option linter.unusedSectionVars false
set_option linter.unusedVariables false
set_option linter.unusedSimpArgs false
open Go.RowKit
inductive Kd where
 | nt (k:IntKind)
 | tv
def Kd.val (σ:Sta) (κ:Kd) (c:Int) (j f:Nat):Value:=
 match κ with
 | .nt k=>.int k (σ.fi k.ctorIdx c j f 0 0 0)
 | .tv=>.bool (σ.fb 0 c j f 0 0 0)
def Kd.of (κ:Kd) (x:Int):Value:=
 match κ with
 | .nt k=>.int k (k.wrap x)
 | .tv=>.bool (decide (x≠0))
noncomputable def Kd.sv (κ:Kd) (c j:SI) (f:Nat):SV:=
 match κ with
 | .nt k=>.it k (.ap k.ctorIdx c j (.c (.ofNat f)) (.c 0) (.c 0) (.c 0))
 | .tv=>.bo (.ap 0 c j (.c (.ofNat f)) (.c 0) (.c 0) (.c 0))
theorem Kd.sv_is {σ:Sta} {ρ:Dyn} {κ:Kd} {c j:SI} {f:Nat} {cv:Int} {jv:Nat} (hc:c.den σ ρ=some cv) (hj:j.den σ ρ=some (Int.ofNat jv)):(κ.sv c j f).Is σ ρ (κ.val σ cv jv f):=by
 cases κ with
 | nt k=>simp only [Kd.sv,Kd.val,SV.Is,SI.den,hc,hj,Option.bind_some];exact ⟨_,rfl,rfl⟩
 | tv=>simp only [Kd.sv,Kd.val,SV.Is,SB.den,SI.den,hc,hj,Option.bind_some];exact ⟨_,rfl,rfl⟩
theorem Kd.val_one {σ:Sta} {κ:Kd} {c:Int} {j f:Nat}:(κ.val σ c j f).oneCell'=true:=by cases κ<;>rfl
noncomputable def Kd.beq:Kd→Kd→Bool
 | .nt k,.nt k'=>keq k k'
 | .tv,.tv=>true
 | _,_=>false
theorem Kd.beq_eq {a b:Kd} (h:a.beq b=true):a=b:=by
 cases a<;>cases b<;>simp only [Kd.beq] at h<;>first | rfl | (cases h) | (rw [keq_eq h])
noncomputable def layEq (l:List Kd):List Kd→Bool:=
 List.rec (motive:=fun _=>List Kd→Bool) (fun l'=>match l' with | []=>true | _=>false) (fun a _ ih l'=>match l' with | b::r=>bif a.beq b then ih r else false | []=>false) l
theorem layEq_eq:∀ {l l':List Kd},layEq l l'=true→l=l'
 | [],[],_=>rfl
 | [],_::_,h=>by cases h
 | _::_,[],h=>by cases h
 | a::l,b::l',h=>by
   have h':(bif a.beq b then layEq l l' else false)=true:=h
   rw [cond_true_iff] at h'
   rw [Kd.beq_eq h'.1,layEq_eq h'.2]
def gm (σ:Sta) (k:IntKind) (c x:Int):Int:=σ.fi k.ctorIdx c x 0 1 0 0
structure ArrLaw (σ:Sta):Prop where
 mz:∀ k x,gm σ k 0 x=0
 ms:∀ k c x y x',gm σ k (σ.fi 8 c x 0 y 1 0) x'=if x'=x then k.wrap y else gm σ k c x'
 z:∀ (κ:Kd) (j f:Nat),κ.val σ 0 j f=κ.of 0
 s:∀ (κ:Kd) (c:Int) (j f:Nat) (x:Int) (j' f':Nat),κ.val σ (σ.fi 8 c j f x 0 0) j' f'=if j'=j∧f'=f then κ.of x else κ.val σ c j' f'
 b:∀ (κ:Kd) (c:Int) (i:Nat) (c':Int) (i' n j f:Nat),κ.val σ (σ.fi 9 c i c' i' n 0) j f=if i≤j∧j < i+n then κ.val σ c' (i'+(j - i)) f else κ.val σ c j f
def ArIs (σ:Sta) (lay:List Kd) (c:Int) (n base:Nat) (A:Nat→Option Value):Prop:=
 ∀ j,j < n→∀ f κ,lay[f]? = some κ→A (base+j * lay.length+f)=some (κ.val σ c j f)
def MpIs (σ:Sta) (kk vk:IntKind) (c:Int) (l:List MapEntry):Prop:=
 (∀ e∈l,∃ k,e.key=.int kk k∧e.val=.int vk (gm σ vk c k))∧(l.map (·.key)).Nodup∧∀ k,(∀ e∈l,e.key≠.int kk k)→gm σ vk c k=0
inductive Bk where
 | arr (lay:List Kd) (c n:SI) (t:TypeId) (cp:SI)
 | cells (l:List SV) (t:TypeId)
 | row (pre:Option Nat) (l:List SV) (t:TypeId) (cp:SI) (sz:Nat)
 | loop (s:LoopState) (pd:Option Code) (fn:FuncId) (nt:Nat) (tm:List (Nat×SV)) (ps:Array Tmp) (asg body:Code) (df:Nat)
 | dfr
 | dfn
 | map (es:List (SV×SV×Nat)) (clock:Nat)
 | mapc (kk vk:IntKind) (c:SI)
 | ob (i:Nat)
 | gone
def Bk.live:Bk→Bool
 | .gone=>false
 | _=>true
structure TmRel (σ:Sta) (ρ:Dyn) (nt:Nat) (T:List (Nat×SV)) (tmps:Array Value):Prop where
 size:tmps.size=nt
 get:∀ t z,get T t=some z→z.Is σ ρ (tmps.getD t undef)
theorem TmRel.mono {σ:Sta} {ρ ρ':Dyn} {nt:Nat} {T:List (Nat×SV)} {tmps:Array Value} (h:TmRel σ ρ nt T tmps) (hl:ρ.Le ρ'):TmRel σ ρ' nt T tmps:=
 ⟨h.size,fun t z e=>SV.is_mono hl z _ (h.get t z e)⟩
theorem TmRel.set {σ:Sta} {ρ:Dyn} {nt:Nat} {T:List (Nat×SV)} {tmps:Array Value} (h:TmRel σ ρ nt T tmps) {t:Nat} {z:SV} {u:Value} (ht:t < nt) (hz:z.Is σ ρ u) :
  TmRel σ ρ nt ((t,z)::T) (tmps.setIfInBounds t u):=by
 refine ⟨by simp [h.size],fun s y e=>?_⟩
 rw [get_cons] at e
 split at e
 ·rename_i hs
  cases e
  simp only at hs
  subst hs
  have:t < tmps.size:=by rw [h.size];exact ht
  simpa [this] using hz
 ·rename_i hs
  have:=h.get s y e
  simpa [Array.getElem?_setIfInBounds_ne hs] using this
def EsRel (σ:Sta) (ρ:Dyn):List (SV×SV×Nat)→List MapEntry→Prop
 | [],es=>es=[]
 | (k,v,n)::l,es=>∃ e r,es=e::r∧k.Is σ ρ e.key∧v.Is σ ρ e.val∧e.born=n∧EsRel σ ρ l r
theorem EsRel.mono {σ:Sta} {ρ ρ':Dyn} (hl:ρ.Le ρ'):∀ {l:List (SV×SV×Nat)} {es:List MapEntry},EsRel σ ρ l es→EsRel σ ρ' l es
 | [],_,h=>h
 | (k,v,_)::_,_,⟨e,r,h1,h2,h3,h4,h5⟩=>⟨e,r,h1,SV.is_mono hl k _ h2,SV.is_mono hl v _ h3,h4,EsRel.mono hl h5⟩
def preL (σ:Sta):Option Nat→List Value
 | some i=>σ.lv i
 | none=>[]
def Bk.Is (σ:Sta) (ρ:Dyn):Bk→Obj→Prop
 | .arr lay c n t cp,o=>∃ cv nv cpv,∃ A:Array Value,c.den σ ρ=some cv∧n.den σ ρ=some (Int.ofNat nv)∧cp.den σ ρ=some (Int.ofNat cpv)∧nv≤cpv∧A.size=cpv * lay.length∧ArIs σ lay cv nv 0 (fun i=>A[i]?)∧o=.cells A t (0,0)
 | .cells l t,o=>∃ us,SV.IsL σ ρ l us∧o=.cells us.toArray t (0,0)
 | .row pre l t cp sz,o=>∃ us sp n,SV.IsL σ ρ l us∧cp.den σ ρ=some (Int.ofNat n)∧(preL σ pre).length+us.length+sp.length=n * sz∧o=.cells (preL σ pre++us++sp).toArray t (0,0)
 | .loop s pd fn nt tm ps asg body df,o=>∃ tmps d,TmRel σ ρ nt tm tmps∧ρ.bl df=some d∧o=.loop { state:=s,pending:=pd,fn,tmps,params:=ps,assign:=asg,body,defers:=d }
 | .dfr,o=>o=.deferred (some [])
 | .dfn,o=>o=.deferred none
 | .map es clock,o=>∃ l,EsRel σ ρ es l∧o=.map l.toArray clock
 | .mapc kk vk c,o=>∃ cv l clock,c.den σ ρ=some cv∧MpIs σ kk vk cv l∧o=.map l.toArray clock
 | .ob i,o=>σ.op i o
 | .gone,_=>False
theorem Bk.is_mono {σ:Sta} {ρ ρ':Dyn} (hl:ρ.Le ρ'):∀ {bk:Bk} {o:Obj},bk.Is σ ρ o→bk.Is σ ρ' o:=by
 intro bk o h
 cases bk with
 | arr lay c n t cp=>
   obtain ⟨cv,nv,cpv,A,h1,h2,h3,h4⟩:=h
   exact ⟨cv,nv,cpv,A,SI.den_mono hl _ _ h1,SI.den_mono hl _ _ h2,SI.den_mono hl _ _ h3,h4⟩
 | cells l t=>obtain ⟨us,h1,h2⟩:=h;exact ⟨us,SV.isL_mono hl l us h1,h2⟩
 | row pre l t cp sz=>obtain ⟨us,sp,n,h1,h2,h3⟩:=h;exact ⟨us,sp,n,SV.isL_mono hl l us h1,SI.den_mono hl _ _ h2,h3⟩
 | loop s pd fn nt tm ps asg body df=>obtain ⟨tmps,d,h1,h2,h3⟩:=h;exact ⟨tmps,d,h1.mono hl,hl.bl df d h2,h3⟩
 | map es clock=>obtain ⟨l,h1,h2⟩:=h;exact ⟨l,h1.mono hl,h2⟩
 | mapc kk vk c=>obtain ⟨cv,l,cl,h1,h2⟩:=h;exact ⟨cv,l,cl,SI.den_mono hl _ _ h1,h2⟩
 | dfr=>exact h
 | dfn=>exact h
 | ob i=>exact h
 | gone=>exact h
structure Hp where
 heap:List (Nat×Bk)
 nb:Nat
 nd:Nat
 nv:Nat
 facts:List (SB×Bool)
 phis:List Nat
 bd:List (Nat×Int×Int)
structure Ct where
 σ:Sta
 phi:Nat→Dyn→(Nat→Obj→Prop)→Prop
 mono:∀ j ρ ρ' (U U':Nat→Obj→Prop),ρ.Le ρ'→(∀ b o,U b o→U' b o)→phi j ρ U→phi j ρ' U'
def Own (ρ:Dyn) (h:List (Nat×Bk)) (b:Nat):Prop:=∃ id bk,get h id=some bk∧bk.live=true∧ρ.bl id=some b
def Un (hc:Nat→Option Obj) (ρ:Dyn) (h:List (Nat×Bk)) (w:World) (b:Nat) (o:Obj):Prop:=
 w.heap[b]? = some o∧hc b=none∧¬ Own ρ h b
structure HpRel (C:Ct) (hc:Nat→Option Obj) (w0:World) (ρ:Dyn) (H:Hp) (w:World):Prop where
 blk:∀ id bk,get H.heap id=some bk→bk.live=true→∃ b o,ρ.bl id=some b∧w.heap[b]? = some o∧bk.Is C.σ ρ o
 inj:∀ id id' bk bk' b,get H.heap id=some bk→bk.live=true→get H.heap id'=some bk'→bk'.live=true→ρ.bl id=some b→ρ.bl id'=some b→id=id'
 fb:∀ i,H.nb≤i→ρ.bl i=none
 fd:∀ i,H.nd≤i→ρ.di i=none
 fv:∀ i,H.nv≤i→ρ.dv i=none
 lt:∀ i b,ρ.bl i=some b→b < w.heap.size
 hb:∀ id bk,get H.heap id=some bk→id < H.nb
 hid:∀ b o,hc b=some o→w.heap[b]? = some o
 nh:∀ b,Own ρ H.heap b→hc b=none
 facts:∀ f∈H.facts,f.1.den C.σ ρ=some f.2
 bd:∀ i a b,(i,a,b)∈H.bd→InR a b (C.σ.iv i)
 phis:∀ j∈H.phis,C.phi j ρ (Un hc ρ H.heap w)
 os:w.os=w0.os
 tape:w.tape=w0.tape
 output:w.output=w0.output
 size:w0.heap.size≤w.heap.size
structure Hp.Ext (H H':Hp):Prop where
 heap:∃ l,H'.heap=l++H.heap
 nb:H.nb≤H'.nb
 nd:H.nd≤H'.nd
 nv:H.nv≤H'.nv
 facts:∃ l,H'.facts=l++H.facts
 phis:∃ l,H'.phis=l++H.phis
theorem Hp.Ext.refl (H:Hp):H.Ext H:=⟨⟨[],rfl⟩,Nat.le_refl _,Nat.le_refl _,Nat.le_refl _,⟨[],rfl⟩,⟨[],rfl⟩⟩
theorem Hp.Ext.trans {A B D:Hp} (h:A.Ext B) (k:B.Ext D):A.Ext D:=by
 obtain ⟨⟨a,ha⟩,h1,h2,h3,⟨b,hb⟩,⟨c,hcc⟩⟩:=h
 obtain ⟨⟨a',ha'⟩,k1,k2,k3,⟨b',hb'⟩,⟨c',hc'⟩⟩:=k
 exact ⟨⟨a'++a,by rw [ha',ha,List.append_assoc]⟩,Nat.le_trans h1 k1,Nat.le_trans h2 k2,Nat.le_trans h3 k3,⟨b'++b,by rw [hb',hb,List.append_assoc]⟩,⟨c'++c,by rw [hc',hcc,List.append_assoc]⟩⟩
noncomputable def Hp.alloc (H:Hp) (bk:Bk):Hp:={ heap:=(H.nb,bk)::H.heap,nb:=Nat.succ H.nb,nd:=H.nd,nv:=H.nv,facts:=H.facts,phis:=H.phis,bd:=H.bd }
noncomputable def Hp.put (H:Hp) (id:Nat) (bk:Bk):Hp:={ heap:=(id,bk)::H.heap,nb:=H.nb,nd:=H.nd,nv:=H.nv,facts:=H.facts,phis:=H.phis,bd:=H.bd }
theorem Hp.ext_alloc (H:Hp) (bk:Bk):H.Ext (H.alloc bk):=⟨⟨[_],rfl⟩,Nat.le_succ _,Nat.le_refl _,Nat.le_refl _,⟨[],rfl⟩,⟨[],rfl⟩⟩
theorem Hp.ext_put (H:Hp) (id:Nat) (bk:Bk):H.Ext (H.put id bk):=⟨⟨[_],rfl⟩,Nat.le_refl _,Nat.le_refl _,Nat.le_refl _,⟨[],rfl⟩,⟨[],rfl⟩⟩
def Dyn.setBl (ρ:Dyn) (i b:Nat):Dyn:={ ρ with bl:=fun j=>if j=i then some b else ρ.bl j }
theorem Dyn.le_setBl {ρ:Dyn} {i b:Nat} (h:ρ.bl i=none):ρ.Le (ρ.setBl i b):=
 ⟨fun j x e=>by
  show (if j=i then some b else ρ.bl j)=some x
  split
  ·rename_i hj;subst hj;rw [h] at e;cases e
  ·exact e,fun _ _ e=>e,fun _ _ e=>e⟩
theorem Dyn.setBl_same (ρ:Dyn) (i b:Nat):(ρ.setBl i b).bl i=some b:=by simp [Dyn.setBl]
structure Dyn.Ag (H:Hp) (r r':Dyn):Prop where
 bl:∀ i,i < H.nb→r'.bl i=r.bl i
 di:∀ i,i < H.nd→r'.di i=r.di i
 dv:∀ i,i < H.nv→r'.dv i=r.dv i
theorem Dyn.Ag.refl (H:Hp) (r:Dyn):Dyn.Ag H r r:=⟨fun _ _=>rfl,fun _ _=>rfl,fun _ _=>rfl⟩
theorem Dyn.Ag.trans {H H':Hp} {a b c:Dyn} (h:Dyn.Ag H a b) (he:H.Ext H') (k:Dyn.Ag H' b c):Dyn.Ag H a c:=
 ⟨fun i hi=>(k.bl i (Nat.lt_of_lt_of_le hi he.nb)).trans (h.bl i hi),fun i hi=>(k.di i (Nat.lt_of_lt_of_le hi he.nd)).trans (h.di i hi),fun i hi=>(k.dv i (Nat.lt_of_lt_of_le hi he.nv)).trans (h.dv i hi)⟩
section
variable {C:Ct} {hc:Nat→Option Obj} {w0:World} {ρ:Dyn} {H:Hp} {w:World}
theorem getElem?_push_lt {α:Type} {a:Array α} {x:α} {i:Nat} (h:i < a.size):(a.push x)[i]? = a[i]? := by
 rw [Array.getElem?_push,if_neg (by omega)]
theorem HpRel.alloc (h:HpRel C hc w0 ρ H w) (hhc:∀ b,w.heap.size≤b→hc b=none) {bk:Bk} {o:Obj} (hb:bk.Is C.σ (ρ.setBl H.nb w.heap.size) o) :
  HpRel C hc w0 (ρ.setBl H.nb w.heap.size) (H.alloc bk) (w.alloc o):=by
 have hle:ρ.Le (ρ.setBl H.nb w.heap.size):=Dyn.le_setBl (h.fb _ (Nat.le_refl _))
 have old:∀ b,b < w.heap.size→(w.alloc o).heap[b]? = w.heap[b]? := fun b hlt=>getElem?_push_lt hlt
 have hbl:∀ id b,(ρ.setBl H.nb w.heap.size).bl id=some b→(id=H.nb∧b=w.heap.size)∨(id≠H.nb∧ρ.bl id=some b):=fun id b e=>by
  by_cases hi:id=H.nb
  ·subst hi;rw [Dyn.setBl_same] at e;cases e;exact .inl ⟨rfl,rfl⟩
  ·simp [Dyn.setBl,hi] at e;exact .inr ⟨hi,e⟩
 have hown:∀ b,Own (ρ.setBl H.nb w.heap.size) (H.alloc bk).heap b→b=w.heap.size∨Own ρ H.heap b:=by
  rintro b ⟨id,bk',hg,hlv,hb'⟩
  rcases hbl id b hb' with ⟨_,rfl⟩ | ⟨hi,hb''⟩
  ·exact .inl rfl
  ·right
   have hg':get H.heap id=some bk':=by
    have e:=hg
    simp only [Hp.alloc,get_cons] at e
    rwa [if_neg (Ne.symm hi)] at e
   exact ⟨id,bk',hg',hlv,hb''⟩
 refine ⟨?_,?_,?_,h.fd,h.fv,?_,?_,?_,?_,?_,h.bd,?_,h.os,h.tape,h.output,?_⟩
 ·intro id bk' hg hlv
  simp only [Hp.alloc,get_cons] at hg
  split at hg
  ·rename_i hi
   cases hg
   subst hi
   exact ⟨w.heap.size,o,Dyn.setBl_same _ _ _,by show (w.heap.push o)[w.heap.size]? = some o;simp,hb⟩
  ·obtain ⟨b,o',h1,h2,h3⟩:=h.blk id bk' hg hlv
   exact ⟨b,o',hle.bl _ _ h1,by rw [old b (h.lt id b h1)];exact h2,Bk.is_mono hle h3⟩
 ·intro id id' bk1 bk2 b g1 l1 g2 l2 e1 e2
  simp only [Hp.alloc,get_cons] at g1 g2
  rcases hbl id b e1 with ⟨hi,hb1⟩ | ⟨hi,hb1⟩<;>rcases hbl id' b e2 with ⟨hj,hb2⟩ | ⟨hj,hb2⟩
  ·rw [hi,hj]
  ·have:=h.lt id' b hb2;omega
  ·have:=h.lt id b hb1;omega
  ·rw [if_neg (Ne.symm hi)] at g1
   rw [if_neg (Ne.symm hj)] at g2
   exact h.inj id id' bk1 bk2 b g1 l1 g2 l2 hb1 hb2
 ·intro i hi
  have hi':H.nb+1≤i:=hi
  show (if i=H.nb then some w.heap.size else ρ.bl i)=none
  rw [if_neg (by omega)]
  exact h.fb i (by omega)
 ·intro i b e
  rw [World.size_alloc]
  rcases hbl i b e with ⟨_,rfl⟩ | ⟨_,e'⟩
  ·omega
  ·have:=h.lt i b e';omega
 ·intro id bk' hg
  simp only [Hp.alloc,get_cons] at hg
  split at hg
  ·rename_i hi;subst hi;exact Nat.lt_succ_self _
  ·exact Nat.lt_succ_of_lt (h.hb id bk' hg)
 ·intro b o' e
  have hb:=h.hid b o' e
  rw [old b (Array.getElem?_eq_some_iff.1 hb).1];exact hb
 ·intro b hb
  rcases hown b hb with rfl | hb
  ·exact hhc _ (Nat.le_refl _)
  ·exact h.nh b hb
 ·exact fun f hf=>SB.den_mono hle _ _ (h.facts f hf)
 ·intro j hj
  refine C.mono j ρ _ _ _ hle ?_ (h.phis j hj)
  rintro b o' ⟨h1,h2,h3⟩
  have hlt:b < w.heap.size:=(Array.getElem?_eq_some_iff.1 h1).1
  refine ⟨by rw [old b hlt];exact h1,h2,fun hw=>?_⟩
  rcases hown b hw with rfl | hw
  ·omega
  ·exact h3 hw
 ·rw [World.size_alloc];have:=h.size;omega
theorem HpRel.put (h:HpRel C hc w0 ρ H w) {id b:Nat} {bk bk':Bk} (hg:get H.heap id=some bk) (hl:bk.live=true) (hb:ρ.bl id=some b) {o:Obj} (hl':bk'.live=true)
  (ho:bk'.Is C.σ ρ o) {w':World} (hw:∀ i,i≠b→w'.heap[i]? = w.heap[i]?) (hwb:w'.heap[b]? = some o) (hs:w'.heap.size=w.heap.size) (hos:w'.os=w.os) (ht:w'.tape=w.tape) (hout:w'.output=w.output) :
  HpRel C hc w0 ρ (H.put id bk') w':=by
 have hown:∀ c,Own ρ (H.put id bk').heap c↔Own ρ H.heap c:=by
  intro c
  constructor
  ·rintro ⟨i,k,e1,e2,e3⟩
   simp only [Hp.put,get_cons] at e1
   split at e1
   ·rename_i hi;subst hi;exact ⟨id,bk,hg,hl,e3⟩
   ·exact ⟨i,k,e1,e2,e3⟩
  ·rintro ⟨i,k,e1,e2,e3⟩
   by_cases hi:id=i
   ·subst hi;exact ⟨id,bk',by simp [Hp.put,get_cons],hl',e3⟩
   ·exact ⟨i,k,by simp [Hp.put,get_cons,hi,e1],e2,e3⟩
 refine ⟨?_,?_,h.fb,h.fd,h.fv,?_,?_,?_,?_,h.facts,h.bd,?_,hos.trans h.os,ht.trans h.tape,hout.trans h.output,by rw [hs];exact h.size⟩
 ·intro i k e1 e2
  simp only [Hp.put,get_cons] at e1
  split at e1
  ·rename_i hi
   subst hi;cases e1
   exact ⟨b,o,hb,hwb,ho⟩
  ·rename_i hi
   obtain ⟨c,o',h1,h2,h3⟩:=h.blk i k e1 e2
   refine ⟨c,o',h1,?_,h3⟩
   rw [hw c (fun e=>hi (h.inj id i bk k b hg hl e1 e2 hb (e ▸ h1)))]
   exact h2
 ·intro i j k1 k2 c g1 l1 g2 l2 e1 e2
  have q:∀ i k,get (H.put id bk').heap i=some k→k.live=true→∃ k',get H.heap i=some k'∧k'.live=true:=fun i k g l=>by
   simp only [Hp.put,get_cons] at g
   split at g
   ·rename_i hi;subst hi;exact ⟨bk,hg,hl⟩
   ·exact ⟨k,g,l⟩
  obtain ⟨k1',g1',l1'⟩:=q i k1 g1 l1
  obtain ⟨k2',g2',l2'⟩:=q j k2 g2 l2
  exact h.inj i j k1' k2' c g1' l1' g2' l2' e1 e2
 ·intro i c e;rw [hs];exact h.lt i c e
 ·intro i k e1
  simp only [Hp.put,get_cons] at e1
  split at e1
  ·rename_i hi;subst hi;exact h.hb id bk hg
  ·exact h.hb i k e1
 ·intro c o' e
  have hne:c≠b:=fun he=>by
   have:=h.nh b ⟨id,bk,hg,hl,hb⟩
   rw [← he,e] at this;cases this
  rw [hw c hne];exact h.hid c o' e
 ·intro c hcw;exact h.nh c ((hown c).1 hcw)
 ·intro j hj
  refine C.mono j ρ _ _ _ (Dyn.Le.refl ρ) ?_ (h.phis j hj)
  rintro c o' ⟨h1,h2,h3⟩
  have hne:c≠b:=fun e=>h3 (e ▸ ⟨id,bk,hg,hl,hb⟩)
  exact ⟨by rw [hw c hne];exact h1,h2,fun hh=>h3 ((hown c).1 hh)⟩
theorem HpRel.below (h:HpRel C hc w0 ρ H w) {w':World} (hb:Below w.heap.size w w'):HpRel C hc w0 ρ H w':=by
 refine ⟨?_,h.inj,h.fb,h.fd,h.fv,?_,h.hb,?_,h.nh,h.facts,h.bd,?_,hb.os.trans h.os,hb.tape.trans h.tape,hb.output.trans h.output,Nat.le_trans h.size hb.size⟩
 ·intro id bk e1 e2
  obtain ⟨b,o,h1,h2,h3⟩:=h.blk id bk e1 e2
  exact ⟨b,o,h1,by rw [hb.block b (h.lt id b h1)];exact h2,h3⟩
 ·intro i b e;exact Nat.lt_of_lt_of_le (h.lt i b e) hb.size
 ·intro b o e
  have:=h.hid b o e
  rw [hb.block b (Array.getElem?_eq_some_iff.1 this).1];exact this
 ·intro j hj
  refine C.mono j ρ _ _ _ (Dyn.Le.refl ρ) ?_ (h.phis j hj)
  rintro b o ⟨h1,h2,h3⟩
  exact ⟨by rw [hb.block b (Array.getElem?_eq_some_iff.1 h1).1];exact h1,h2,h3⟩
theorem HpRel.drew (h:HpRel C hc w0 ρ H w):HpRel C hc w0 ρ H w.drew:=h.below ((Below.refl _ w).drew)
noncomputable def Hp.learn (H:Hp) (p:SB) (b:Bool):Hp:={ heap:=H.heap,nb:=H.nb,nd:=H.nd,nv:=H.nv,facts:=(p,b)::H.facts,phis:=H.phis,bd:=lrn H.bd p b }
theorem HpRel.fact (h:HpRel C hc w0 ρ H w) {p:SB} {b:Bool} (hp:p.den C.σ ρ=some b):HpRel C hc w0 ρ (H.learn p b) w:=
 ⟨h.blk,h.inj,h.fb,h.fd,h.fv,h.lt,h.hb,h.hid,h.nh,fun f hf=>by
  rcases List.mem_cons.1 hf with rfl | hf
  ·exact hp
  ·exact h.facts f hf,lrn_ok h.bd hp,h.phis,h.os,h.tape,h.output,h.size⟩
theorem HpRel.relog (h:HpRel C hc w0 ρ H w) {H':Hp} (hl:∀ i,get H.heap i=get H'.heap i) (h1:H'.nb=H.nb) (h2:H'.nd=H.nd) (h3:H'.nv=H.nv) (h4:H'.facts=H.facts) (h5:H'.phis=H.phis) (h6:H'.bd=H.bd):HpRel C hc w0 ρ H' w:=by
 have hown:∀ b,Own ρ H'.heap b↔Own ρ H.heap b:=by
  intro b
  constructor<;>rintro ⟨id,bk,e1,e2,e3⟩
  ·exact ⟨id,bk,by rw [hl];exact e1,e2,e3⟩
  ·exact ⟨id,bk,by rw [← hl];exact e1,e2,e3⟩
 refine ⟨fun id bk e1=>h.blk id bk (by rw [hl];exact e1),fun i j k1 k2 b g1 l1 g2 l2=>h.inj i j k1 k2 b (by rw [hl];exact g1) l1 (by rw [hl];exact g2) l2,by rw [h1];exact h.fb,by rw [h2];exact h.fd,by rw [h3];exact h.fv,h.lt,fun id bk e=>by rw [h1];exact h.hb id bk (by rw [hl];exact e),h.hid,fun b hb=>h.nh b ((hown b).1 hb),by rw [h4];exact h.facts,by rw [h6];exact h.bd,fun j hj=>?_,h.os,h.tape,h.output,h.size⟩
 rw [h5] at hj
 exact C.mono j ρ _ _ _ (Dyn.Le.refl ρ) (fun b o ⟨e1,e2,e3⟩=>⟨e1,e2,fun hh=>e3 ((hown b).1 hh)⟩) (h.phis j hj)
theorem HpRel.hc_lt (h:HpRel C hc w0 ρ H w) {b:Nat} (hb:w.heap.size≤b):hc b=none:=by
 cases e:hc b with
 | none=>rfl
 | some o=>
   have:=(Array.getElem?_eq_some_iff.1 (h.hid b o e)).1
   omega
theorem HpRel.alloc' (h:HpRel C hc w0 ρ H w) {bk:Bk} {o:Obj} (hb:bk.Is C.σ (ρ.setBl H.nb w.heap.size) o) :
  HpRel C hc w0 (ρ.setBl H.nb w.heap.size) (H.alloc bk) (w.alloc o):=h.alloc (fun _ hb=>h.hc_lt hb) hb
theorem HpRel.le_alloc (h:HpRel C hc w0 ρ H w) (b:Nat):ρ.Le (ρ.setBl H.nb b):=Dyn.le_setBl (h.fb _ (Nat.le_refl _))
theorem Dyn.Ag.le {ρ':Dyn} (h:HpRel C hc w0 ρ H w) (k:Dyn.Ag H ρ ρ'):ρ.Le ρ':=by
 refine ⟨fun i x e=>?_,fun i x e=>?_,fun i x e=>?_⟩
 ·rcases Nat.lt_or_ge i H.nb with hi | hi
  ·rw [k.bl i hi];exact e
  ·rw [h.fb i hi] at e;cases e
 ·rcases Nat.lt_or_ge i H.nd with hi | hi
  ·rw [k.di i hi];exact e
  ·rw [h.fd i hi] at e;cases e
 ·rcases Nat.lt_or_ge i H.nv with hi | hi
  ·rw [k.dv i hi];exact e
  ·rw [h.fv i hi] at e;cases e
theorem Dyn.ag_setBl (H:Hp) (ρ:Dyn) (b:Nat):Dyn.Ag H ρ (ρ.setBl H.nb b):=
 ⟨fun i hi=>by show (if i=H.nb then some b else ρ.bl i)=_;rw [if_neg (by omega)],fun _ _=>rfl,fun _ _=>rfl⟩
end
structure Tn (ρ:Dyn) (H:Hp) (w:World) (ρ':Dyn) (H':Hp) (w':World):Prop where
 ag:Dyn.Ag H ρ ρ'
 ext:H.Ext H'
 size:w.heap.size≤w'.heap.size
 new:∀ l,H'.heap=l++H.heap→∀ id b,ρ'.bl id=some b→ρ.bl id=some b∨w.heap.size≤b∨∃ id',ρ.bl id'=some b∧get l id'≠none
 same:∀ l,H'.heap=l++H.heap→∀ b,b < w.heap.size→(∀ id,ρ.bl id=some b→get l id=none)→w'.heap[b]? = w.heap[b]?
theorem Tn.refl (ρ:Dyn) (H:Hp) (w:World):Tn ρ H w ρ H w:=
 ⟨Dyn.Ag.refl H ρ,Hp.Ext.refl H,Nat.le_refl _,fun _ _ _ _ h=>.inl h,fun _ _ _ _ _=>rfl⟩
theorem Tn.of_below {ρ:Dyn} {H:Hp} {w w':World} (h:Below w.heap.size w w'):Tn ρ H w ρ H w':=
 ⟨Dyn.Ag.refl H ρ,Hp.Ext.refl H,h.size,fun _ _ _ _ h=>.inl h,fun _ _ b hb _=>h.block b hb⟩
theorem get_app_ne {α:Type} {l2 l1:List (Nat×α)} {id:Nat} (h:get l1 id≠none∨get l2 id≠none):get (l2++l1) id≠none:=by
 rw [get_append]
 cases h2:get l2 id with
 | none=>rw [h2] at h;simpa using h
 | some x=>simp
theorem Tn.trans {ρ ρ' ρ'':Dyn} {H H' H'':Hp} {w w' w'':World} (h:Tn ρ H w ρ' H' w') (k:Tn ρ' H' w' ρ'' H'' w''):Tn ρ H w ρ'' H'' w'':=by
 obtain ⟨l1,hl1⟩:=h.ext.heap
 obtain ⟨l2,hl2⟩:=k.ext.heap
 have hll:∀ l,H''.heap=l++H.heap→l=l2++l1:=fun l hl=>by
  have:l++H.heap=(l2++l1)++H.heap:=by rw [← hl,hl2,hl1,List.append_assoc]
  exact List.append_cancel_right this
 refine ⟨h.ag.trans h.ext k.ag,h.ext.trans k.ext,Nat.le_trans h.size k.size,fun l hl id b e=>?_,fun l hl b hb hid=>?_⟩
 ·have:=hll l hl
  subst this
  have up:∀ id,ρ'.bl id=some b→(get l1 id≠none∨get l2 id≠none→ρ.bl id=some b→∃ id',ρ.bl id'=some b∧get (l2++l1) id'≠none)→ρ.bl id=some b∨w.heap.size≤b∨∃ id',ρ.bl id'=some b∧get (l2++l1) id'≠none:=by
   intro id e _
   rcases h.new l1 hl1 id b e with e | e | ⟨id',e1,e2⟩
   ·exact .inl e
   ·exact .inr (.inl e)
   ·exact .inr (.inr ⟨id',e1,get_app_ne (.inl e2)⟩)
  rcases k.new l2 hl2 id b e with e | e | ⟨id',e1,e2⟩
  ·exact up id e fun hh e1=>⟨id,e1,get_app_ne hh⟩
  ·exact .inr (.inl (Nat.le_trans h.size e))
  ·rcases up id' e1 fun hh e1=>⟨id',e1,get_app_ne hh⟩ with e | e | e
   ·exact .inr (.inr ⟨id',e,get_app_ne (.inr e2)⟩)
   ·exact .inr (.inl e)
   ·exact .inr (.inr e)
 ·have:=hll l hl
  subst this
  have g1:∀ id,ρ.bl id=some b→get l1 id=none∧get l2 id=none:=fun id e=>by
   have:=hid id e
   rw [get_append] at this
   cases h2:get l2 id with
   | none=>rw [h2] at this;exact ⟨this,rfl⟩
   | some x=>rw [h2] at this;cases this
  rw [k.same l2 hl2 b (Nat.lt_of_lt_of_le hb h.size) (fun id e=>?_),h.same l1 hl1 b hb (fun id e=>(g1 id e).1)]
  rcases h.new l1 hl1 id b e with e | e | ⟨id',e1,e2⟩
  ·exact (g1 id e).2
  ·omega
  ·exact absurd (g1 id' e1).1 e2
theorem Tn.of_alloc (ρ:Dyn) (H:Hp) (w:World) (bk:Bk) (o:Obj):Tn ρ H w (ρ.setBl H.nb w.heap.size) (H.alloc bk) (w.alloc o):=
 ⟨Dyn.ag_setBl H ρ _,H.ext_alloc _,by simp,fun l hl id b e=>by
  by_cases hi:id=H.nb
  ·subst hi;rw [Dyn.setBl_same] at e;cases e;exact .inr (.inl (Nat.le_refl _))
  ·simp [Dyn.setBl,hi] at e;exact .inl e,fun _ _ b hb _=>by show (w.heap.push o)[b]? = _;exact getElem?_push_lt hb⟩
theorem Tn.of_put {ρ:Dyn} {H:Hp} {w w':World} {id b:Nat} {bk:Bk} (hb:ρ.bl id=some b) (hw:∀ i,i≠b→w'.heap[i]? = w.heap[i]?) (hs:w'.heap.size=w.heap.size):Tn ρ H w ρ (H.put id bk) w':=
 ⟨Dyn.Ag.refl H ρ,H.ext_put _ _,by omega,fun _ _ _ _ h=>.inl h,fun l hl c _ hid=>by
  have hl':l=[(id,bk)]:=by
   have:l++H.heap=[(id,bk)]++H.heap:=by rw [← hl];rfl
   exact List.append_cancel_right this
  refine hw c (fun e=>?_)
  subst e
  have:=hid id hb
  rw [hl'] at this
  simp [get_cons] at this⟩
end Go.Sx
