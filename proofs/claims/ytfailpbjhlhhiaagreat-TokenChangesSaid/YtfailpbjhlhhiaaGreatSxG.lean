/- A symbolic executor: the heap, and how a world stands to it. -/
import Derived.Test.YtfailpbjhlhhiaaGreatSxB
import Derived.Laws.Cells
import Derived.Laws.CopyRow
import Derived.Laws.CopyOwn
import Derived.Laws.Small
import Derived.Laws.StructEq
import Derived.ChangeKeysEq
namespace Go.Sx
noncomputable section
set_option linter.unusedVariables false
set_option linter.unusedSimpArgs false
open Go.RowKit
def Kd.sv (κ:Kd) (c j:SI) (f:Nat):SV:=
 match κ with
 | .nt k=>.it k (.ap k.ctorIdx c j (.c (.ofNat f)) (.c 0) (.c 0) (.c 0))
 | .tv=>.bo (.ap 0 c j (.c (.ofNat f)) (.c 0) (.c 0) (.c 0))
 | .fs i=>.fs i (.ap 8 c j (.c (.ofNat f)) (.c 0) (.c 10) (.c 0))
theorem Kd.sv_is {σ:Sta} {ρ:Dyn} {κ:Kd} {c j:SI} {f:Nat} {cv:Int} {jv:Nat} (hc:c.den σ ρ=some cv) (hj:j.den σ ρ=some (Int.ofNat jv)) {v:Value} (hv:κ.R σ ρ.fz (κ.val σ cv jv f) v):(κ.sv c j f).Is σ ρ v:=by
 cases κ with
 | nt k=>cases hv;simp only [Kd.sv,Kd.val,SV.Is,SI.den,hc,hj,Option.bind_some];exact ⟨_,rfl,rfl⟩
 | tv=>cases hv;simp only [Kd.sv,Kd.val,SV.Is,SB.den,SI.den,hc,hj,Option.bind_some];exact ⟨_,rfl,rfl⟩
 | fs i=>
   obtain ⟨y,h1,h2⟩:=hv
   simp only [Kd.val,Value.int.injEq,true_and] at h1
   subst h1
   simp only [Kd.sv,SV.Is,SI.den,hc,hj,Option.bind_some]
   exact ⟨_,rfl,h2⟩
theorem Kd.sv_uniq {σ:Sta} {ρ:Dyn} {κ:Kd} {c j:SI} {f:Nat} {cv:Int} {jv:Nat} (hc:c.den σ ρ=some cv) (hj:j.den σ ρ=some (Int.ofNat jv)) {v:Value} (h:(κ.sv c j f).Is σ ρ v):κ.R σ ρ.fz (κ.val σ cv jv f) v:=by
 cases κ with
 | nt k=>
   simp only [Kd.sv,SV.Is,SI.den,hc,hj,Option.bind_some] at h
   obtain ⟨x,hx,rfl⟩:=h
   cases hx;rfl
 | tv=>
   simp only [Kd.sv,SV.Is,SB.den,SI.den,hc,hj,Option.bind_some] at h
   obtain ⟨x,hx,rfl⟩:=h
   cases hx;rfl
 | fs i=>
   simp only [Kd.sv,SV.Is,SI.den,hc,hj,Option.bind_some] at h
   obtain ⟨y,hy,h2⟩:=h
   cases hy
   exact ⟨_,rfl,h2⟩
def Kd.beq:Kd→Kd→Bool
 | .nt k,.nt k'=>keq k k'
 | .tv,.tv=>true
 | .fs i,.fs j=>Nat.beq i j
 | _,_=>false
theorem Kd.beq_eq {a b:Kd} (h:a.beq b=true):a=b:=by
 cases a<;>cases b<;>simp only [Kd.beq] at h<;>first | rfl | (rw [keq_eq h]) | (rw [Nat.eq_of_beq_eq_true h]) | (cases h)
def layEq (l:List Kd):List Kd→Bool:=
 List.rec (motive:=fun _=>List Kd→Bool) (fun l'=>match l' with | []=>true | _=>false) (fun a _ ih l'=>match l' with | b::r=>bif a.beq b then ih r else false | []=>false) l
theorem layEq_eq:∀ {l l':List Kd},layEq l l'=true→l=l'
 | [],[],_=>rfl
 | [],_::_,h=>by cases h
 | _::_,[],h=>by cases h
 | a::l,b::l',h=>by
   have h':(bif a.beq b then layEq l l' else false)=true:=h
   rw [cond_true_iff] at h'
   rw [Kd.beq_eq h'.1,layEq_eq h'.2]
def gm (σ:Sta) (k:IntKind) (c x:Int):Int:=σ.fi k.ctorIdx c x 0 1 0 0
def hm (σ:Sta) (c x:Int):Bool:=σ.fb 1 c x 0 0 0 0
def lm (σ:Sta) (c:Int):Int:=σ.fi 8 c 0 0 0 2 0
def sm (σ:Sta) (c x y:Int):Int:=σ.fi 8 c x 0 y 1 0
def dm (σ:Sta) (c x:Int):Int:=σ.fi 8 c x 0 0 3 0
def km (σ:Sta) (k:IntKind) (c i:Int):Int:=σ.fi k.ctorIdx c i 0 2 0 0
def stm (σ:Sta) (c x:Int):Int:=σ.fi 8 c x 0 0 5 0
def clk (σ:Sta) (c:Int):Int:=σ.fi 8 c 0 0 0 6 0
def am (σ:Sta) (c s:Int):Bool:=σ.fb 1 c s 1 0 0 0
def frz (σ:Sta) (n c:Int):Int:=σ.fi 8 c n 0 0 11 0
structure ArrLaw (σ:Sta):Prop where
 mz:∀ k x,gm σ k 0 x=0
 ms:∀ k c x y x',gm σ k (sm σ c x y) x'=if x'=x then k.wrap y else gm σ k c x'
 md:∀ k c x x',gm σ k (dm σ c x) x'=if x'=x then 0 else gm σ k c x'
 hz:∀ x,hm σ 0 x=false
 hs:∀ c x y x',hm σ (sm σ c x y) x'=if x'=x then true else hm σ c x'
 hd:∀ c x x',hm σ (dm σ c x) x'=if x'=x then false else hm σ c x'
 lz:lm σ 0=0
 ls:∀ c x y,lm σ (sm σ c x y)=if hm σ c x then lm σ c else lm σ c+1
 ld:∀ c x,lm σ (dm σ c x)=if hm σ c x then lm σ c - 1 else lm σ c
 ln:∀ c,0≤lm σ c
 tz:clk σ 0=0
 ts:∀ c x y,clk σ (sm σ c x y)=if hm σ c x then clk σ c else clk σ c+1
 td:∀ c x,clk σ (dm σ c x)=clk σ c
 bs:∀ c x y x',stm σ (sm σ c x y) x'=if x'=x then (if hm σ c x then stm σ c x else clk σ c) else stm σ c x'
 bd:∀ c x x',stm σ (dm σ c x) x'=stm σ c x'
 kn:∀ k c x,hm σ c x=true→k.wrap x=x→∃ i:Nat,(i:Int) < lm σ c∧km σ k c i=x
 al:∀ c s,am σ c s=true↔∀ x,hm σ c x=true→hm σ s x=true
 sq:∀ a b,σ.fb 2 a b 0 0 0 0=true↔bytesOf σ a=bytesOf σ b
 f0:flen σ 0=0
 fn:∀ c,0≤flen σ c
 fl:∀ (n:Nat) c,flen σ (frz σ n c)=n
 fc:∀ (κ:Kd) n c (j f:Nat),f < 24→κ.val σ (frz σ n c) j f=κ.val σ c j f
 fp:∀ n c,0≤frz σ n c
 z:∀ (κ:Kd) (j f:Nat),κ.val σ 0 j f=κ.of 0
 s:∀ (κ:Kd) (c:Int) (j f:Nat) (x:Int) (j' f':Nat),κ.val σ (σ.fi 8 c j f x 0 0) j' f'=if j'=j∧f'=f then κ.of x else κ.val σ c j' f'
 b:∀ (κ:Kd) (c:Int) (i:Nat) (c':Int) (i' n j f:Nat),κ.val σ (σ.fi 9 c i c' i' n 0) j f=if i≤j∧j < i+n then κ.val σ c' (i'+(j - i)) f else κ.val σ c j f
def ArIs (σ:Sta) (F:Nat→Option Obj) (lay:List Kd) (c:Int) (n base:Nat) (A:Nat→Option Value):Prop:=
 ∀ j,j < n→∀ f κ,lay[f]? = some κ→KR σ F κ (κ.val σ c j f) (A (base+j * lay.length+f))
theorem ArIs.mono {σ:Sta} {F F':Nat→Option Obj} (h:∀ b o,F b=some o→F' b=some o) {lay:List Kd} {c:Int} {n base:Nat} {A:Nat→Option Value} (k:ArIs σ F lay c n base A):ArIs σ F' lay c n base A:=
 fun j hj f κ hκ=>(k j hj f κ hκ).mono h
structure MpIs (σ:Sta) (kk vk:IntKind) (c:Int) (l:List MapEntry) (clock:Nat):Prop where
 ent:∀ e∈l,∃ k,e.key=.int kk k∧e.val=.int vk (gm σ vk c k)∧(e.born:Int)=stm σ c k
 st:MapKept.Stamped l.toArray clock
 has:∀ k,hm σ c k=true↔∃ e∈l,e.key=.int kk k
 no:∀ k,hm σ c k=false→gm σ vk c k=0
 len:lm σ c=l.length
 clk:clk σ c=clock
 rng:∀ k,hm σ c k=true→kk.wrap k=k
structure MiIs (σ:Sta) (b:Nat) (c s:Int) (lk:Option Int) (o:Obj):Prop where
 it:∃ since seen last,o=.mapIter (some b) since seen last∧(since:Int)=Sx.clk σ c∧(last:Int)=Sx.clk σ c∧(∀ n:Nat,n∈seen.toList↔∃ k,hm σ s k=true∧hm σ c k=true∧stm σ c k=n)∧
  ∀ k,lk=some k→hm σ c k=true∧∃ n:Nat,seen.back? = some n∧stm σ c k=n
inductive Bk where
 | arr (lay:List Kd) (c n:SI) (t:TypeId) (cp:SI)
 | cells (l:List SV) (t:TypeId)
 | row (pre:Option Nat) (l:List SV) (t:TypeId) (cp:SI) (sz:Nat)
 | loop (s:LoopState) (pd:Option Code) (fn:FuncId) (nt:Nat) (tm:List (Nat×SV)) (ps:Array Tmp) (asg body:Code) (df:Nat)
 | dfr
 | dfn
 | map (es:List (SV×SV×Nat)) (clock:Nat)
 | mapc (kk vk:IntKind) (c:SI)
 | miter (id:Nat) (c s:SI) (lk:Option SI)
 | mitn
 | ob (i:Nat)
 | gone
def Bk.live:Bk→Bool
 | .gone=>false
 | _=>true
structure TmRel (σ:Sta) (ρ:Dyn) (nt:Nat) (T:List (Nat×SV)) (tmps:Array Value):Prop where
 size:tmps.size=nt
 get:∀ t z,get T t=some z→z.Is σ ρ (tmps.getD t undef)
theorem TmRel.mono {σ:Sta} {ρ ρ':Dyn} {nt:Nat} {T:List (Nat×SV)} {tmps:Array Value} (h:TmRel σ ρ nt T tmps) (hl:ρ.Le ρ'):TmRel σ ρ' nt T tmps:=
 ⟨h.size,fun t z e=>SV.is_mono hl z _ (h.get t z e)⟩
theorem TmRel.set {σ:Sta} {ρ:Dyn} {nt:Nat} {T:List (Nat×SV)} {tmps:Array Value} (h:TmRel σ ρ nt T tmps) {t:Nat} {z:SV} {u:Value} (ht:t < nt) (hz:z.Is σ ρ u) :
  TmRel σ ρ nt ((t,z)::T) (tmps.setIfInBounds t u):=by
 refine ⟨by simp [h.size],fun s y e=>?_⟩
 rw [get_cons] at e
 split at e
 ·rename_i hs
  cases e
  simp only at hs
  subst hs
  have:t < tmps.size:=by rw [h.size];exact ht
  simpa [this] using hz
 ·rename_i hs
  have:=h.get s y e
  simpa [Array.getElem?_setIfInBounds_ne hs] using this
def EsRel (σ:Sta) (ρ:Dyn):List (SV×SV×Nat)→List MapEntry→Prop
 | [],es=>es=[]
 | (k,v,n)::l,es=>∃ e r,es=e::r∧k.Is σ ρ e.key∧v.Is σ ρ e.val∧e.born=n∧EsRel σ ρ l r
theorem EsRel.mono {σ:Sta} {ρ ρ':Dyn} (hl:ρ.Le ρ'):∀ {l:List (SV×SV×Nat)} {es:List MapEntry},EsRel σ ρ l es→EsRel σ ρ' l es
 | [],_,h=>h
 | (k,v,_)::_,_,⟨e,r,h1,h2,h3,h4,h5⟩=>⟨e,r,h1,SV.is_mono hl k _ h2,SV.is_mono hl v _ h3,h4,EsRel.mono hl h5⟩
def preL (σ:Sta):Option Nat→List Value
 | some i=>σ.lv i
 | none=>[]
def olk (σ:Sta) (ρ:Dyn):Option SI→Option Int→Prop
 | none,v=>v=none
 | some k,v=>∃ x,k.den σ ρ=some x∧v=some x
def Bk.Is (σ:Sta) (ρ:Dyn):Bk→Obj→Prop
 | .arr lay c n t cp,o=>∃ cv nv cpv,∃ A:Array Value,c.den σ ρ=some cv∧n.den σ ρ=some (Int.ofNat nv)∧cp.den σ ρ=some (Int.ofNat cpv)∧nv≤cpv∧A.size=cpv * lay.length∧ArIs σ ρ.fz lay cv nv 0 (fun i=>A[i]?)∧o=.cells A t (0,0)
 | .cells l t,o=>∃ us,SV.IsL σ ρ l us∧o=.cells us.toArray t (0,0)
 | .row pre l t cp sz,o=>∃ us sp n,SV.IsL σ ρ l us∧cp.den σ ρ=some (Int.ofNat n)∧(preL σ pre).length+us.length+sp.length=n * sz∧o=.cells (preL σ pre++us++sp).toArray t (0,0)
 | .loop s pd fn nt tm ps asg body df,o=>∃ tmps d,TmRel σ ρ nt tm tmps∧ρ.bl df=some d∧o=.loop { state:=s,pending:=pd,fn,tmps,params:=ps,assign:=asg,body,defers:=d }
 | .dfr,o=>o=.deferred (some [])
 | .dfn,o=>o=.deferred none
 | .map es clock,o=>∃ l,EsRel σ ρ es l∧o=.map l.toArray clock
 | .mapc kk vk c,o=>∃ cv l clock,c.den σ ρ=some cv∧MpIs σ kk vk cv l clock∧o=.map l.toArray clock
 | .miter id c s lk,o=>∃ b cv sv,ρ.bl id=some b∧c.den σ ρ=some cv∧s.den σ ρ=some sv∧∃ lv,olk σ ρ lk lv∧MiIs σ b cv sv lv o
 | .mitn,o=>o=.mapIter none 0 #[] 0
 | .ob i,o=>σ.op i o
 | .gone,_=>False
theorem Bk.is_mono {σ:Sta} {ρ ρ':Dyn} (hl:ρ.Le ρ'):∀ {bk:Bk} {o:Obj},bk.Is σ ρ o→bk.Is σ ρ' o:=by
 intro bk o h
 cases bk with
 | arr lay c n t cp=>
   obtain ⟨cv,nv,cpv,A,h1,h2,h3,h4,h5,h6,h7⟩:=h
   exact ⟨cv,nv,cpv,A,SI.den_mono hl _ _ h1,SI.den_mono hl _ _ h2,SI.den_mono hl _ _ h3,h4,h5,h6.mono hl.fz,h7⟩
 | cells l t=>obtain ⟨us,h1,h2⟩:=h;exact ⟨us,SV.isL_mono hl l us h1,h2⟩
 | row pre l t cp sz=>obtain ⟨us,sp,n,h1,h2,h3⟩:=h;exact ⟨us,sp,n,SV.isL_mono hl l us h1,SI.den_mono hl _ _ h2,h3⟩
 | loop s pd fn nt tm ps asg body df=>obtain ⟨tmps,d,h1,h2,h3⟩:=h;exact ⟨tmps,d,h1.mono hl,hl.bl df d h2,h3⟩
 | map es clock=>obtain ⟨l,h1,h2⟩:=h;exact ⟨l,h1.mono hl,h2⟩
 | mapc kk vk c=>obtain ⟨cv,l,cl,h1,h2⟩:=h;exact ⟨cv,l,cl,SI.den_mono hl _ _ h1,h2⟩
 | miter id c s lk=>
   obtain ⟨b,cv,sv,h1,h2,h3,lv,h4,h5⟩:=h
   refine ⟨b,cv,sv,hl.bl _ _ h1,SI.den_mono hl _ _ h2,SI.den_mono hl _ _ h3,lv,?_,h5⟩
   cases lk with
   | none=>exact h4
   | some k=>obtain ⟨x,e1,e2⟩:=h4;exact ⟨x,SI.den_mono hl _ _ e1,e2⟩
 | mitn=>exact h
 | dfr=>exact h
 | dfn=>exact h
 | ob i=>exact h
 | gone=>exact h
structure Hp where
 heap:List (Nat×Bk)
 nb:Nat
 nd:Nat
 nv:Nat
 facts:List (SB×Bool)
 phis:List Nat
 bd:List (Nat×Int×Int)
structure Ct where
 σ:Sta
 F0:Nat→Option Obj
 X:Nat→Prop
 phi:Nat→Dyn→(Nat→Obj→Prop)→Prop
 mono:∀ j ρ ρ' (U U':Nat→Obj→Prop),ρ.Le ρ'→(∀ b o,U b o→U' b o)→phi j ρ U→phi j ρ' U'
def Own (ρ:Dyn) (h:List (Nat×Bk)) (b:Nat):Prop:=∃ id bk,get h id=some bk∧bk.live=true∧ρ.bl id=some b
def Un (hc:Nat→Option Obj) (ρ:Dyn) (h:List (Nat×Bk)) (w:World) (b:Nat) (o:Obj):Prop:=
 w.heap[b]? = some o∧hc b=none∧¬ Own ρ h b
structure HpRel (C:Ct) (hc:Nat→Option Obj) (w0:World) (ρ:Dyn) (H:Hp) (w:World):Prop where
 blk:∀ id bk,get H.heap id=some bk→bk.live=true→∃ b o,ρ.bl id=some b∧w.heap[b]? = some o∧bk.Is C.σ ρ o
 inj:∀ id id' bk bk' b,get H.heap id=some bk→bk.live=true→get H.heap id'=some bk'→bk'.live=true→ρ.bl id=some b→ρ.bl id'=some b→id=id'
 fb:∀ i,H.nb≤i→ρ.bl i=none
 fd:∀ i,H.nd≤i→ρ.di i=none
 fv:∀ i,H.nv≤i→ρ.dv i=none
 lt:∀ i b,ρ.bl i=some b→b < w.heap.size
 hb:∀ id bk,get H.heap id=some bk→id < H.nb
 hid:∀ b o,hc b=some o→w.heap[b]? = some o
 nh:∀ b,Own ρ H.heap b→hc b=none∧(w0.heap.size≤b∨C.X b)
 facts:∀ f∈H.facts,f.1.den C.σ ρ=some f.2
 bd:∀ i a b,(i,a,b)∈H.bd→InR a b (C.σ.iv i)
 phis:∀ j∈H.phis,C.phi j ρ (Un hc ρ H.heap w)
 fz:∀ b o,ρ.fz b=some o→Un hc ρ H.heap w b o∧(C.F0 b=some o∨w0.heap.size≤b∨C.X b)
 os:w.os=w0.os
 tape:w.tape=w0.tape
 output:w.output=w0.output
 size:w0.heap.size≤w.heap.size
structure Hp.Ext (H H':Hp):Prop where
 heap:∃ l,H'.heap=l++H.heap
 nb:H.nb≤H'.nb
 nd:H.nd≤H'.nd
 nv:H.nv≤H'.nv
 facts:∃ l,H'.facts=l++H.facts
 phis:∃ l,H'.phis=l++H.phis
theorem Hp.Ext.refl (H:Hp):H.Ext H:=⟨⟨[],rfl⟩,Nat.le_refl _,Nat.le_refl _,Nat.le_refl _,⟨[],rfl⟩,⟨[],rfl⟩⟩
theorem Hp.Ext.trans {A B D:Hp} (h:A.Ext B) (k:B.Ext D):A.Ext D:=by
 obtain ⟨⟨a,ha⟩,h1,h2,h3,⟨b,hb⟩,⟨c,hcc⟩⟩:=h
 obtain ⟨⟨a',ha'⟩,k1,k2,k3,⟨b',hb'⟩,⟨c',hc'⟩⟩:=k
 exact ⟨⟨a'++a,by rw [ha',ha,List.append_assoc]⟩,Nat.le_trans h1 k1,Nat.le_trans h2 k2,Nat.le_trans h3 k3,⟨b'++b,by rw [hb',hb,List.append_assoc]⟩,⟨c'++c,by rw [hc',hcc,List.append_assoc]⟩⟩
def Hp.alloc (H:Hp) (bk:Bk):Hp:={ heap:=(H.nb,bk)::H.heap,nb:=Nat.succ H.nb,nd:=H.nd,nv:=H.nv,facts:=H.facts,phis:=H.phis,bd:=H.bd }
def Hp.put (H:Hp) (id:Nat) (bk:Bk):Hp:={ heap:=(id,bk)::H.heap,nb:=H.nb,nd:=H.nd,nv:=H.nv,facts:=H.facts,phis:=H.phis,bd:=H.bd }
theorem Hp.ext_alloc (H:Hp) (bk:Bk):H.Ext (H.alloc bk):=⟨⟨[_],rfl⟩,Nat.le_succ _,Nat.le_refl _,Nat.le_refl _,⟨[],rfl⟩,⟨[],rfl⟩⟩
theorem Hp.ext_put (H:Hp) (id:Nat) (bk:Bk):H.Ext (H.put id bk):=⟨⟨[_],rfl⟩,Nat.le_refl _,Nat.le_refl _,Nat.le_refl _,⟨[],rfl⟩,⟨[],rfl⟩⟩
def Dyn.setBl (ρ:Dyn) (i b:Nat):Dyn:={ ρ with bl:=fun j=>if j=i then some b else ρ.bl j }
theorem Dyn.le_setBl {ρ:Dyn} {i b:Nat} (h:ρ.bl i=none):ρ.Le (ρ.setBl i b):=
 ⟨fun j x e=>by
  show (if j=i then some b else ρ.bl j)=some x
  split
  ·rename_i hj;subst hj;rw [h] at e;cases e
  ·exact e,fun _ _ e=>e,fun _ _ e=>e,fun _ _ e=>e⟩
theorem Dyn.setBl_same (ρ:Dyn) (i b:Nat):(ρ.setBl i b).bl i=some b:=by simp [Dyn.setBl]
structure Dyn.Ag (H:Hp) (r r':Dyn):Prop where
 bl:∀ i,i < H.nb→r'.bl i=r.bl i
 di:∀ i,i < H.nd→r'.di i=r.di i
 dv:∀ i,i < H.nv→r'.dv i=r.dv i
 fz:∀ b o,r.fz b=some o→r'.fz b=some o
theorem Dyn.Ag.refl (H:Hp) (r:Dyn):Dyn.Ag H r r:=⟨fun _ _=>rfl,fun _ _=>rfl,fun _ _=>rfl,fun _ _ h=>h⟩
theorem Dyn.Ag.trans {H H':Hp} {a b c:Dyn} (h:Dyn.Ag H a b) (he:H.Ext H') (k:Dyn.Ag H' b c):Dyn.Ag H a c:=
 ⟨fun i hi=>(k.bl i (Nat.lt_of_lt_of_le hi he.nb)).trans (h.bl i hi),fun i hi=>(k.di i (Nat.lt_of_lt_of_le hi he.nd)).trans (h.di i hi),fun i hi=>(k.dv i (Nat.lt_of_lt_of_le hi he.nv)).trans (h.dv i hi),fun b o e=>k.fz b o (h.fz b o e)⟩
section
variable {C:Ct} {hc:Nat→Option Obj} {w0:World} {ρ:Dyn} {H:Hp} {w:World}
theorem getElem?_push_lt {α:Type} {a:Array α} {x:α} {i:Nat} (h:i < a.size):(a.push x)[i]? = a[i]? := by
 rw [Array.getElem?_push,if_neg (by omega)]
theorem HpRel.alloc (h:HpRel C hc w0 ρ H w) (hhc:∀ b,w.heap.size≤b→hc b=none) {bk:Bk} {o:Obj} (hb:bk.Is C.σ (ρ.setBl H.nb w.heap.size) o) :
  HpRel C hc w0 (ρ.setBl H.nb w.heap.size) (H.alloc bk) (w.alloc o):=by
 have hle:ρ.Le (ρ.setBl H.nb w.heap.size):=Dyn.le_setBl (h.fb _ (Nat.le_refl _))
 have old:∀ b,b < w.heap.size→(w.alloc o).heap[b]? = w.heap[b]? := fun b hlt=>getElem?_push_lt hlt
 have hbl:∀ id b,(ρ.setBl H.nb w.heap.size).bl id=some b→(id=H.nb∧b=w.heap.size)∨(id≠H.nb∧ρ.bl id=some b):=fun id b e=>by
  by_cases hi:id=H.nb
  ·subst hi;rw [Dyn.setBl_same] at e;cases e;exact .inl ⟨rfl,rfl⟩
  ·simp [Dyn.setBl,hi] at e;exact .inr ⟨hi,e⟩
 have hown:∀ b,Own (ρ.setBl H.nb w.heap.size) (H.alloc bk).heap b→b=w.heap.size∨Own ρ H.heap b:=by
  rintro b ⟨id,bk',hg,hlv,hb'⟩
  rcases hbl id b hb' with ⟨_,rfl⟩ | ⟨hi,hb''⟩
  ·exact .inl rfl
  ·right
   have hg':get H.heap id=some bk':=by
    have e:=hg
    simp only [Hp.alloc,get_cons] at e
    rwa [if_neg (Ne.symm hi)] at e
   exact ⟨id,bk',hg',hlv,hb''⟩
 refine ⟨?_,?_,?_,h.fd,h.fv,?_,?_,?_,?_,?_,h.bd,?_,fun b o e=>?_,h.os,h.tape,h.output,?_⟩
 ·intro id bk' hg hlv
  simp only [Hp.alloc,get_cons] at hg
  split at hg
  ·rename_i hi
   cases hg
   subst hi
   exact ⟨w.heap.size,o,Dyn.setBl_same _ _ _,by show (w.heap.push o)[w.heap.size]? = some o;simp,hb⟩
  ·obtain ⟨b,o',h1,h2,h3⟩:=h.blk id bk' hg hlv
   exact ⟨b,o',hle.bl _ _ h1,by rw [old b (h.lt id b h1)];exact h2,Bk.is_mono hle h3⟩
 ·intro id id' bk1 bk2 b g1 l1 g2 l2 e1 e2
  simp only [Hp.alloc,get_cons] at g1 g2
  rcases hbl id b e1 with ⟨hi,hb1⟩ | ⟨hi,hb1⟩<;>rcases hbl id' b e2 with ⟨hj,hb2⟩ | ⟨hj,hb2⟩
  ·rw [hi,hj]
  ·have:=h.lt id' b hb2;omega
  ·have:=h.lt id b hb1;omega
  ·rw [if_neg (Ne.symm hi)] at g1
   rw [if_neg (Ne.symm hj)] at g2
   exact h.inj id id' bk1 bk2 b g1 l1 g2 l2 hb1 hb2
 ·intro i hi
  have hi':H.nb+1≤i:=hi
  show (if i=H.nb then some w.heap.size else ρ.bl i)=none
  rw [if_neg (by omega)]
  exact h.fb i (by omega)
 ·intro i b e
  rw [World.size_alloc]
  rcases hbl i b e with ⟨_,rfl⟩ | ⟨_,e'⟩
  ·omega
  ·have:=h.lt i b e';omega
 ·intro id bk' hg
  simp only [Hp.alloc,get_cons] at hg
  split at hg
  ·rename_i hi;subst hi;exact Nat.lt_succ_self _
  ·exact Nat.lt_succ_of_lt (h.hb id bk' hg)
 ·intro b o' e
  have hb:=h.hid b o' e
  rw [old b (Array.getElem?_eq_some_iff.1 hb).1];exact hb
 ·intro b hb
  rcases hown b hb with rfl | hb
  ·exact ⟨hhc _ (Nat.le_refl _),.inl h.size⟩
  ·exact h.nh b hb
 ·exact fun f hf=>SB.den_mono hle _ _ (h.facts f hf)
 ·intro j hj
  refine C.mono j ρ _ _ _ hle ?_ (h.phis j hj)
  rintro b o' ⟨h1,h2,h3⟩
  have hlt:b < w.heap.size:=(Array.getElem?_eq_some_iff.1 h1).1
  refine ⟨by rw [old b hlt];exact h1,h2,fun hw=>?_⟩
  rcases hown b hw with rfl | hw
  ·omega
  ·exact h3 hw
 ·obtain ⟨⟨h1,h2,h3⟩,h4⟩:=h.fz b o e
  have hlt:b < w.heap.size:=(Array.getElem?_eq_some_iff.1 h1).1
  refine ⟨⟨by rw [old b hlt];exact h1,h2,fun hw=>?_⟩,h4⟩
  rcases hown b hw with rfl | hw
  ·omega
  ·exact h3 hw
 ·rw [World.size_alloc];have:=h.size;omega
theorem HpRel.put (h:HpRel C hc w0 ρ H w) {id b:Nat} {bk bk':Bk} (hg:get H.heap id=some bk) (hl:bk.live=true) (hb:ρ.bl id=some b) {o:Obj} (hl':bk'.live=true)
  (ho:bk'.Is C.σ ρ o) {w':World} (hw:∀ i,i≠b→w'.heap[i]? = w.heap[i]?) (hwb:w'.heap[b]? = some o) (hs:w'.heap.size=w.heap.size) (hos:w'.os=w.os) (ht:w'.tape=w.tape) (hout:w'.output=w.output) :
  HpRel C hc w0 ρ (H.put id bk') w':=by
 have hown:∀ c,Own ρ (H.put id bk').heap c↔Own ρ H.heap c:=by
  intro c
  constructor
  ·rintro ⟨i,k,e1,e2,e3⟩
   simp only [Hp.put,get_cons] at e1
   split at e1
   ·rename_i hi;subst hi;exact ⟨id,bk,hg,hl,e3⟩
   ·exact ⟨i,k,e1,e2,e3⟩
  ·rintro ⟨i,k,e1,e2,e3⟩
   by_cases hi:id=i
   ·subst hi;exact ⟨id,bk',by simp [Hp.put,get_cons],hl',e3⟩
   ·exact ⟨i,k,by simp [Hp.put,get_cons,hi,e1],e2,e3⟩
 refine ⟨?_,?_,h.fb,h.fd,h.fv,?_,?_,?_,?_,h.facts,h.bd,?_,fun c o' e=>?_,hos.trans h.os,ht.trans h.tape,hout.trans h.output,by rw [hs];exact h.size⟩
 ·intro i k e1 e2
  simp only [Hp.put,get_cons] at e1
  split at e1
  ·rename_i hi
   subst hi;cases e1
   exact ⟨b,o,hb,hwb,ho⟩
  ·rename_i hi
   obtain ⟨c,o',h1,h2,h3⟩:=h.blk i k e1 e2
   refine ⟨c,o',h1,?_,h3⟩
   rw [hw c (fun e=>hi (h.inj id i bk k b hg hl e1 e2 hb (e ▸ h1)))]
   exact h2
 ·intro i j k1 k2 c g1 l1 g2 l2 e1 e2
  have q:∀ i k,get (H.put id bk').heap i=some k→k.live=true→∃ k',get H.heap i=some k'∧k'.live=true:=fun i k g l=>by
   simp only [Hp.put,get_cons] at g
   split at g
   ·rename_i hi;subst hi;exact ⟨bk,hg,hl⟩
   ·exact ⟨k,g,l⟩
  obtain ⟨k1',g1',l1'⟩:=q i k1 g1 l1
  obtain ⟨k2',g2',l2'⟩:=q j k2 g2 l2
  exact h.inj i j k1' k2' c g1' l1' g2' l2' e1 e2
 ·intro i c e;rw [hs];exact h.lt i c e
 ·intro i k e1
  simp only [Hp.put,get_cons] at e1
  split at e1
  ·rename_i hi;subst hi;exact h.hb id bk hg
  ·exact h.hb i k e1
 ·intro c o' e
  have hne:c≠b:=fun he=>by
   have:=(h.nh b ⟨id,bk,hg,hl,hb⟩).1
   rw [← he,e] at this;cases this
  rw [hw c hne];exact h.hid c o' e
 ·intro c hcw;exact h.nh c ((hown c).1 hcw)
 ·intro j hj
  refine C.mono j ρ _ _ _ (Dyn.Le.refl ρ) ?_ (h.phis j hj)
  rintro c o' ⟨h1,h2,h3⟩
  have hne:c≠b:=fun e=>h3 (e ▸ ⟨id,bk,hg,hl,hb⟩)
  exact ⟨by rw [hw c hne];exact h1,h2,fun hh=>h3 ((hown c).1 hh)⟩
 ·obtain ⟨⟨h1,h2,h3⟩,h4⟩:=h.fz c o' e
  have hne:c≠b:=fun e=>h3 (e ▸ ⟨id,bk,hg,hl,hb⟩)
  exact ⟨⟨by rw [hw c hne];exact h1,h2,fun hh=>h3 ((hown c).1 hh)⟩,h4⟩
theorem HpRel.below (h:HpRel C hc w0 ρ H w) {w':World} (hb:Below w.heap.size w w'):HpRel C hc w0 ρ H w':=by
 refine ⟨?_,h.inj,h.fb,h.fd,h.fv,?_,h.hb,?_,h.nh,h.facts,h.bd,?_,fun b o e=>?_,hb.os.trans h.os,hb.tape.trans h.tape,hb.output.trans h.output,Nat.le_trans h.size hb.size⟩
 ·intro id bk e1 e2
  obtain ⟨b,o,h1,h2,h3⟩:=h.blk id bk e1 e2
  exact ⟨b,o,h1,by rw [hb.block b (h.lt id b h1)];exact h2,h3⟩
 ·intro i b e;exact Nat.lt_of_lt_of_le (h.lt i b e) hb.size
 ·intro b o e
  have:=h.hid b o e
  rw [hb.block b (Array.getElem?_eq_some_iff.1 this).1];exact this
 ·intro j hj
  refine C.mono j ρ _ _ _ (Dyn.Le.refl ρ) ?_ (h.phis j hj)
  rintro b o ⟨h1,h2,h3⟩
  exact ⟨by rw [hb.block b (Array.getElem?_eq_some_iff.1 h1).1];exact h1,h2,h3⟩
 ·obtain ⟨⟨h1,h2,h3⟩,h4⟩:=h.fz b o e
  exact ⟨⟨by rw [hb.block b (Array.getElem?_eq_some_iff.1 h1).1];exact h1,h2,h3⟩,h4⟩
theorem HpRel.drew (h:HpRel C hc w0 ρ H w):HpRel C hc w0 ρ H w.drew:=h.below ((Below.refl _ w).drew)
def Hp.learn (H:Hp) (p:SB) (b:Bool):Hp:={ heap:=H.heap,nb:=H.nb,nd:=H.nd,nv:=H.nv,facts:=(p,b)::H.facts,phis:=H.phis,bd:=lrn H.bd p b }
theorem HpRel.fact (h:HpRel C hc w0 ρ H w) {p:SB} {b:Bool} (hp:p.den C.σ ρ=some b):HpRel C hc w0 ρ (H.learn p b) w:=
 ⟨h.blk,h.inj,h.fb,h.fd,h.fv,h.lt,h.hb,h.hid,h.nh,fun f hf=>by
  rcases List.mem_cons.1 hf with rfl | hf
  ·exact hp
  ·exact h.facts f hf,lrn_ok h.bd hp,h.phis,h.fz,h.os,h.tape,h.output,h.size⟩
theorem HpRel.relog (h:HpRel C hc w0 ρ H w) {H':Hp} (hl:∀ i,get H.heap i=get H'.heap i) (h1:H'.nb=H.nb) (h2:H'.nd=H.nd) (h3:H'.nv=H.nv) (h4:H'.facts=H.facts) (h5:H'.phis=H.phis) (h6:H'.bd=H.bd):HpRel C hc w0 ρ H' w:=by
 have hown:∀ b,Own ρ H'.heap b↔Own ρ H.heap b:=by
  intro b
  constructor<;>rintro ⟨id,bk,e1,e2,e3⟩
  ·exact ⟨id,bk,by rw [hl];exact e1,e2,e3⟩
  ·exact ⟨id,bk,by rw [← hl];exact e1,e2,e3⟩
 refine ⟨fun id bk e1=>h.blk id bk (by rw [hl];exact e1),fun i j k1 k2 b g1 l1 g2 l2=>h.inj i j k1 k2 b (by rw [hl];exact g1) l1 (by rw [hl];exact g2) l2,by rw [h1];exact h.fb,by rw [h2];exact h.fd,by rw [h3];exact h.fv,h.lt,fun id bk e=>by rw [h1];exact h.hb id bk (by rw [hl];exact e),h.hid,fun b hb=>h.nh b ((hown b).1 hb),by rw [h4];exact h.facts,by rw [h6];exact h.bd,fun j hj=>?_,fun b o e=>(h.fz b o e).imp (fun ⟨e1,e2,e3⟩=>⟨e1,e2,fun hh=>e3 ((hown b).1 hh)⟩) (fun h=>h),h.os,h.tape,h.output,h.size⟩
 rw [h5] at hj
 exact C.mono j ρ _ _ _ (Dyn.Le.refl ρ) (fun b o ⟨e1,e2,e3⟩=>⟨e1,e2,fun hh=>e3 ((hown b).1 hh)⟩) (h.phis j hj)
theorem HpRel.hc_lt (h:HpRel C hc w0 ρ H w) {b:Nat} (hb:w.heap.size≤b):hc b=none:=by
 cases e:hc b with
 | none=>rfl
 | some o=>
   have:=(Array.getElem?_eq_some_iff.1 (h.hid b o e)).1
   omega
theorem HpRel.alloc' (h:HpRel C hc w0 ρ H w) {bk:Bk} {o:Obj} (hb:bk.Is C.σ (ρ.setBl H.nb w.heap.size) o) :
  HpRel C hc w0 (ρ.setBl H.nb w.heap.size) (H.alloc bk) (w.alloc o):=h.alloc (fun _ hb=>h.hc_lt hb) hb
theorem HpRel.le_alloc (h:HpRel C hc w0 ρ H w) (b:Nat):ρ.Le (ρ.setBl H.nb b):=Dyn.le_setBl (h.fb _ (Nat.le_refl _))
theorem Dyn.Ag.le {ρ':Dyn} (h:HpRel C hc w0 ρ H w) (k:Dyn.Ag H ρ ρ'):ρ.Le ρ':=by
 refine ⟨fun i x e=>?_,fun i x e=>?_,fun i x e=>?_,k.fz⟩
 ·rcases Nat.lt_or_ge i H.nb with hi | hi
  ·rw [k.bl i hi];exact e
  ·rw [h.fb i hi] at e;cases e
 ·rcases Nat.lt_or_ge i H.nd with hi | hi
  ·rw [k.di i hi];exact e
  ·rw [h.fd i hi] at e;cases e
 ·rcases Nat.lt_or_ge i H.nv with hi | hi
  ·rw [k.dv i hi];exact e
  ·rw [h.fv i hi] at e;cases e
theorem Dyn.ag_setBl (H:Hp) (ρ:Dyn) (b:Nat):Dyn.Ag H ρ (ρ.setBl H.nb b):=
 ⟨fun i hi=>by show (if i=H.nb then some b else ρ.bl i)=_;rw [if_neg (by omega)],fun _ _=>rfl,fun _ _=>rfl,fun _ _ h=>h⟩
end
structure Tn (ρ:Dyn) (H:Hp) (w:World) (ρ':Dyn) (H':Hp) (w':World):Prop where
 ag:Dyn.Ag H ρ ρ'
 ext:H.Ext H'
 size:w.heap.size≤w'.heap.size
 new:∀ l,H'.heap=l++H.heap→∀ id b,ρ'.bl id=some b→ρ.bl id=some b∨w.heap.size≤b∨∃ id',ρ.bl id'=some b∧get l id'≠none
 same:∀ l,H'.heap=l++H.heap→∀ b,b < w.heap.size→(∀ id,ρ.bl id=some b→get l id=none)→w'.heap[b]? = w.heap[b]?
theorem Tn.refl (ρ:Dyn) (H:Hp) (w:World):Tn ρ H w ρ H w:=
 ⟨Dyn.Ag.refl H ρ,Hp.Ext.refl H,Nat.le_refl _,fun _ _ _ _ h=>.inl h,fun _ _ _ _ _=>rfl⟩
theorem Tn.of_below {ρ:Dyn} {H:Hp} {w w':World} (h:Below w.heap.size w w'):Tn ρ H w ρ H w':=
 ⟨Dyn.Ag.refl H ρ,Hp.Ext.refl H,h.size,fun _ _ _ _ h=>.inl h,fun _ _ b hb _=>h.block b hb⟩
theorem get_app_ne {α:Type} {l2 l1:List (Nat×α)} {id:Nat} (h:get l1 id≠none∨get l2 id≠none):get (l2++l1) id≠none:=by
 rw [get_append]
 cases h2:get l2 id with
 | none=>rw [h2] at h;simpa using h
 | some x=>simp
theorem Tn.trans {ρ ρ' ρ'':Dyn} {H H' H'':Hp} {w w' w'':World} (h:Tn ρ H w ρ' H' w') (k:Tn ρ' H' w' ρ'' H'' w''):Tn ρ H w ρ'' H'' w'':=by
 obtain ⟨l1,hl1⟩:=h.ext.heap
 obtain ⟨l2,hl2⟩:=k.ext.heap
 have hll:∀ l,H''.heap=l++H.heap→l=l2++l1:=fun l hl=>by
  have:l++H.heap=(l2++l1)++H.heap:=by rw [← hl,hl2,hl1,List.append_assoc]
  exact List.append_cancel_right this
 refine ⟨h.ag.trans h.ext k.ag,h.ext.trans k.ext,Nat.le_trans h.size k.size,fun l hl id b e=>?_,fun l hl b hb hid=>?_⟩
 ·have:=hll l hl
  subst this
  have up:∀ id,ρ'.bl id=some b→(get l1 id≠none∨get l2 id≠none→ρ.bl id=some b→∃ id',ρ.bl id'=some b∧get (l2++l1) id'≠none)→ρ.bl id=some b∨w.heap.size≤b∨∃ id',ρ.bl id'=some b∧get (l2++l1) id'≠none:=by
   intro id e _
   rcases h.new l1 hl1 id b e with e | e | ⟨id',e1,e2⟩
   ·exact .inl e
   ·exact .inr (.inl e)
   ·exact .inr (.inr ⟨id',e1,get_app_ne (.inl e2)⟩)
  rcases k.new l2 hl2 id b e with e | e | ⟨id',e1,e2⟩
  ·exact up id e fun hh e1=>⟨id,e1,get_app_ne hh⟩
  ·exact .inr (.inl (Nat.le_trans h.size e))
  ·rcases up id' e1 fun hh e1=>⟨id',e1,get_app_ne hh⟩ with e | e | e
   ·exact .inr (.inr ⟨id',e,get_app_ne (.inr e2)⟩)
   ·exact .inr (.inl e)
   ·exact .inr (.inr e)
 ·have:=hll l hl
  subst this
  have g1:∀ id,ρ.bl id=some b→get l1 id=none∧get l2 id=none:=fun id e=>by
   have:=hid id e
   rw [get_append] at this
   cases h2:get l2 id with
   | none=>rw [h2] at this;exact ⟨this,rfl⟩
   | some x=>rw [h2] at this;cases this
  rw [k.same l2 hl2 b (Nat.lt_of_lt_of_le hb h.size) (fun id e=>?_),h.same l1 hl1 b hb (fun id e=>(g1 id e).1)]
  rcases h.new l1 hl1 id b e with e | e | ⟨id',e1,e2⟩
  ·exact (g1 id e).2
  ·omega
  ·exact absurd (g1 id' e1).1 e2
theorem Tn.of_alloc (ρ:Dyn) (H:Hp) (w:World) (bk:Bk) (o:Obj):Tn ρ H w (ρ.setBl H.nb w.heap.size) (H.alloc bk) (w.alloc o):=
 ⟨Dyn.ag_setBl H ρ _,H.ext_alloc _,by simp,fun l hl id b e=>by
  by_cases hi:id=H.nb
  ·subst hi;rw [Dyn.setBl_same] at e;cases e;exact .inr (.inl (Nat.le_refl _))
  ·simp [Dyn.setBl,hi] at e;exact .inl e,fun _ _ b hb _=>by show (w.heap.push o)[b]? = _;exact getElem?_push_lt hb⟩
theorem Tn.of_put {ρ:Dyn} {H:Hp} {w w':World} {id b:Nat} {bk:Bk} (hb:ρ.bl id=some b) (hw:∀ i,i≠b→w'.heap[i]? = w.heap[i]?) (hs:w'.heap.size=w.heap.size):Tn ρ H w ρ (H.put id bk) w':=
 ⟨Dyn.Ag.refl H ρ,H.ext_put _ _,by omega,fun _ _ _ _ h=>.inl h,fun l hl c _ hid=>by
  have hl':l=[(id,bk)]:=by
   have:l++H.heap=[(id,bk)]++H.heap:=by rw [← hl];rfl
   exact List.append_cancel_right this
  refine hw c (fun e=>?_)
  subst e
  have:=hid id hb
  rw [hl'] at this
  simp [get_cons] at this⟩
end
end Go.Sx
namespace Go.Sx
set_option linter.unusedVariables false
set_option linter.unusedSimpArgs false
open Go.RowKit
def ofVal1:Value→SV
 | .bool b=>.bo (.c b)
 | .int k n=>.it k (.c n)
 | .string s=>.st (.c s)
 | .pointer none=>.pn
 | .slice none 0 0=>.sn
 | .map none=>.mn
 | .func (.func f) ⟨[]⟩ ⟨[]⟩=>.fn f [] []
 | .nilFunc=>.fz
 | .nilIface=>.fcn
 | _=>.any
noncomputable def ofVal:Value→SV
 | .agg cs=>.ag (lmap ofVal1 cs.toList)
 | .tuple cs=>.tp (lmap ofVal1 cs.toList)
 | v=>ofVal1 v
section
variable {σ:Sta} {ρ:Dyn}
theorem ofVal1_is (u:Value):(ofVal1 u).Is σ ρ u:=by
 unfold ofVal1
 split<;>simp [SV.Is,SV.IsL,SB.den,SI.den,SS.den]
theorem isL_map1:∀ (us:List Value),SV.IsL σ ρ (us.map ofVal1) us
 | []=>by simp [SV.isL_nil]
 | u::us=>SV.isL_cons.2 ⟨u,us,rfl,ofVal1_is u,isL_map1 us⟩
theorem ofVal_is (u:Value):(ofVal u).Is σ ρ u:=by
 unfold ofVal
 split
 ·rename_i cs;simp only [SV.Is,lmap_eq];exact ⟨cs.toList,isL_map1 _,by simp⟩
 ·rename_i cs;simp only [SV.Is,lmap_eq];exact ⟨cs.toList,isL_map1 _,by simp⟩
 ·exact ofVal1_is u
def SV.cells:SV→Option (List SV)
 | .ag l=>some l
 | .any | .tp _=>none
 | x=>some [x]
def SV.one:SV→Bool
 | .ag _ | .any | .tp _=>false
 | _=>true
theorem SV.one_ok {x:SV} {u:Value} (h:x.Is σ ρ u) (ho:x.one=true):u.oneCell'=true:=by
 cases x<;>simp only [SV.one,Bool.false_eq_true] at ho<;>simp only [SV.Is] at h
 case bo=>obtain ⟨_,_,rfl⟩:=h;rfl
 case it=>obtain ⟨_,_,rfl⟩:=h;rfl
 case st=>subst h;rfl
 case pt=>obtain ⟨_,_,_,_,rfl⟩:=h;rfl
 case pn=>subst h;rfl
 case sl=>obtain ⟨_,_,_,_,_,_,_,_,rfl⟩:=h;rfl
 case sn=>subst h;rfl
 case mp=>obtain ⟨_,_,rfl⟩:=h;rfl
 case mn=>subst h;rfl
 case fn=>obtain ⟨_,_,_,_,rfl⟩:=h;rfl
 case yl=>obtain ⟨_,_,rfl⟩:=h;rfl
 case fz=>subst h;rfl
 case fc=>obtain ⟨_,_,rfl⟩:=h;rfl
 case fcn=>subst h;rfl
 case va=>exact h.2
 case dv=>exact h.2
 case fs=>obtain ⟨_,_,h⟩:=h;exact h.one
 case fe=>obtain ⟨_,rfl,_⟩:=h;rfl
 case sf=>obtain ⟨_,_,rfl⟩:=h;rfl
 case fp=>obtain ⟨_,_,_,_,_,_,_,_,_,_,rfl⟩:=h;rfl
theorem Value.cells_one {u:Value} (h:u.oneCell'=true):u.cells=#[u]:=by cases u<;>simp [Value.oneCell'] at h<;>rfl
theorem SV.cells_is {x:SV} {u:Value} {l:List SV} (h:x.Is σ ρ u) (hl:x.cells=some l):SV.IsL σ ρ l u.cells.toList:=by
 by_cases ho:x.one=true
 ·have h1:=SV.one_ok h ho
  have:l=[x]:=by cases x<;>simp [SV.cells,SV.one] at hl ho<;>exact hl.symm
  subst this
  rw [Value.cells_one h1]
  exact SV.isL_cons.2 ⟨u,[],rfl,h,SV.isL_nil.2 rfl⟩
 ·cases x<;>simp [SV.cells,SV.one] at hl ho
  subst hl
  simp only [SV.Is] at h
  obtain ⟨vs,h1,rfl⟩:=h
  simpa [Value.cells] using h1
theorem SV.all_one {l:List SV} {us:List Value} (h:SV.IsL σ ρ l us) (ha:lall SV.one l=true):∀ u∈us,u.oneCell'=true:=by
 intro u hu
 obtain ⟨n,hn⟩:=List.getElem?_of_mem hu
 obtain ⟨z,h1,h2⟩:=SV.isL_nth h hn
 exact SV.one_ok h2 (lall_iff.1 ha z (List.mem_of_getElem? h1))
def aggOf (P:Program) (t:TypeId):Option (Bool×Nat):=
 match P.info? t with
 | none=>none
 | some i=>match P.underlying t with
   | some (.struct _)=>some (true,i.size)
   | some (.array _ _)=>some (true,i.size)
   | some _=>some (false,i.size)
   | none=>none
theorem aggOf_ok {P:Program} {t:TypeId} {g:Bool} {n:Nat} (h:aggOf P t=some (g,n)) (w:World) :
  (isAgg t).run P w=.ok g w∧(sizeOf t).run P w=.ok n w∧(∃ i,P.info? t=some i∧i.size=n):=by
 unfold aggOf at h
 split at h
 ·cases h
 ·rename_i i hi
  have hs:(sizeOf t).run P w=.ok i.size w:=by simp [sizeOf,typeInfo,hi]
  split at h
  ·rename_i fs hu;cases h
   exact ⟨by simp [isAgg,underlying,hu],hs,i,hi,rfl⟩
  ·rename_i a b hu;cases h
   exact ⟨by simp [isAgg,underlying,hu],hs,i,hi,rfl⟩
  ·rename_i d h1 h2 hu;cases h
   refine ⟨?_,hs,i,hi,rfl⟩
   simp only [isAgg,underlying,Sem.run_bind,run_program,Result.andThen_ok,hu,Sem.run_pure]
  ·cases h
noncomputable def partOf (P:Program) (t:TypeId) (l:List SV) (off:Nat):Option SV:=
 match aggOf P t with
 | some (true,n)=>some (.ag (ltake (ldrop l off) n))
 | some (false,_)=>lnth l off
 | none=>none
theorem partOf_ok {P:Program} {t:TypeId} {l:List SV} {off:Nat} {z:SV} {us:List Value} (hl:SV.IsL σ ρ l us) (h:partOf P t l off=some z) (w:World) :
  ∃ u,(part t us.toArray off).run P w=.ok u w∧z.Is σ ρ u:=by
 unfold partOf at h
 split at h
 ·rename_i n ha
  cases h
  obtain ⟨h1,h2,_⟩:=aggOf_ok ha w
  refine ⟨.agg (us.toArray.extract off (off+n)),by simp [part,h1,h2],?_⟩
  simp only [SV.Is,ltake_eq,ldrop_eq]
  refine ⟨(us.drop off).take n,SV.isL_take n (SV.isL_drop off hl),?_⟩
  congr 1
  apply Array.ext'
  simp [List.take_drop,Nat.add_comm]
 ·rename_i n ha
  obtain ⟨h1,h2,_⟩:=aggOf_ok ha w
  rw [lnth_eq] at h
  obtain ⟨u,h3,h4⟩:=SV.isL_get hl h
  refine ⟨u,?_,h4⟩
  simp [part,h1,h3]
 ·cases h
noncomputable def splice (l:List SV) (off:Nat) (cs:List SV):List SV:=lapp (ltake l off) (lapp cs (ldrop l (Nat.add off (llen cs))))
theorem splice_eq (l:List SV) (off:Nat) (cs:List SV):splice l off cs=l.take off++(cs++l.drop (off+cs.length)):=by
 simp only [splice,lapp_eq,ltake_eq,ldrop_eq,llen_eq];rfl
theorem splice_is {l cs:List SV} {us vs:List Value} (off:Nat) (hl:SV.IsL σ ρ l us) (hc:SV.IsL σ ρ cs vs):SV.IsL σ ρ (splice l off cs) (us.take off++(vs++us.drop (off+vs.length))):=by
 rw [splice_eq,← SV.isL_length hc]
 exact SV.isL_append (SV.isL_take off hl) (SV.isL_append hc (SV.isL_drop _ hl))
theorem foldl_set (off:Nat):∀ (cs:List Value) (k:Nat) (A:Array Value),off+k+cs.length≤A.size→
  ((cs.zipIdx k).foldl (fun (B:Array Value) (p:Value×Nat)=>B.setIfInBounds (off+p.2) p.1) A).toList=A.toList.take (off+k)++(cs++A.toList.drop (off+k+cs.length))
 | [],k,A,_=>by simp
 | c::cs,k,A,h=>by
   simp only [List.zipIdx_cons,List.foldl_cons]
   have hk:off+k < A.size:=by simp at h;omega
   rw [foldl_set off cs (k+1) _ (by simp at h ⊢;omega)]
   have hA:A.toList.length=A.size:=by simp
   have e1:(A.setIfInBounds (off+k) c).toList=A.toList.take (off+k)++c::A.toList.drop (off+k+1):=by
    rw [Array.toList_setIfInBounds,List.set_eq_take_append_cons_drop,if_pos (by simpa using hk)]
   rw [e1]
   have hlen:(A.toList.take (off+k)).length=off+k:=by rw [List.length_take,hA];omega
   have h2:List.take (off+(k+1)) (A.toList.take (off+k)++c::A.toList.drop (off+k+1))=A.toList.take (off+k)++[c]:=by
    rw [List.take_append,hlen]
    have:off+(k+1) - (off+k)=1:=by omega
    rw [this,List.take_of_length_le (by omega)]
    simp
   have h3:List.drop (off+(k+1)+cs.length) (A.toList.take (off+k)++c::A.toList.drop (off+k+1))=A.toList.drop (off+k+(c::cs).length):=by
    rw [List.drop_append,hlen]
    have:off+(k+1)+cs.length - (off+k)=cs.length+1:=by omega
    rw [this,List.drop_of_length_le (by omega)]
    simp only [List.drop_succ_cons,List.drop_drop,List.nil_append,List.length_cons]
    congr 1;omega
   rw [h2,h3]
   simp
noncomputable def sfill (place:Nat→Option (Nat×Nat)) (cells:List SV) (parts:List (Nat×SV)):Option (List SV):=
 List.rec (motive:=fun _=>List SV→Option (List SV)) (fun c=>some c) (fun p _ ih c=>
  match place p.1 with
  | none=>none
  | some (off,size)=>match p.2.cells with
    | none=>none
    | some cs=>bif Nat.beq (llen cs) size then (bif Nat.ble (Nat.add off size) (llen c) then ih (splice c off cs) else none) else none) parts cells
def PartsRel (σ:Sta) (ρ:Dyn):List (Nat×SV)→List (Nat×Value)→Prop
 | [],vs=>vs=[]
 | (i,x)::l,vs=>∃ u r,vs=(i,u)::r∧x.Is σ ρ u∧PartsRel σ ρ l r
theorem sfill_ok {place:Nat→Option (Nat×Nat)}:∀ {parts:List (Nat×SV)} {cells out:List SV} {vs:List (Nat×Value)} {A:Array Value},SV.IsL σ ρ cells A.toList→PartsRel σ ρ parts vs→
  sfill place cells parts=some out→∃ B,Instr.fill place A vs=some B∧SV.IsL σ ρ out B.toList
 | [],cells,out,vs,A,hc,hp,h=>by
   simp only [PartsRel] at hp;subst hp
   have h':some cells=some out:=h
   cases h'
   exact ⟨A,rfl,hc⟩
 | (i,x)::parts,cells,out,vs,A,hc,hp,h=>by
   obtain ⟨u,r,rfl,hx,hr⟩:=hp
   have h':(match place i with
    | none=>none
    | some (off,size)=>match x.cells with
      | none=>none
      | some cs=>bif Nat.beq (llen cs) size then (bif Nat.ble (Nat.add off size) (llen cells) then sfill place (splice cells off cs) parts else none) else none)=some out:=h
   split at h'
   ·cases h'
   ·rename_i off size hpl
    split at h'
    ·cases h'
    ·rename_i cs hcs
     cases h1:Nat.beq (llen cs) size with
     | false=>rw [h1] at h';cases h'
     | true=>
       cases h2:Nat.ble (Nat.add off size) (llen cells) with
       | false=>rw [h1,h2] at h';cases h'
       | true=>
         rw [h1,h2] at h'
         simp only [cond_true] at h'
         have e1:=Nat.eq_of_beq_eq_true h1
         have e2:=Nat.le_of_ble_eq_true h2
         rw [llen_eq] at e1 e2
         have hcu:=SV.cells_is hx hcs
         have l1:=SV.isL_length hcu
         have l2:=SV.isL_length hc
         have hsz:u.cells.size=size:=by rw [← e1,← l1];simp
         have e2':off+size≤A.size:=by
          have:A.size=cells.length:=by rw [← l2];simp
          rw [this];exact e2
         have hf:=foldl_set off u.cells.toList 0 A (by simp [hsz];omega)
         have hzip:u.cells.zipIdx.foldl (fun (cs:Array Value) (p:Value×Nat)=>cs.setIfInBounds (off+p.2) p.1) A=(u.cells.toList.zipIdx 0).foldl (fun (B:Array Value) (p:Value×Nat)=>B.setIfInBounds (off+p.2) p.1) A:=by
          rw [← Array.foldl_toList];simp
         obtain ⟨B,hB1,hB2⟩:=sfill_ok (place:=place) (A:=u.cells.zipIdx.foldl (fun (cs:Array Value) (p:Value×Nat)=>cs.setIfInBounds (off+p.2) p.1) A) (by
          rw [hzip,hf]
          simpa using splice_is off hc hcu) hr h'
         refine ⟨B,?_,hB2⟩
         simp only [Instr.fill,hpl]
         rw [if_neg (by simp [hsz];omega)]
         exact hB1
end
end Go.Sx
namespace Go.Sx
noncomputable section
set_option linter.unusedVariables false
set_option linter.unusedSimpArgs false
open Go.RowKit
structure Cc where
 P:Program
 B:Bd
 rd:List (Nat×SR×SI×List SV)
 eqt:List TypeId
 ar:List (Nat×SR×SI×List Kd×SI×SI)
 ow:List TypeId
def SR.beq:SR→SR→Bool
 | .n a,.n b=>Nat.beq a b
 | .k a,.k b=>Nat.beq a b
 | .g a,.g b=>Nat.beq a b
 | _,_=>false
theorem SR.beq_eq {a b:SR} (h:a.beq b=true):a=b:=by
 cases a<;>cases b<;>simp [SR.beq] at h<;>simp [h]
def isOv (fn:Func):Bool:=bif fn.body.isNone then fn.origin == "slices.overlaps" else false
def ovOk (fn:Func):Bool:=bif isOv fn then (Extern.allNextRows.lookup fn.name).isNone && ((Extern.allGenericRows.lookup fn.name).isNone && ((Extern.allTypedRows.lookup fn.name).isNone && (Extern.allRows.lookup fn.name).isNone)) else true
theorem ov_none:(Extern.allNextRows.lookup "slices.overlaps").isNone=true:=by kernel_rfl
theorem ov_noneG:(Extern.allGenericRows.lookup "slices.overlaps").isNone=true:=by kernel_rfl
theorem ov_some:Extern.allTypedRows.lookup "slices.overlaps" = some Extern.SlicesOverlaps.overlaps:=by kernel_rfl
theorem ovOk_ok {fn:Func} (h1:isOv fn=true) (h:ovOk fn=true):fn.body=none∧Extern.findNext fn=none∧Extern.find fn=some (Extern.SlicesOverlaps.overlaps fn.params fn.resultTypes):=by
 unfold ovOk at h
 rw [h1] at h
 simp only [cond_true,Bool.and_eq_true,Option.isNone_iff_eq_none] at h
 obtain ⟨e1,e2,e3,e4⟩:=h
 unfold isOv at h1
 cases hb:fn.body with
 | some b=>rw [hb] at h1;cases h1
 | none=>
   rw [hb] at h1
   have ho:fn.origin = "slices.overlaps" := by simpa using h1
   have n1:Extern.allNextRows.lookup "slices.overlaps" = none:=Option.isNone_iff_eq_none.1 ov_none
   have n2:Extern.allGenericRows.lookup "slices.overlaps" = none:=Option.isNone_iff_eq_none.1 ov_noneG
   refine ⟨rfl,?_,?_⟩
   ·simp only [Extern.findNext,e1,ho,n1];rfl
   ·simp only [Extern.find,e2,e3,e4,ho,n2,ov_some];rfl
structure Cc.Ok (cc:Cc) (C:Ct):Prop where
 B:cc.B.Ok C.σ
 rd:∀ j r o cs,(j,r,o,cs)∈cc.rd→∀ ρ U,C.phi j ρ U→∃ b n us,r.den C.σ ρ=some b∧o.den C.σ ρ=some (Int.ofNat n)∧SV.IsL C.σ ρ cs us∧
  ∃ c t fz,U b (.cells c t fz)∧∀ k u,us[k]? = some u→c[n+k]? = some u
 eqt:∀ t∈cc.eqt,cc.P.stoodInHeld t=false∧cc.P.eqGuardType cc.P.depth t=false∧∀ fs,cc.P.underlying t=some (.struct fs)→∀ f∈fs.toList,f.name ≠ "_"
 names:∀ (f:Nat) (fn:Func),cc.P.funcs[f]? = some fn→(fn.name == "runtime.NumGoroutine")=false
 ov:∀ (f:Nat) (fn:Func),cc.P.funcs[f]? = some fn→ovOk fn=true
 mixed:cc.P.follows .mixedOrders=true
 al:ArrLaw C.σ
 ar:∀ j r o lay c n,(j,r,o,lay,c,n)∈cc.ar→∀ ρ U,C.phi j ρ U→∃ b on cv nv,r.den C.σ ρ=some b∧o.den C.σ ρ=some (Int.ofNat on)∧c.den C.σ ρ=some cv∧n.den C.σ ρ=some (Int.ofNat nv)∧
  ∀ j,j < nv→∀ f κ,lay[f]? = some κ→∃ (A:Array Value) (t:TypeId) (fz:Nat×Nat),U b (.cells A t fz)∧KR C.σ ρ.fz κ (κ.val C.σ cv j f) (A[on+j * lay.length+f]?)
section
variable {cc:Cc} {C:Ct} {hc:Nat→Option Obj} {w0:World} {ρ:Dyn} {H:Hp} {w:World}
def bdOf (cc:Cc) (H:Hp):Bd:=⟨H.bd,cc.B.f⟩
theorem bdOf_ok (hcc:cc.Ok C) (h:HpRel C hc w0 ρ H w):(bdOf cc H).Ok C.σ:=⟨h.bd,hcc.B.f⟩
def rdf (cc:Cc) (H:Hp) (r:SR) (o:SI) (n:Nat):Option (List SV):=
 List.rec (motive:=fun _=>Option (List SV)) none (fun e _ ih=>
  bif lmem H.phis e.1 then (bif e.2.1.beq r then (bif e.2.2.1.beq o then (bif Nat.ble n (llen e.2.2.2) then some (ltake e.2.2.2 n) else ih) else ih) else ih) else ih) cc.rd
theorem rdf_mem {l:List (Nat×SR×SI×List SV)} {H:Hp} {r:SR} {o:SI} {n:Nat} {cs:List SV}
  (h:(List.rec (motive:=fun _=>Option (List SV)) none (fun e _ ih=>
   bif lmem H.phis e.1 then (bif e.2.1.beq r then (bif e.2.2.1.beq o then (bif Nat.ble n (llen e.2.2.2) then some (ltake e.2.2.2 n) else ih) else ih) else ih) else ih) l)=some cs) :
  ∃ j cs',(j,r,o,cs')∈l∧j∈H.phis∧n≤cs'.length∧cs=cs'.take n:=by
 induction l with
 | nil=>cases h
 | cons e l ih=>
   obtain ⟨j,r',o',cs'⟩:=e
   dsimp only at h
   have up:(∃ j cs',(j,r,o,cs')∈l∧j∈H.phis∧n≤cs'.length∧cs=cs'.take n)→∃ j2 cs2,(j2,r,o,cs2)∈(j,r',o',cs')::l∧j2∈H.phis∧n≤cs2.length∧cs=cs2.take n:=
    fun ⟨a,b,h1,h2⟩=>⟨a,b,List.mem_cons_of_mem _ h1,h2⟩
   cases h1:lmem H.phis j with
   | false=>rw [h1] at h;exact up (ih h)
   | true=>
     cases h2:r'.beq r with
     | false=>rw [h1,h2] at h;exact up (ih h)
     | true=>
       cases h3:o'.beq o with
       | false=>rw [h1,h2,h3] at h;exact up (ih h)
       | true=>
         cases h4:Nat.ble n (llen cs') with
         | false=>rw [h1,h2,h3,h4] at h;exact up (ih h)
         | true=>
           rw [h1,h2,h3,h4] at h
           simp only [cond_true,Option.some.injEq] at h
           have:=SR.beq_eq h2;subst this
           have:=SI.beq_eq h3;subst this
           have:=Nat.le_of_ble_eq_true h4
           rw [llen_eq] at this
           exact ⟨j,cs',by simp,lmem_iff.1 h1,this,by rw [← h,ltake_eq]⟩
def lod (cc:Cc) (H:Hp) (r:SR) (o:SI) (n:Nat):Option (List SV):=
 match r,o with
 | .n id,.c (.ofNat k)=>match get H.heap id with
   | some (.cells l _)=>bif Nat.ble (Nat.add k n) (llen l) then some (ltake (ldrop l k) n) else none
   | some (.row none l _ _ _)=>bif Nat.ble (Nat.add k n) (llen l) then some (ltake (ldrop l k) n) else none
   | _=>rdf cc H (.n id) (.c (.ofNat k)) n
 | r,o=>rdf cc H r o n
theorem lod_ok (hcc:cc.Ok C) (h:HpRel C hc w0 ρ H w) {r:SR} {o:SI} {n:Nat} {cs:List SV} {b k:Nat} (hr:r.den C.σ ρ=some b) (ho:o.den C.σ ρ=some (Int.ofNat k)) (hl:lod cc H r o n=some cs) :
  ∃ us,SV.IsL C.σ ρ cs us∧us.length=n∧∀ j u,us[j]? = some u→w.cell? ⟨b,k+j,none⟩=some u:=by
 have viaRd:∀ r o,r.den C.σ ρ=some b→o.den C.σ ρ=some (Int.ofNat k)→rdf cc H r o n=some cs→
   ∃ us,SV.IsL C.σ ρ cs us∧us.length=n∧∀ j u,us[j]? = some u→w.cell? ⟨b,k+j,none⟩=some u:=by
  intro r o hr ho hl
  obtain ⟨j,cs',h1,h2,h3,rfl⟩:=rdf_mem hl
  obtain ⟨b',n',us,e1,e2,e3,c,t,fz,hU,e4⟩:=hcc.rd j r o cs' h1 ρ _ (h.phis j h2)
  rw [hr] at e1;cases e1
  rw [ho] at e2;cases e2
  refine ⟨us.take n,SV.isL_take n e3,by rw [List.length_take,SV.isL_length e3];omega,fun i u hu=>?_⟩
  have hi:us[i]? = some u:=by
   rw [List.getElem?_take] at hu
   split at hu
   ·exact hu
   ·cases hu
  have:=e4 i u hi
  simp only [World.cell?,hU.1]
  simpa using this
 unfold lod at hl
 split at hl
 ·rename_i id k'
  simp only [SI.den,Option.some.injEq] at ho
  have hk:k'=k:=by injection ho
  subst hk
  have known:∀ (l:List SV) (us:List Value) (c:Array Value) (t:TypeId),SV.IsL C.σ ρ l us→w.heap[b]? = some (.cells c t (0,0))→(∀ (j:Nat) (u:Value),us[j]? = some u→c[j]? = some u)→
    (bif Nat.ble (Nat.add k' n) (llen l) then some (ltake (ldrop l k') n) else none)=some cs→
    ∃ us,SV.IsL C.σ ρ cs us∧us.length=n∧∀ j u,us[j]? = some u→w.cell? ⟨b,k'+j,none⟩=some u:=by
   intro l us c t hlu hw hcu hh
   cases hb:Nat.ble (Nat.add k' n) (llen l) with
   | false=>rw [hb] at hh;cases hh
   | true=>
     rw [hb] at hh
     simp only [cond_true,Option.some.injEq] at hh
     have hle:=Nat.le_of_ble_eq_true hb
     rw [llen_eq] at hle
     have hle':k'+n≤l.length:=hle
     rw [← hh,ltake_eq,ldrop_eq]
     refine ⟨(us.drop k').take n,SV.isL_take n (SV.isL_drop k' hlu),?_,fun j u hu=>?_⟩
     ·rw [List.length_take,List.length_drop,SV.isL_length hlu];omega
     ·have hj:us[k'+j]? = some u:=by
       rw [List.getElem?_take] at hu
       split at hu
       ·rwa [List.getElem?_drop] at hu
       ·cases hu
      have:=hcu _ _ hj
      simp only [World.cell?,hw]
      simpa using this
  split at hl
  ·rename_i l t hg
   obtain ⟨b',o',e1,e2,us,e3,rfl⟩:=h.blk id _ hg rfl
   have:b'=b:=by simp only [SR.den] at hr;rw [e1] at hr;exact Option.some.inj hr
   subst this
   exact known l us us.toArray t e3 e2 (fun j u hu=>by simpa using hu) hl
  ·rename_i l t cp sz hg
   obtain ⟨b',o',e1,e2,us,sp,nn,e3,e4,e5,rfl⟩:=h.blk id _ hg rfl
   have:b'=b:=by simp only [SR.den] at hr;rw [e1] at hr;exact Option.some.inj hr
   subst this
   refine known l us _ t e3 e2 (fun j u hu=>?_) hl
   have hlt:=(List.getElem?_eq_some_iff.1 hu).1
   simp only [preL,List.nil_append,List.getElem?_toArray]
   rw [List.getElem?_append_left hlt];exact hu
  ·exact viaRd _ _ hr rfl hl
 ·exact viaRd _ _ hr ho hl
theorem addr_add (b k j:Nat):(⟨b,k,none⟩:Addr).add j=⟨b,k+j,none⟩:=by
 unfold Addr.add;split<;>simp_all
def lodV (cc:Cc) (H:Hp) (t:TypeId) (r:SR) (o:SI):Option SV:=
 match aggOf cc.P t with
 | some (true,n)=>match lod cc H r o n with | some cs=>some (.ag cs) | none=>none
 | some (false,_)=>match lod cc H r o 1 with | some (z::_)=>some z | _=>none
 | none=>none
theorem lodV_ok (hcc:cc.Ok C) (h:HpRel C hc w0 ρ H w) {t:TypeId} {r:SR} {o:SI} {z:SV} {b k:Nat} (hr:r.den C.σ ρ=some b) (ho:o.den C.σ ρ=some (Int.ofNat k)) (hl:lodV cc H t r o=some z) :
  ∃ u,(loadVar t ⟨b,k,none⟩).run cc.P w=.ok u w∧z.Is C.σ ρ u:=by
 unfold lodV at hl
 split at hl
 ·rename_i n ha
  obtain ⟨h1,h2,_⟩:=aggOf_ok ha w
  split at hl
  ·rename_i cs hcs
   cases hl
   obtain ⟨us,e1,e2,e3⟩:=lod_ok hcc h hr ho hcs
   have hld:=run_loadCells_list (P:=cc.P) w ⟨b,k,none⟩ us (fun j v hj=>by rw [addr_add];exact e3 j v hj)
   rw [e2] at hld
   exact ⟨.agg us.toArray,by simp [loadVar,h1,h2,hld],by simp only [SV.Is];exact ⟨us,e1,rfl⟩⟩
  ·cases hl
 ·rename_i n ha
  obtain ⟨h1,h2,_⟩:=aggOf_ok ha w
  split at hl
  ·rename_i z' cs hcs
   cases hl
   obtain ⟨us,e1,e2,e3⟩:=lod_ok hcc h hr ho hcs
   rw [SV.isL_cons] at e1
   obtain ⟨u,r',rfl,e4,_⟩:=e1
   have:=e3 0 u (by simp)
   exact ⟨u,by simp [loadVar,h1,run_load,show w.cell? ⟨b,k,none⟩=some u from this],e4⟩
  ·cases hl
 ·cases hl
def sto (H:Hp) (r:SR) (o:SI) (cs:List SV):Option Hp:=
 match r,o with
 | .n id,.c (.ofNat k)=>match get H.heap id with
   | some (.cells l t)=>bif Nat.ble (Nat.add k (llen cs)) (llen l) then (bif lall SV.one cs then some (H.put id (.cells (splice l k cs) t)) else none) else none
   | some (.row none l t cp sz)=>bif Nat.ble (Nat.add k (llen cs)) (llen l) then (bif lall SV.one cs then some (H.put id (.row none (splice l k cs) t cp sz)) else none) else none
   | _=>none
 | _,_=>none
theorem sto_ok (h:HpRel C hc w0 ρ H w) {r:SR} {o:SI} {cs:List SV} {b k:Nat} {H':Hp} {us:List Value} (hr:r.den C.σ ρ=some b) (ho:o.den C.σ ρ=some (Int.ofNat k)) (hcs:SV.IsL C.σ ρ cs us)
  (hl:sto H r o cs=some H'):∃ w',(storeCells ⟨b,k,none⟩ us 0).run cc.P w=.ok () w'∧HpRel C hc w0 ρ H' w'∧Tn ρ H w ρ H' w':=by
 unfold sto at hl
 split at hl
 ·rename_i id k'
  simp only [SI.den,Option.some.injEq] at ho
  have hk:k'=k:=by injection ho
  subst hk
  have lcs:=SV.isL_length hcs
  split at hl
  ·rename_i l t hg
   obtain ⟨b',o',e1,e2,vs,e3,rfl⟩:=h.blk id _ hg rfl
   have:b'=b:=by simp only [SR.den] at hr;rw [e1] at hr;exact Option.some.inj hr
   subst this
   cases h1:Nat.ble (Nat.add k' (llen cs)) (llen l) with
   | false=>rw [h1] at hl;cases hl
   | true=>
     cases h2:lall SV.one cs with
     | false=>rw [h1,h2] at hl;cases hl
     | true=>
       rw [h1,h2] at hl;cases hl
       have hle:=Nat.le_of_ble_eq_true h1
       rw [llen_eq,llen_eq] at hle
       have hle':k'+cs.length≤l.length:=hle
       have lvs:=SV.isL_length e3
       have hst:=run_storeCells_at (P:=cc.P) b' k' t us 0 vs.toArray w e2 (by simp;omega) (SV.all_one hcs h2)
       refine ⟨_,hst,?_,Tn.of_put e1 (fun i hi=>setRow_other _ _ _ _ hi) (by simp)⟩
       refine h.put hg rfl e1 (o:=.cells (vs.take k'++(us++vs.drop (k'+us.length))).toArray t (0,0)) rfl ?_ (fun i hi=>setRow_other _ _ _ _ hi) ?_ (by simp) rfl rfl rfl
       ·exact ⟨_,splice_is k' e3 hcs,rfl⟩
       ·rw [setRow_heap _ _ _ _ t _ e2];simp
  ·rename_i l t cp sz hg
   obtain ⟨b',o',e1,e2,vs,sp,nn,e3,e4,e5,rfl⟩:=h.blk id _ hg rfl
   simp only [preL] at e2 e5
   have:b'=b:=by simp only [SR.den] at hr;rw [e1] at hr;exact Option.some.inj hr
   subst this
   cases h1:Nat.ble (Nat.add k' (llen cs)) (llen l) with
   | false=>rw [h1] at hl;cases hl
   | true=>
     cases h2:lall SV.one cs with
     | false=>rw [h1,h2] at hl;cases hl
     | true=>
       rw [h1,h2] at hl;cases hl
       have hle:=Nat.le_of_ble_eq_true h1
       rw [llen_eq,llen_eq] at hle
       have hle':k'+cs.length≤l.length:=hle
       have lvs:=SV.isL_length e3
       have hst:=run_storeCells_at (P:=cc.P) b' k' t us 0 ([]++vs++sp).toArray w e2 (by simp;omega) (SV.all_one hcs h2)
       refine ⟨_,hst,?_,Tn.of_put e1 (fun i hi=>setRow_other _ _ _ _ hi) (by simp)⟩
       refine h.put hg rfl e1 (o:=.cells ([]++(vs.take k'++(us++vs.drop (k'+us.length)))++sp).toArray t (0,0)) rfl ?_ (fun i hi=>setRow_other _ _ _ _ hi) ?_ (by simp) rfl rfl rfl
       ·refine ⟨_,sp,nn,splice_is k' e3 hcs,e4,?_,rfl⟩
        have lus:=SV.isL_length hcs
        rw [← e5];simp [preL];omega
       ·rw [setRow_heap _ _ _ _ t _ e2]
        simp only [List.nil_append,Nat.add_zero,List.append_assoc]
        rw [List.take_append_of_le_length (by omega),List.drop_append_of_le_length (by omega)]
  ·cases hl
 ·cases hl
def stoV (cc:Cc) (H:Hp) (t:TypeId) (r:SR) (o:SI) (x:SV):Option Hp:=
 match x.cells,aggOf cc.P t with
 | some cs,some (_,n)=>bif Nat.beq (llen cs) n then sto H r o cs else none
 | _,_=>none
theorem stoV_ok (h:HpRel C hc w0 ρ H w) {t:TypeId} {r:SR} {o:SI} {x:SV} {u:Value} {b k:Nat} {H':Hp} (hr:r.den C.σ ρ=some b) (ho:o.den C.σ ρ=some (Int.ofNat k)) (hx:x.Is C.σ ρ u)
  (hl:stoV cc H t r o x=some H'):∃ w',(storeVar t ⟨b,k,none⟩ u).run cc.P w=.ok () w'∧HpRel C hc w0 ρ H' w'∧Tn ρ H w ρ H' w':=by
 unfold stoV at hl
 split at hl
 ·rename_i cs g n hcs ha
  obtain ⟨h1,h2,_⟩:=aggOf_ok ha w
  cases hb:Nat.beq (llen cs) n with
  | false=>rw [hb] at hl;cases hl
  | true=>
    rw [hb] at hl
    have hn:=Nat.eq_of_beq_eq_true hb
    rw [llen_eq] at hn
    have hc1:=SV.cells_is hx hcs
    have hlen:=SV.isL_length hc1
    obtain ⟨w',e1,e2,e3⟩:=sto_ok (cc:=cc) h hr ho hc1 hl
    refine ⟨w',?_,e2,e3⟩
    have hsz:u.cells.size=n:=by rw [← hn,← hlen];simp
    simp [storeVar,h2,hsz,e1]
 ·cases hl
def eqFs (P:Program) (rec:TypeId→SV→SV→Option SB) (xs ys:List SV) (fs:List Field):Option SB:=
 List.rec (motive:=fun _=>Option SB) (some (.c true)) (fun f _ ih=>
  match partOf P f.type xs f.offset,partOf P f.type ys f.offset with
  | some a,some b=>match rec f.type a b,ih with
    | some p,some q=>some (.and p q)
    | _,_=>none
  | _,_=>none) fs
def eqIs (P:Program) (rec:TypeId→SV→SV→Option SB) (e n:Nat) (xs ys:List SV) (is:List Nat):Option SB:=
 List.rec (motive:=fun _=>Option SB) (some (.c true)) (fun i _ ih=>
  match partOf P e xs (Nat.mul i n),partOf P e ys (Nat.mul i n) with
  | some a,some b=>match rec e a b,ih with
    | some p,some q=>some (.and p q)
    | _,_=>none
  | _,_=>none) is
def eqB (p q:SB):SB:=.or (.and p q) (.and (.not p) (.not q))
def eqvS (cc:Cc) (ih:TypeId→SV→SV→Option SB) (t:TypeId) (x y:SV):Option SB:=
 match cc.P.underlying t,x,y with
 | some .bool,.bo p,.bo q=>some (eqB p q)
 | some (.int _),.it k a,.it k' b=>bif keq k k' then some (.eq a b) else none
 | some .string,.st a,.st b=>some (.seq a b)
 | some (.pointer _),.pn,.pn=>some (.c true)
 | some (.pointer _),.pn,.pt _ _=>some (.c false)
 | some (.pointer _),.pt _ _,.pn=>some (.c false)
 | some (.slice _),.sn,.sn=>some (.c true)
 | some (.slice _),.sn,.sl _ _ _ _=>some (.c false)
 | some (.slice _),.sl _ _ _ _,.sn=>some (.c false)
 | some (.map _ _),.mn,.mn=>some (.c true)
 | some (.map _ _),.mn,.mp _=>some (.c false)
 | some (.map _ _),.mp _,.mn=>some (.c false)
 | some (.func _ _ _),.fz,.fz=>some (.c true)
 | some (.func _ _ _),.fz,.fn _ _ _=>some (.c false)
 | some (.func _ _ _),.fn _ _ _,.fz=>some (.c false)
 | some (.struct fs),.ag xs,.ag ys=>bif lmem cc.eqt t then eqFs cc.P ih xs ys fs.toList else none
 | some (.array n e),.ag xs,.ag ys=>match aggOf cc.P e with
   | some (_,sz)=>eqIs cc.P ih e sz xs ys (List.range n)
   | none=>none
 | _,_,_=>none
def eqv (cc:Cc) (d:Nat):TypeId→SV→SV→Option SB:=
 Nat.rec (motive:=fun _=>TypeId→SV→SV→Option SB) (fun _ _ _=>none) (fun _ ih=>eqvS cc ih) d
def EqOk (cc:Cc) (C:Ct) (ρ:Dyn) (w:World) (d:Nat) (rec:TypeId→SV→SV→Option SB):Prop:=
 ∀ t x y p u v,rec t x y=some p→x.Is C.σ ρ u→y.Is C.σ ρ v→∃ b,p.den C.σ ρ=some b∧(Op.equalIn d t u v).run cc.P w=.ok b w
theorem and_den {p q:SB} {a b:Bool} (hp:p.den C.σ ρ=some a) (hq:q.den C.σ ρ=some b):(SB.and p q).den C.σ ρ=some (a && b):=by simp [SB.den,hp,hq]
theorem eqFs_ok {d:Nat} {rec:TypeId→SV→SV→Option SB} (hrec:EqOk cc C ρ w d rec) {xs ys:List SV} {us vs:List Value} (hx:SV.IsL C.σ ρ xs us) (hy:SV.IsL C.σ ρ ys vs) :
  ∀ {fs:List Field} {p:SB},(∀ f∈fs,f.name ≠ "_")→eqFs cc.P rec xs ys fs=some p→∃ b,p.den C.σ ρ=some b∧(Op.eqFields d us.toArray vs.toArray fs).run cc.P w=.ok b w
 | [],p,_,h=>by
   have h':some (SB.c true)=some p:=h
   cases h'
   exact ⟨true,rfl,rfl⟩
 | f::fs,p,hn,h=>by
   have h':(match partOf cc.P f.type xs f.offset,partOf cc.P f.type ys f.offset with
    | some a,some b=>match rec f.type a b,eqFs cc.P rec xs ys fs with
      | some p,some q=>some (SB.and p q)
      | _,_=>none
    | _,_=>none)=some p:=h
   split at h'
   ·rename_i a b ha hb
    split at h'
    ·rename_i p1 q1 h1 h2
     cases h'
     obtain ⟨u,e1,e2⟩:=partOf_ok hx ha w
     obtain ⟨v,e3,e4⟩:=partOf_ok hy hb w
     obtain ⟨b1,e5,e6⟩:=hrec f.type a b p1 u v h1 e2 e4
     obtain ⟨b2,e7,e8⟩:=eqFs_ok hrec hx hy (fun g hg=>hn g (by simp [hg])) h2
     refine ⟨b1 && b2,and_den e5 e7,?_⟩
     simp only [Op.eqFields]
     rw [if_pos (hn f (by simp))]
     simp only [Sem.run_bind,e1,e3,e6,Result.andThen_ok,Sem.run_ite]
     cases b1
     ·simp
     ·simp [e8]
    ·cases h'
   ·cases h'
theorem eqIs_ok {d:Nat} {rec:TypeId→SV→SV→Option SB} (hrec:EqOk cc C ρ w d rec) {e n:Nat} {xs ys:List SV} {us vs:List Value} (hx:SV.IsL C.σ ρ xs us) (hy:SV.IsL C.σ ρ ys vs) :
  ∀ {is:List Nat} {p:SB},eqIs cc.P rec e n xs ys is=some p→∃ b,p.den C.σ ρ=some b∧(Op.eqItems d e n us.toArray vs.toArray is).run cc.P w=.ok b w
 | [],p,h=>by
   have h':some (SB.c true)=some p:=h
   cases h'
   exact ⟨true,rfl,rfl⟩
 | i::is,p,h=>by
   have h':(match partOf cc.P e xs (Nat.mul i n),partOf cc.P e ys (Nat.mul i n) with
    | some a,some b=>match rec e a b,eqIs cc.P rec e n xs ys is with
      | some p,some q=>some (SB.and p q)
      | _,_=>none
    | _,_=>none)=some p:=h
   split at h'
   ·rename_i a b ha hb
    split at h'
    ·rename_i p1 q1 h1 h2
     cases h'
     obtain ⟨u,e1,e2⟩:=partOf_ok hx ha w
     obtain ⟨v,e3,e4⟩:=partOf_ok hy hb w
     have e1':(part e us.toArray (i * n)).run cc.P w=.ok u w:=e1
     have e3':(part e vs.toArray (i * n)).run cc.P w=.ok v w:=e3
     obtain ⟨b1,e5,e6⟩:=hrec e a b p1 u v h1 e2 e4
     obtain ⟨b2,e7,e8⟩:=eqIs_ok hrec hx hy h2
     refine ⟨b1 && b2,and_den e5 e7,?_⟩
     simp only [Op.eqItems]
     simp only [Sem.run_bind,e1',e3',e6,Result.andThen_ok,Sem.run_ite]
     cases b1
     ·simp
     ·simp [e8]
    ·cases h'
   ·cases h'
theorem eqB_den {p q:SB} {a b:Bool} (hp:p.den C.σ ρ=some a) (hq:q.den C.σ ρ=some b):(eqB p q).den C.σ ρ=some (a == b):=by
 simp [eqB,SB.den,hp,hq]
 cases a<;>cases b<;>rfl
theorem eqv_ok (hcc:cc.Ok C) (w:World):∀ (n d:Nat),n≤d→EqOk cc C ρ w d (eqv cc n)
 | 0,_,_=>fun _ _ _ _ _ _ h=>by cases h
 | n+1,d,hd=>by
   obtain ⟨d,rfl⟩:∃ d',d=d'+1:=⟨d - 1,by omega⟩
   have ih:=eqv_ok hcc w n d (by omega)
   intro t x y p u v h hx hy
   have h':eqvS cc (eqv cc n) t x y=some p:=h
   clear h
   unfold eqvS at h'
   split at h'<;>(try cases h')<;>rename_i hu
   ·simp only [SV.Is] at hx hy
    obtain ⟨a,ha,rfl⟩:=hx;obtain ⟨b,hb,rfl⟩:=hy
    exact ⟨a == b,eqB_den ha hb,run_equalIn_bool w d t a b hu⟩
   ·rename_i k a k' b
    cases hk:keq k k' with
    | false=>rw [hk] at h';cases h'
    | true=>
      rw [hk] at h';cases h'
      have:=keq_eq hk;subst this
      simp only [SV.Is] at hx hy
      obtain ⟨a',ha,rfl⟩:=hx;obtain ⟨b',hb,rfl⟩:=hy
      refine ⟨decide (a'=b'),by simp [SB.den,ha,hb],?_⟩
      rw [run_equalIn_int w d t k _ a' b' hu]
      rfl
   ·simp only [SV.Is] at hx hy
    subst hx;subst hy
    exact ⟨_,rfl,run_equalIn_string w d t _ _ hu⟩
   ·simp only [SV.Is] at hx hy;subst hx;subst hy;exact ⟨_,rfl,by simp [Op.equalIn,run_underlying hu]⟩
   ·simp only [SV.Is] at hx hy;subst hx;obtain ⟨_,_,_,_,rfl⟩:=hy;exact ⟨_,rfl,by simp [Op.equalIn,run_underlying hu]⟩
   ·simp only [SV.Is] at hx hy;subst hy;obtain ⟨_,_,_,_,rfl⟩:=hx;exact ⟨_,rfl,by simp [Op.equalIn,run_underlying hu]⟩
   ·simp only [SV.Is] at hx hy;subst hx;subst hy;exact ⟨_,rfl,by simp [Op.equalIn,run_underlying hu]⟩
   ·simp only [SV.Is] at hx hy;subst hx;obtain ⟨_,_,_,_,_,_,_,_,rfl⟩:=hy;exact ⟨_,rfl,by simp [Op.equalIn,run_underlying hu]⟩
   ·simp only [SV.Is] at hx hy;subst hy;obtain ⟨_,_,_,_,_,_,_,_,rfl⟩:=hx;exact ⟨_,rfl,by simp [Op.equalIn,run_underlying hu]⟩
   ·simp only [SV.Is] at hx hy;subst hx;subst hy;exact ⟨_,rfl,by simp [Op.equalIn,run_underlying hu]⟩
   ·simp only [SV.Is] at hx hy;subst hx;obtain ⟨_,_,rfl⟩:=hy;exact ⟨_,rfl,by simp [Op.equalIn,run_underlying hu]⟩
   ·simp only [SV.Is] at hx hy;subst hy;obtain ⟨_,_,rfl⟩:=hx;exact ⟨_,rfl,by simp [Op.equalIn,run_underlying hu]⟩
   ·simp only [SV.Is] at hx hy;subst hx;subst hy;exact ⟨_,rfl,by simp [Op.equalIn,run_underlying hu]⟩
   ·simp only [SV.Is] at hx hy;subst hx;obtain ⟨_,_,_,_,rfl⟩:=hy;exact ⟨_,rfl,by simp [Op.equalIn,run_underlying hu]⟩
   ·simp only [SV.Is] at hx hy;subst hy;obtain ⟨_,_,_,_,rfl⟩:=hx;exact ⟨_,rfl,by simp [Op.equalIn,run_underlying hu]⟩
   ·rename_i fs xs ys
    cases hm:lmem cc.eqt t with
    | false=>rw [hm] at h';cases h'
    | true=>
      rw [hm] at h'
      simp only [cond_true] at h'
      obtain ⟨q1,_,q3⟩:=hcc.eqt t (lmem_iff.1 hm)
      simp only [SV.Is] at hx hy
      obtain ⟨us,hx',rfl⟩:=hx
      obtain ⟨vs,hy',rfl⟩:=hy
      have hfs:cc.P.fieldsOf t=fs:=by simp [Program.fieldsOf,hu]
      obtain ⟨b,e1,e2⟩:=eqFs_ok ih hx' hy' (q3 fs hu) h'
      refine ⟨b,e1,?_⟩
      rw [run_equalIn_struct w d t _ _ (by rw [hfs];exact hu) q1,hfs]
      exact e2
   ·rename_i m e xs ys
    split at h'
    ·rename_i g sz ha
     obtain ⟨_,_,i,hi,hsz⟩:=aggOf_ok ha w
     simp only [SV.Is] at hx hy
     obtain ⟨us,hx',rfl⟩:=hx
     obtain ⟨vs,hy',rfl⟩:=hy
     obtain ⟨b,e1,e2⟩:=eqIs_ok ih hx' hy' h'
     refine ⟨b,e1,?_⟩
     rw [run_equalIn_array w d _ _ hu hi]
     have:cc.P.cellsOf e=sz:=by simp [Program.cellsOf,hi,hsz]
     rw [this]
     exact e2
    ·cases h'
end
end
end Go.Sx
namespace Go.Sx
noncomputable section
set_option linter.unusedVariables false
set_option linter.unusedSimpArgs false
open Go.RowKit
inductive OpR where
 | val (z:SV) (H:Hp)
 | enter (f:FuncId) (args:List SV)
 | round (id:Nat) (args:List SV)
 | ask (p:SB)
 | bad (why:Nat)
section
variable {cc:Cc} {C:Ct} {hc:Nat→Option Obj} {w0:World} {ρ ρ':Dyn} {H:Hp} {w:World}
def OpR.Ok (cc:Cc) (C:Ct) (hc:Nat→Option Obj) (w0:World) (ρ:Dyn) (H:Hp) (w:World) (s:Sem Next):OpR→Prop
 | .val z H'=>∃ ρ' n u w',Tn ρ H w ρ' H' w'∧s.run cc.P w=.ok n w'∧(n=.value u∨(n=.skip∧u=undef))∧z.Is C.σ ρ' u∧HpRel C hc w0 ρ' H' w'
 | .enter f args=>∃ us,s.run cc.P w=.ok (.enter f us.toArray) w∧SV.IsL C.σ ρ args us∧∃ fn c,cc.P.funcs[f]? = some fn∧fn.body=some c
 | .round id args=>∃ b us,ρ.bl id=some b∧s.run cc.P w=(Instr.yield b us.toArray).run cc.P w∧SV.IsL C.σ ρ args us
 | .ask p=>∃ b,p.den C.σ ρ=some b
 | .bad _=>True
theorem OpR.ok_pure (h:HpRel C hc w0 ρ H w) {s:Sem Value} {z:SV} {u:Value} (hr:s.run cc.P w=.ok u w) (hz:z.Is C.σ ρ u) :
  (OpR.val z H).Ok cc C hc w0 ρ H w (do pure (.value (← s))):=
 ⟨ρ,.value u,u,w,Tn.refl ρ H w,by simp [hr],.inl rfl,hz,h⟩
def ev (T:List (Nat×SV)) (x:Operand):SV:=
 match x with
 | .tmp t=>match get T t with | some z=>z | none=>.any
 | .const v=>ofVal v
 | .global g=>.pt (.g g) (.c 0)
 | .func f=>.fn f [] []
def evs (T:List (Nat×SV)) (xs:Array Operand):List SV:=lmap (ev T) xs.toList
def EvOk (C:Ct) (ρ:Dyn) (T:List (Nat×SV)) (e:Operand→Value):Prop:=∀ x,(ev T x).Is C.σ ρ (e x)
theorem evs_is {T:List (Nat×SV)} {e:Operand→Value} (h:EvOk C ρ T e) (xs:Array Operand):SV.IsL C.σ ρ (evs T xs) (xs.map e).toList:=by
 unfold evs
 rw [lmap_eq,Array.toList_map]
 generalize xs.toList=l
 induction l with
 | nil=>simp [SV.isL_nil]
 | cons a l ih=>exact SV.isL_cons.2 ⟨e a,l.map e,rfl,h a,ih⟩
theorem evOk_of {nt:Nat} {T:List (Nat×SV)} {a:Act} (h:TmRel C.σ ρ nt T a.tmps):EvOk C ρ T a.eval:=by
 intro x
 cases x with
 | tmp t=>
   simp only [ev,Act.eval]
   cases hg:get T t with
   | none=>simp [SV.Is]
   | some z=>exact h.get t z hg
 | const v=>exact ofVal_is v
 | global g=>simp only [ev,Act.eval,SV.Is];exact ⟨g,0,rfl,rfl,rfl⟩
 | func f=>simp only [ev,Act.eval,SV.Is,SV.IsL];exact ⟨[],[],rfl,rfl,rfl⟩
def nrm (cc:Cc) (H:Hp) (p:SB):SB:=match dec (bdOf cc H) H.facts p with | .yes b=>.c b | .ask _=>p
theorem nrm_den (hcc:cc.Ok C) (h:HpRel C hc w0 ρ H w) {p:SB} {b:Bool} (hp:p.den C.σ ρ=some b):(nrm cc H p).den C.σ ρ=some b:=by
 unfold nrm
 split
 ·rename_i b' e
  rw [dec_ok (bdOf_ok hcc h) h.facts hp e];rfl
 ·exact hp
def newV (H:Hp) (t:TypeId) (x:SV):OpR:=
 match x.cells with
 | some cs=>.val (.pt (.n H.nb) (.c 0)) (H.alloc (.cells cs t))
 | none=>.bad 1
theorem newV_ok (h:HpRel C hc w0 ρ H w) {t:TypeId} {x:SV} {u:Value} (hx:x.Is C.σ ρ u) :
  (newV H t x).Ok cc C hc w0 ρ H w (do pure (.value (← (do pure (.pointer (some (← newVar t u)))) ))):=by
 unfold newV
 split
 ·rename_i cs hcs
  have hle:=h.le_alloc w.heap.size
  refine ⟨ρ.setBl H.nb w.heap.size,.value (.pointer (some ⟨w.heap.size,0,none⟩)),.pointer (some ⟨w.heap.size,0,none⟩),w.alloc (.cells u.cells t),Tn.of_alloc ρ H w _ _,?_,.inl rfl,?_,?_⟩
  ·simp [newVar,newRow]
  ·simp only [SV.Is,SR.den];exact ⟨_,0,Dyn.setBl_same _ _ _,rfl,rfl⟩
  ·exact h.alloc' ⟨u.cells.toList,SV.isL_mono hle _ _ (SV.cells_is hx hcs),by simp⟩
 ·trivial
def opAlloc (cc:Cc) (H:Hp) (t:TypeId):OpR:=
 match cc.P.info? t with
 | some i=>match i.zero with
   | some z=>newV H t (ofVal z)
   | none=>.bad 2
 | none=>.bad 3
theorem opAlloc_ok (h:HpRel C hc w0 ρ H w) (t:TypeId):(opAlloc cc H t).Ok cc C hc w0 ρ H w (do pure (.value (← Instr.alloc t true (.tuple #[])))):=by
 unfold opAlloc
 split
 ·rename_i i hi
  split
  ·rename_i z hz
   have:=newV_ok (cc:=cc) h (t:=t) (ofVal_is (σ:=C.σ) (ρ:=ρ) z)
   generalize newV H t (ofVal z)=r at this ⊢
   have hrun:(do pure (Next.value (← Instr.alloc t true (.tuple #[]))):Sem Next).run cc.P w=(do pure (Next.value (← (do pure (.pointer (some (← newVar t z))):Sem Value))):Sem Next).run cc.P w:=by
    simp [Instr.alloc,zeroValue,typeInfo,hi,hz]
   cases r<;>simp only [OpR.Ok] at this ⊢<;>first | exact this | (rw [hrun];exact this)
  ·trivial
 ·trivial
def symInt (cc:Cc) (H:Hp) (op:BinOp) (k:IntKind) (a:SI) (k':IntKind) (b:SI):OpR:=
 match op with
 | .shl=>match dec (bdOf cc H) H.facts (.lt b (.c 0)) with
   | .yes false=>.val (.it k (SI.bop (.shl k) a b)) H
   | .yes true=>.bad 10
   | .ask p=>.ask p
 | .shr=>match dec (bdOf cc H) H.facts (.lt b (.c 0)) with
   | .yes false=>.val (.it k (SI.bop (.shr k) a b)) H
   | .yes true=>.bad 11
   | .ask p=>.ask p
 | op=>bif keq k k' then
   match op with
   | .add=>.val (.it k (SI.wr (bdOf cc H) k (SI.add a b))) H
   | .sub=>.val (.it k (SI.wr (bdOf cc H) k (SI.sub a b))) H
   | .mul=>.val (.it k (SI.wr (bdOf cc H) k (SI.mul a b))) H
   | .quo=>match dec (bdOf cc H) H.facts (.eq b (.c 0)) with
     | .yes false=>.val (.it k (SI.wr (bdOf cc H) k (SI.bop .tdiv a b))) H
     | .yes true=>.bad 12
     | .ask p=>.ask p
   | .rem=>match dec (bdOf cc H) H.facts (.eq b (.c 0)) with
     | .yes false=>.val (.it k (SI.bop .tmod a b)) H
     | .yes true=>.bad 13
     | .ask p=>.ask p
   | .and=>.val (.it k (SI.bop (.band k) a b)) H
   | .or=>.val (.it k (SI.bop (.bor k) a b)) H
   | .xor=>.val (.it k (SI.bop (.bxor k) a b)) H
   | .andNot=>.val (.it k (SI.bop (.bandn k) a b)) H
   | .eql=>.val (.bo (nrm cc H (.eq a b))) H
   | .neq=>.val (.bo (nrm cc H (.not (.eq a b)))) H
   | .lss=>.val (.bo (nrm cc H (.lt a b))) H
   | .leq=>.val (.bo (nrm cc H (.le a b))) H
   | .gtr=>.val (.bo (nrm cc H (.lt b a))) H
   | .geq=>.val (.bo (nrm cc H (.le b a))) H
   | _=>.bad 14
 else .bad 15
theorem symInt_ok (hcc:cc.Ok C) (h:HpRel C hc w0 ρ H w) {op:BinOp} {k k':IntKind} {a b:SI} {x y:Int} (t:TypeId) (ha:a.den C.σ ρ=some x) (hb:b.den C.σ ρ=some y) :
  (symInt cc H op k a k' b).Ok cc C hc w0 ρ H w (do pure (.value (← binOp op t (.int k x) (.int k' y)))):=by
 have cmp:∀ p c,p.den C.σ ρ=some c→∀ s:Sem Value,s.run cc.P w=.ok (.bool c) w→(OpR.val (.bo (nrm cc H p)) H).Ok cc C hc w0 ρ H w (do pure (.value (← s))):=fun p c hp s hs=>
  OpR.ok_pure h hs (by simp only [SV.Is];exact ⟨c,nrm_den hcc h hp,rfl⟩)
 have int:∀ k (e:SI) c,e.den C.σ ρ=some c→∀ s:Sem Value,s.run cc.P w=.ok (.int k c) w→(OpR.val (.it k e) H).Ok cc C hc w0 ρ H w (do pure (.value (← s))):=fun k e c hp s hs=>
  OpR.ok_pure h hs (by simp only [SV.Is];exact ⟨c,hp,rfl⟩)
 have hlt:(SB.lt b (.c 0)).den C.σ ρ=some (decide (y < 0)):=by simp [SB.den,hb,SI.den]
 have heq:(SB.eq b (.c 0)).den C.σ ρ=some (decide (y=0)):=by simp [SB.den,hb,SI.den]
 unfold symInt
 split
 ·split
  ·rename_i e
   have:=dec_ok (bdOf_ok hcc h) h.facts hlt e
   have hy:¬ y < 0:=by simpa using this.symm
   exact int k _ _ (SI.bop_den (f:=.shl k) ha hb) _ (by simp [binOp,Op.shift,hy,IB.eval])
  ·trivial
  ·rename_i p e
   exact ask_den (bdOf_ok hcc h) h.facts hlt e
 ·split
  ·rename_i e
   have:=dec_ok (bdOf_ok hcc h) h.facts hlt e
   have hy:¬ y < 0:=by simpa using this.symm
   exact int k _ _ (SI.bop_den (f:=.shr k) ha hb) _ (by simp [binOp,Op.shift,hy,IB.eval])
  ·trivial
  ·rename_i p e
   exact ask_den (bdOf_ok hcc h) h.facts hlt e
 ·rename_i hn1 hn2
  cases hk:keq k k' with
  | false=>trivial
  | true=>
    have:=keq_eq hk;subst this
    simp only [cond_true]
    split
    ·exact int k _ _ (SI.wr_den (bdOf_ok hcc h) (SI.add_den ha hb)) _ (by simp [binOp,Op.intArith])
    ·exact int k _ _ (SI.wr_den (bdOf_ok hcc h) (SI.sub_den ha hb)) _ (by simp [binOp,Op.intArith])
    ·exact int k _ _ (SI.wr_den (bdOf_ok hcc h) (SI.mul_den ha hb)) _ (by simp [binOp,Op.intArith])
    ·split
     ·rename_i e
      have:=dec_ok (bdOf_ok hcc h) h.facts heq e
      have hy:¬ y=0:=by simpa using this.symm
      exact int k _ _ (SI.wr_den (bdOf_ok hcc h) (SI.bop_den (f:=.tdiv) ha hb)) _ (by simp [binOp,Op.intDiv,hy,IB.eval])
     ·trivial
     ·rename_i p e
      exact ask_den (bdOf_ok hcc h) h.facts heq e
    ·split
     ·rename_i e
      have:=dec_ok (bdOf_ok hcc h) h.facts heq e
      have hy:¬ y=0:=by simpa using this.symm
      exact int k _ _ (SI.bop_den (f:=.tmod) ha hb) _ (by simp [binOp,Op.intDiv,hy,IB.eval])
     ·trivial
     ·rename_i p e
      exact ask_den (bdOf_ok hcc h) h.facts heq e
    ·exact int k _ _ (SI.bop_den (f:=.band k) ha hb) _ (by simp [binOp,Op.intBits,IB.eval])
    ·exact int k _ _ (SI.bop_den (f:=.bor k) ha hb) _ (by simp [binOp,Op.intBits,IB.eval])
    ·exact int k _ _ (SI.bop_den (f:=.bxor k) ha hb) _ (by simp [binOp,Op.intBits,IB.eval])
    ·exact int k _ _ (SI.bop_den (f:=.bandn k) ha hb) _ (by simp [binOp,Op.intBits,IB.eval])
    ·exact cmp _ (decide (x=y)) (by simp [SB.den,ha,hb]) _ (by simp [binOp,Op.intCmp];rfl)
    ·exact cmp _ (!decide (x=y)) (by simp [SB.den,ha,hb]) _ (by simp [binOp,Op.intCmp];rfl)
    ·exact cmp _ _ (by simp [SB.den,ha,hb];rfl) _ (by simp [binOp,Op.intCmp])
    ·exact cmp _ _ (by simp [SB.den,ha,hb];rfl) _ (by simp [binOp,Op.intCmp])
    ·exact cmp _ _ (by simp [SB.den,ha,hb];rfl) _ (by simp [binOp,Op.intCmp])
    ·exact cmp _ _ (by simp [SB.den,ha,hb];rfl) _ (by simp [binOp,Op.intCmp])
    ·trivial
def eqIf (cc:Cc) (H:Hp) (op:BinOp) (t:TypeId) (r need:Bool):OpR:=
 match cc.P.underlying t with
 | some (.interface ms)=>bif (bif need then ms.isEmpty else true) then (match op with
   | .eql=>.val (.bo (.c r)) H
   | .neq=>.val (.bo (.c (!r))) H
   | _=>.bad 26) else .bad 27
 | _=>.bad 28
def symBin (cc:Cc) (H:Hp) (op:BinOp) (t:TypeId) (x y:SV):OpR:=
 match x,y with
 | .it k a,.it k' b=>symInt cc H op k a k' b
 | .st a,.st b=>match op with
   | .eql=>.val (.bo (nrm cc H (.seq a b))) H
   | .neq=>.val (.bo (nrm cc H (.not (.seq a b)))) H
   | _=>.bad 20
 | .bo p,.bo q=>match op,eqv cc 9 t (.bo p) (.bo q) with
   | .eql,some r=>.val (.bo (nrm cc H r)) H
   | .neq,some r=>.val (.bo (nrm cc H (.not r))) H
   | _,_=>.bad 21
 | .ag xs,.ag ys=>bif lmem cc.eqt t then (match op,eqv cc 9 t (.ag xs) (.ag ys) with
   | .eql,some r=>.val (.bo (nrm cc H r)) H
   | .neq,some r=>.val (.bo (nrm cc H (.not r))) H
   | _,_=>.bad 22) else .bad 23
 | .pn,.pn | .pn,.pt _ _ | .pt _ _,.pn | .sn,.sn | .sn,.sl _ _ _ _ | .sl _ _ _ _,.sn | .mn,.mn | .mn,.mp _ | .mp _,.mn | .fz,.fz | .fz,.fn _ _ _ | .fn _ _ _,.fz=>
   match op,eqv cc 9 t x y with
   | .eql,some r=>.val (.bo (nrm cc H r)) H
   | .neq,some r=>.val (.bo (nrm cc H (.not r))) H
   | _,_=>.bad 24
 | .fc _ _,.fcn=>eqIf cc H op t false false
 | .fcn,.fc _ _=>eqIf cc H op t false false
 | .fcn,.fcn=>eqIf cc H op t true true
 | _,_=>.bad 25
theorem eqGuard_plain {op:BinOp} {t:TypeId} {x y:Operand} {u v:Value} (hu:∀ cs,u≠.agg cs) (hn:u≠.nilIface):eqGuard op t x y u v=pure ():=by
 cases op<;>cases u<;>first | rfl | (exact absurd rfl hn) | (exact absurd rfl (hu _))
theorem eqIf_ok (h:HpRel C hc w0 ρ H w) {op:BinOp} {u v:Value} (t:TypeId) (ox oy:Operand) {r need:Bool}
  (hg:∀ ms,cc.P.underlying t=some (.interface ms)→(need=true→ms.isEmpty=true)→(eqGuard op t ox oy u v).run cc.P w=.ok () w)
  (he:∀ ms,cc.P.underlying t=some (.interface ms)→(Op.equal t u v).run cc.P w=.ok r w)
  (hb:∀ op',op'=BinOp.eql∨op'=.neq→binOp op' t u v=(match op' with
   | .eql=>do pure (.bool (← Op.equal t u v))
   | _=>do pure (.bool (!(← Op.equal t u v))))) :
  (eqIf cc H op t r need).Ok cc C hc w0 ρ H w (do pure (.value (← (do eqGuard op t ox oy u v;binOp op t u v)))):=by
 unfold eqIf
 split
 ·rename_i ms hms
  cases hn:(bif need then ms.isEmpty else true) with
  | false=>trivial
  | true=>
    have hg':=hg ms hms (fun e=>by rw [e] at hn;exact hn)
    have he':=he ms hms
    simp only [cond_true]
    split
    ·refine OpR.ok_pure h (u:=.bool r) ?_ (by simp only [SV.Is];exact ⟨r,rfl,rfl⟩)
     simp only [Sem.run_bind,hg',Result.andThen_ok,hb .eql (.inl rfl),he',Sem.run_pure]
    ·refine OpR.ok_pure h (u:=.bool (!r)) ?_ (by simp only [SV.Is];exact ⟨!r,rfl,rfl⟩)
     simp only [Sem.run_bind,hg',Result.andThen_ok,hb .neq (.inr rfl),he',Sem.run_pure]
    ·trivial
 ·trivial
theorem run_equalIn_nn {P:Program} {w:World} {t:TypeId} {d:Nat} {ms:Array (String×TypeId)} (hms:P.underlying t=some (.interface ms)):(Op.equalIn (d+1) t .nilIface .nilIface).run P w=.ok true w:=by
 simp [Op.equalIn,underlying,hms]
theorem run_equalIn_ni {P:Program} {w:World} {t t':TypeId} {x:Value} {d:Nat} {ms:Array (String×TypeId)} (hms:P.underlying t=some (.interface ms)):(Op.equalIn (d+1) t .nilIface (.iface t' x)).run P w=.ok false w:=by
 simp [Op.equalIn,underlying,hms]
theorem run_equalIn_in {P:Program} {w:World} {t t':TypeId} {x:Value} {d:Nat} {ms:Array (String×TypeId)} (hms:P.underlying t=some (.interface ms)):(Op.equalIn (d+1) t (.iface t' x) .nilIface).run P w=.ok false w:=by
 simp [Op.equalIn,underlying,hms]
theorem run_guardIn_nn {P:Program} {w:World} {t:TypeId} {d:Nat} {ms:Array (String×TypeId)} (hms:P.underlying t=some (.interface ms)) (hn:ms.isEmpty=true):(Op.eqGuardIn (d+1) t .nilIface .nilIface).run P w=.ok false w:=by
 simp [Op.eqGuardIn,underlying,hms,hn]
theorem run_eqGuard_nil {P:Program} {w:World} {op:BinOp} {t:TypeId} {ox oy:Operand} {ms:Array (String×TypeId)} (hms:P.underlying t=some (.interface ms)) (hn:ms.isEmpty=true):(eqGuard op t ox oy .nilIface .nilIface).run P w=.ok () w:=by
 have hg:(Op.eqGuardIn Op.maxDepth t .nilIface .nilIface).run P w=.ok false w:=run_guardIn_nn (d:=9999) hms hn
 unfold eqGuard
 cases op
 case eql=>simp only [Bool.not_true,Bool.false_eq_true,if_false];split<;>simp [hg]
 case neq=>simp only [Bool.not_true,Bool.false_eq_true,if_false];split<;>simp [hg]
 all_goals rfl
theorem symBin_ok (hcc:cc.Ok C) (h:HpRel C hc w0 ρ H w) {op:BinOp} {x y:SV} {u v:Value} (t:TypeId) (ox oy:Operand) (hx:x.Is C.σ ρ u) (hy:y.Is C.σ ρ v) :
  (symBin cc H op t x y).Ok cc C hc w0 ρ H w (do pure (.value (← (do eqGuard op t ox oy u v;binOp op t u v)))):=by
 have cmp:∀ p c,p.den C.σ ρ=some c→∀ s:Sem Value,s.run cc.P w=.ok (.bool c) w→(OpR.val (.bo (nrm cc H p)) H).Ok cc C hc w0 ρ H w (do pure (.value (← s))):=fun p c hp s hs=>
  OpR.ok_pure h hs (by simp only [SV.Is];exact ⟨c,nrm_den hcc h hp,rfl⟩)
 have viaEq:∀ r,eqv cc 9 t x y=some r→∃ b,r.den C.σ ρ=some b∧(Op.equal t u v).run cc.P w=.ok b w:=fun r hr=>eqv_ok hcc w 9 10000 (by omega) t x y r u v hr hx hy
 have two:∀ r,eqv cc 9 t x y=some r→(eqGuard op t ox oy u v).run cc.P w=.ok () w→(∀ op',op'=BinOp.eql∨op'=.neq→binOp op' t u v=(match op' with
   | .eql=>do pure (.bool (← Op.equal t u v))
   | _=>do pure (.bool (!(← Op.equal t u v)))))→
   (match op,some r with
    | .eql,some r=>OpR.val (.bo (nrm cc H r)) H
    | .neq,some r=>.val (.bo (nrm cc H (.not r))) H
    | _,_=>.bad 24).Ok cc C hc w0 ρ H w (do pure (.value (← (do eqGuard op t ox oy u v;binOp op t u v)))):=by
  intro r hr hg hb
  obtain ⟨b,e1,e2⟩:=viaEq r hr
  split
  ·rename_i r' _ _ he;cases he
   refine cmp _ b e1 _ ?_
   simp only [Sem.run_bind,hg,Result.andThen_ok,hb .eql (.inl rfl),e2,Sem.run_pure]
  ·rename_i r' _ _ he;cases he
   refine cmp _ (!b) (by simp [SB.den,e1]) _ ?_
   simp only [Sem.run_bind,hg,Result.andThen_ok,hb .neq (.inr rfl),e2,Sem.run_pure]
  ·trivial
 unfold symBin
 split
 ·rename_i k a k' b
  simp only [SV.Is] at hx hy
  obtain ⟨x',ha,rfl⟩:=hx
  obtain ⟨y',hb,rfl⟩:=hy
  have:=symInt_ok hcc h (op:=op) (k:=k) (k':=k') t ha hb
  have hr:∀ s:Next→Prop,True:=fun _=>trivial
  have hg:eqGuard op t ox oy (.int k x') (.int k' y')=pure ():=eqGuard_plain (by simp) (by simp)
  have he:(do pure (Next.value (← (do eqGuard op t ox oy (.int k x') (.int k' y');binOp op t (.int k x') (.int k' y')))):Sem Next)=(do pure (Next.value (← binOp op t (.int k x') (.int k' y')))):=by
   rw [hg];rfl
  rw [he];exact this
 ·rename_i a b
  simp only [SV.Is] at hx hy
  subst hx;subst hy
  have hg:(eqGuard op t ox oy (.string (a.den C.σ)) (.string (b.den C.σ))).run cc.P w=.ok () w:=by rw [eqGuard_plain (by simp) (by simp)];rfl
  split
  ·exact cmp _ ((a.den C.σ).toList == (b.den C.σ).toList) rfl _ (by simp [hg,binOp,Op.stringOp])
  ·exact cmp _ (!((a.den C.σ).toList == (b.den C.σ).toList)) rfl _ (by simp [hg,binOp,Op.stringOp])
  ·trivial
 ·rename_i p q
  cases he:eqv cc 9 t (.bo p) (.bo q) with
  | none=>split<;>first | trivial | (rename_i e;cases e)
  | some r=>
    have hx':=hx;have hy':=hy
    simp only [SV.Is] at hx' hy'
    obtain ⟨x',ha,rfl⟩:=hx'
    obtain ⟨y',hb,rfl⟩:=hy'
    have:=two r he (by rw [eqGuard_plain (by simp) (by simp)];rfl) (fun op' ho=>by rcases ho with rfl | rfl<;>rfl)
    cases op<;>first | exact this | trivial
 ·rename_i xs ys
  cases hm:lmem cc.eqt t with
  | false=>trivial
  | true=>
    obtain ⟨_,q2,_⟩:=hcc.eqt t (lmem_iff.1 hm)
    simp only [cond_true]
    cases he:eqv cc 9 t (.ag xs) (.ag ys) with
    | none=>split<;>first | trivial | (rename_i e;cases e)
    | some r=>
      have hx':=hx;have hy':=hy
      simp only [SV.Is] at hx' hy'
      obtain ⟨us,ha,rfl⟩:=hx'
      obtain ⟨vs,hb,rfl⟩:=hy'
      have:=two r he (run_eqGuard_agg w op t ox oy _ _ q2) (fun op' ho=>by rcases ho with rfl | rfl<;>rfl)
      cases op<;>first | exact this | trivial
 all_goals first
  | trivial
  | (obtain ⟨y',h1,rfl⟩:=hx
     have hy':v=.nilIface:=hy
     subst hy'
     exact eqIf_ok h t ox oy (fun ms hms _=>by cases op<;>rfl) (fun ms hms=>run_equalIn_in (d:=9999) hms) (fun op' ho=>by rcases ho with rfl | rfl<;>rfl))
  | (obtain ⟨y',h1,rfl⟩:=hy
     have hx':u=.nilIface:=hx
     subst hx'
     exact eqIf_ok h t ox oy (fun ms hms _=>by cases op<;>rfl) (fun ms hms=>run_equalIn_ni (d:=9999) hms) (fun op' ho=>by rcases ho with rfl | rfl<;>rfl))
  | (have hx':u=.nilIface:=hx
     subst hx'
     have hy':v=.nilIface:=hy
     subst hy'
     refine eqIf_ok h t ox oy (fun ms hms hn=>?_) (fun ms hms=>run_equalIn_nn (d:=9999) hms) (fun op' ho=>by rcases ho with rfl | rfl<;>rfl)
     exact run_eqGuard_nil hms (hn rfl))
  | (cases he:eqv cc 9 t _ _ with
     | none=>split<;>first | trivial | (rename_i e;cases e)
     | some r=>
       have hx':=hx;have hy':=hy
       simp only [SV.Is] at hx' hy'
       have:=two r he (by
        first
         | (subst hx';rw [eqGuard_plain (by simp) (by simp)];rfl)
         | (obtain ⟨_,_,_,_,rfl⟩:=hx';rw [eqGuard_plain (by simp) (by simp)];rfl)
         | (obtain ⟨_,_,_,_,_,_,_,_,rfl⟩:=hx';rw [eqGuard_plain (by simp) (by simp)];rfl)
         | (obtain ⟨_,_,rfl⟩:=hx';rw [eqGuard_plain (by simp) (by simp)];rfl)) (fun op' ho=>by
        (first | subst hx' | (obtain ⟨_,_,_,_,rfl⟩:=hx') | (obtain ⟨_,_,_,_,_,_,_,_,rfl⟩:=hx') | (obtain ⟨_,_,rfl⟩:=hx'))
        (first | subst hy' | (obtain ⟨_,_,_,_,rfl⟩:=hy') | (obtain ⟨_,_,_,_,_,_,_,_,rfl⟩:=hy') | (obtain ⟨_,_,rfl⟩:=hy'))
        rcases ho with rfl | rfl<;>rfl)
       cases op<;>first | exact this | trivial)
end
end
end Go.Sx
namespace Go.Sx
noncomputable section
set_option linter.unusedVariables false
set_option linter.unusedSimpArgs false
open Go.RowKit
section
variable {cc:Cc} {C:Ct} {hc:Nat→Option Obj} {w0:World} {ρ ρ':Dyn} {H:Hp} {w:World}
theorem OpR.ok_congr {s s':Sem Next} {r:OpR} (h:r.Ok cc C hc w0 ρ H w s') (e:s.run cc.P w=s'.run cc.P w):r.Ok cc C hc w0 ρ H w s:=by
 cases r<;>simp only [OpR.Ok] at h ⊢<;>first | trivial | (rw [e];exact h) | exact h
def opField (cc:Cc) (H:Hp) (t:TypeId) (x:SV) (f:Nat):OpR:=
 match cc.P.underlying t,x with
 | some (.struct fs),.pt r o=>match lnth fs.toList f with
   | some fd=>match aggOf cc.P fd.type with
     | some (_,n)=>bif Nat.beq n 0 then .bad 30 else .val (.pt r (SI.addc o (.ofNat fd.offset))) H
     | none=>.bad 31
   | none=>.bad 32
 | _,_=>.bad 33
theorem opField_ok (h:HpRel C hc w0 ρ H w) {t:TypeId} {x:SV} {u:Value} {f:Nat} (hx:x.Is C.σ ρ u):(opField cc H t x f).Ok cc C hc w0 ρ H w (do pure (.value (← Instr.fieldAt t u f))):=by
 unfold opField
 split
 ·rename_i fs r o hu
  split
  ·rename_i fd hf
   split
   ·rename_i g n ha
    cases hb:Nat.beq n 0 with
    | true=>trivial
    | false=>
      obtain ⟨_,h2,_⟩:=aggOf_ok ha w
      have hn:n≠0:=fun e=>by subst e;simp at hb
      simp only [SV.Is] at hx
      obtain ⟨b,k,e1,e2,rfl⟩:=hx
      rw [lnth_eq] at hf
      have hf':fs[f]? = some fd:=by simpa using hf
      refine OpR.ok_pure h (u:=.pointer (some ⟨b,k+fd.offset,none⟩)) ?_ ?_
      ·simp [Instr.fieldAt,underlying,hu,hf',Instr.sureAddr,fieldPlace,h2,hn,addr_add]
      ·simp only [SV.Is]
       exact ⟨b,k+fd.offset,e1,by rw [SI.addc_den e2];rfl,rfl⟩
   ·trivial
  ·trivial
 ·trivial
def opGetField (cc:Cc) (H:Hp) (t:TypeId) (x:SV) (f:Nat):OpR:=
 match cc.P.underlying t,x with
 | some (.struct fs),.ag l=>match lnth fs.toList f with
   | some fd=>match partOf cc.P fd.type l fd.offset with
     | some z=>.val z H
     | none=>.bad 34
   | none=>.bad 35
 | _,_=>.bad 36
theorem opGetField_ok (h:HpRel C hc w0 ρ H w) {t:TypeId} {x:SV} {u:Value} {f:Nat} (hx:x.Is C.σ ρ u):(opGetField cc H t x f).Ok cc C hc w0 ρ H w (do pure (.value (← Instr.field t u f))):=by
 unfold opGetField
 split
 ·rename_i fs l hu
  split
  ·rename_i fd hf
   split
   ·rename_i z hz
    simp only [SV.Is] at hx
    obtain ⟨us,e1,rfl⟩:=hx
    rw [lnth_eq] at hf
    have hf':fs[f]? = some fd:=by simpa using hf
    obtain ⟨v,e2,e3⟩:=partOf_ok e1 hz w
    refine OpR.ok_pure h (u:=v) ?_ e3
    simp [Instr.field,underlying,hu,hf',asAgg,e2]
   ·trivial
  ·trivial
 ·trivial
def need (cc:Cc) (H:Hp) (p:SB) (why:Nat) (r:OpR):OpR:=
 match dec (bdOf cc H) H.facts p with
 | .yes true=>r
 | .yes false=>.bad why
 | .ask q=>.ask q
theorem need_ok (hcc:cc.Ok C) (h:HpRel C hc w0 ρ H w) {p:SB} {b:Bool} {why:Nat} {r:OpR} {s:Sem Next} (hp:p.den C.σ ρ=some b) (hr:b=true→r.Ok cc C hc w0 ρ H w s):(need cc H p why r).Ok cc C hc w0 ρ H w s:=by
 unfold need
 split
 ·rename_i e;exact hr (dec_ok (bdOf_ok hcc h) h.facts hp e).symm
 ·trivial
 ·rename_i q e;exact ask_den (bdOf_ok hcc h) h.facts hp e
def opIndexAddr (cc:Cc) (H:Hp) (t:TypeId) (x ix:SV):OpR:=
 match cc.P.underlying t,x,ix with
 | some (.array n e),.pt r o,.it _ i=>match aggOf cc.P e with
   | some (_,sz)=>need cc H (.le (.c 0) i) 40 (need cc H (.lt i (.c (.ofNat n))) 41 (.val (.pt r (SI.add o (SI.mul i (.c (.ofNat sz))))) H))
   | none=>.bad 42
 | some (.slice e),.sl r o l _,.it _ i=>match aggOf cc.P e with
   | some (_,sz)=>need cc H (.le (.c 0) i) 43 (need cc H (.lt i l) 44 (.val (.pt r (SI.add o (SI.mul i (.c (.ofNat sz))))) H))
   | none=>.bad 45
 | _,_,_=>.bad 46
theorem idx_den {o i:SI} {k:Nat} {x:Int} {sz:Nat} (ho:o.den C.σ ρ=some (Int.ofNat k)) (hi:i.den C.σ ρ=some x) (hx:0≤x) :
  (SI.add o (SI.mul i (.c (.ofNat sz)))).den C.σ ρ=some (Int.ofNat (k+x.toNat * sz)):=by
 rw [SI.add_den ho (SI.mul_den hi rfl)]
 congr 1
 obtain ⟨n,rfl⟩:∃ n:Nat,x=n:=⟨x.toNat,by omega⟩
 simp
theorem le_den0 {i:SI} {x:Int} (hi:i.den C.σ ρ=some x):(SB.le (.c 0) i).den C.σ ρ=some (decide (0≤x)):=by simp [SB.den,SI.den,hi]
theorem opIndexAddr_ok (hcc:cc.Ok C) (h:HpRel C hc w0 ρ H w) {t:TypeId} {x ix:SV} {u v:Value} (hx:x.Is C.σ ρ u) (hi:ix.Is C.σ ρ v):(opIndexAddr cc H t x ix).Ok cc C hc w0 ρ H w (do pure (.value (← Instr.indexAt t u v))):=by
 unfold opIndexAddr
 split
 ·rename_i n e r o k i hu
  split
  ·rename_i g sz ha
   simp only [SV.Is] at hx hi
   obtain ⟨b,q,e1,e2,rfl⟩:=hx
   obtain ⟨y,e3,rfl⟩:=hi
   obtain ⟨_,h2,_⟩:=aggOf_ok ha w
   refine need_ok hcc h (le_den0 e3) fun h0=>?_
   refine need_ok hcc h (b:=decide (y < n)) (by simp [SB.den,SI.den,e3]) fun h1=>?_
   have h0':0≤y:=by simpa using h0
   have h1':y < n:=by simpa using h1
   refine OpR.ok_pure h (u:=.pointer (some ⟨b,q+y.toNat * sz,none⟩)) ?_ ?_
   ·simp [Instr.indexAt,asIntOf,underlying,hu,Instr.sureAddr,h0',h1',h2,addr_add]
   ·simp only [SV.Is];exact ⟨b,_,e1,idx_den e2 e3 h0',rfl⟩
  ·trivial
 ·rename_i e r o l c k i hu
  split
  ·rename_i g sz ha
   simp only [SV.Is] at hx hi
   obtain ⟨b,q,len,cap,e1,e2,e2l,e2c,rfl⟩:=hx
   obtain ⟨y,e3,rfl⟩:=hi
   obtain ⟨_,h2,_⟩:=aggOf_ok ha w
   refine need_ok hcc h (le_den0 e3) fun h0=>?_
   refine need_ok hcc h (b:=decide (y < Int.ofNat len)) (by simp [SB.den,e3,e2l]) fun h1=>?_
   have h0':0≤y:=by simpa using h0
   have h1':y < len:=by simpa using h1
   refine OpR.ok_pure h (u:=.pointer (some ⟨b,q+y.toNat * sz,none⟩)) ?_ ?_
   ·simp [Instr.indexAt,asIntOf,underlying,hu,h0',h1',h2,addr_add]
   ·simp only [SV.Is];exact ⟨b,_,e1,idx_den e2 e3 h0',rfl⟩
  ·trivial
 ·trivial
def pickS (cc:Cc) (H:Hp) (e sz:Nat) (l:List SV) (i:SI) (m':Nat) (ih:Nat→OpR) (j:Nat):OpR:=
 match m' with
 | 0=>match partOf cc.P e l (Nat.mul j sz) with | some z=>.val z H | none=>.bad 51
 | _=>match dec (bdOf cc H) H.facts (.eq i (.c (.ofNat j))) with
   | .yes true=>match partOf cc.P e l (Nat.mul j sz) with | some z=>.val z H | none=>.bad 52
   | .yes false=>ih (Nat.succ j)
   | .ask q=>.ask q
def pickAt (cc:Cc) (H:Hp) (e sz:Nat) (l:List SV) (i:SI) (m:Nat):Nat→OpR:=
 Nat.rec (motive:=fun _=>Nat→OpR) (fun _=>.bad 50) (fun m' ih=>pickS cc H e sz l i m' ih) m
def byteAt (s:ByteArray) (i:Int):Option UInt8:=match i with | .ofNat n=>s[n]? | .negSucc _=>none
def opIndex (cc:Cc) (H:Hp) (t:TypeId) (x ix:SV):OpR:=
 match cc.P.underlying t,x,ix with
 | some .string,.st (.c s),.it _ (.c i)=>match byteAt s i with
   | some b=>.val (.it .u8 (.c (.ofNat b.toNat))) H
   | none=>.bad 57
 | some (.array n e),.ag l,.it _ i=>match aggOf cc.P e with
   | some (_,sz)=>need cc H (.le (.c 0) i) 53 (need cc H (.lt i (.c (.ofNat n))) 54 (pickAt cc H e sz l i n 0))
   | none=>.bad 55
 | _,_,_=>.bad 56
theorem opIndex_ok (hcc:cc.Ok C) (h:HpRel C hc w0 ρ H w) {t:TypeId} {x ix:SV} {u v:Value} (hx:x.Is C.σ ρ u) (hi:ix.Is C.σ ρ v):(opIndex cc H t x ix).Ok cc C hc w0 ρ H w (do pure (.value (← Instr.index t u v))):=by
 unfold opIndex
 split
 ·rename_i s k i hu
  split
  ·rename_i b hb
   simp only [SV.Is,SS.den] at hx hi
   subst hx
   obtain ⟨y,e3,rfl⟩:=hi
   simp only [SI.den,Option.some.injEq] at e3
   subst e3
   refine OpR.ok_pure h (u:=.int .u8 b.toNat) ?_ (by simp only [SV.Is];exact ⟨_,rfl,rfl⟩)
   cases i with
   | ofNat n=>
     have hb':s[n]? = some b:=hb
     simp [Instr.index,asIntOf,underlying,hu,hb']
   | negSucc n=>cases hb
  ·trivial
 ·rename_i n e l k i hu
  split
  ·rename_i g sz ha
   simp only [SV.Is] at hx hi
   obtain ⟨us,e1,rfl⟩:=hx
   obtain ⟨y,e3,rfl⟩:=hi
   obtain ⟨_,h2,_⟩:=aggOf_ok ha w
   refine need_ok hcc h (le_den0 e3) fun h0=>?_
   refine need_ok hcc h (b:=decide (y < n)) (by simp [SB.den,SI.den,e3]) fun h1=>?_
   have h0':0≤y:=by simpa using h0
   have h1':y < n:=by simpa using h1
   have done:∀ j:Nat,y=j→∀ z,partOf cc.P e l (Nat.mul j sz)=some z→(OpR.val z H).Ok cc C hc w0 ρ H w (do pure (.value (← Instr.index t (.agg us.toArray) (.int k y)))):=by
    intro j hj z hz
    obtain ⟨v,e4,e5⟩:=partOf_ok e1 hz w
    have e4':(part e us.toArray (j * sz)).run cc.P w=.ok v w:=e4
    refine OpR.ok_pure h (u:=v) ?_ e5
    subst hj
    have hjn:j < n:=by omega
    simp [Instr.index,asIntOf,underlying,hu,hjn,h2,e4']
   have key:∀ (m j:Nat),(j:Int)≤y→y < (j:Int)+m→(pickAt cc H e sz l i m j).Ok cc C hc w0 ρ H w (do pure (.value (← Instr.index t (.agg us.toArray) (.int k y)))):=by
    intro m
    induction m with
    | zero=>intro j h3 h4;omega
    | succ m ih=>
      intro j h3 h4
      show OpR.Ok cc C hc w0 ρ H w _ (pickS cc H e sz l i m (pickAt cc H e sz l i m) j)
      have hd:(SB.eq i (.c (.ofNat j))).den C.σ ρ=some (decide (y=j)):=by simp [SB.den,SI.den,e3]
      cases m with
      | zero=>
        simp only [pickS]
        split
        ·rename_i z hz;exact done j (by omega) z hz
        ·trivial
      | succ m=>
        simp only [pickS]
        split
        ·rename_i he
         have:=dec_ok (bdOf_ok hcc h) h.facts hd he
         have hy:y=j:=by simpa using this.symm
         split
         ·rename_i z hz;exact done j hy z hz
         ·trivial
        ·rename_i he
         have:=dec_ok (bdOf_ok hcc h) h.facts hd he
         have hy:¬ y=j:=by simpa using this.symm
         exact ih (j+1) (by omega) (by omega)
        ·rename_i q he
         exact ask_den (bdOf_ok hcc h) h.facts hd he
   exact key n 0 (by omega) (by omega)
  ·trivial
 ·trivial
def bndE (x:Option SV) (d:SI):Option SI:=
 match x with
 | none=>some d
 | some (.it _ e)=>some e
 | some _=>none
def bndT (cc:Cc) (H:Hp) (x:Option SV) (e y:SI) (r:OpR):OpR:=
 match x with
 | none=>r
 | some _=>need cc H (.le (.c 0) e) 60 (need cc H (.le e y) 61 r)
def slc (cc:Cc) (H:Hp) (r:SR) (o l h m:SI) (sz:Nat):OpR:=
 match l with
 | .c 0=>.val (.sl r o h m) H
 | l=>match dec (bdOf cc H) H.facts (.eq m l) with
   | .yes true=>.val (.sl r o (SI.sub h l) (SI.sub m l)) H
   | .yes false=>.val (.sl r (SI.add o (SI.mul l (.c (.ofNat sz)))) (SI.sub h l) (SI.sub m l)) H
   | .ask _=>match dec (bdOf cc H) H.facts (.eq h l) with
     | .yes true=>.val (.sl r (SI.add o (SI.mul (SI.mul l (.c (.ofNat sz))) (.op .imin (SI.sub m l) (.c 1)))) (.c 0) (SI.sub m l)) H
     | .yes false=>.val (.sl r (SI.add o (SI.mul l (.c (.ofNat sz)))) (SI.sub h l) (SI.sub m l)) H
     | .ask q=>.ask q
def opSlice (cc:Cc) (H:Hp) (t:TypeId) (x:SV) (lo hi mx:Option SV):OpR:=
 match cc.P.underlying t,x with
 | some (.array n e),.pt r o=>match aggOf cc.P e,bndE mx (.c (.ofNat n)),bndE hi (.c (.ofNat n)),bndE lo (.c 0) with
   | some (_,sz),some m,some h,some l=>match hi,mx with
     | none,some _=>.bad 62
     | _,_=>bndT cc H mx m (.c (.ofNat n)) (bndT cc H hi h m (bndT cc H lo l h (slc cc H r o l h m sz)))
   | _,_,_,_=>.bad 63
 | some (.slice e),.sl r o ln cp=>match aggOf cc.P e,bndE mx cp,bndE hi ln,bndE lo (.c 0) with
   | some (_,sz),some m,some h,some l=>match hi,mx with
     | none,some _=>.bad 64
     | _,_=>bndT cc H mx m cp (bndT cc H hi h m (bndT cc H lo l h (need cc H (.le h m) 65 (slc cc H r o l h m sz))))
   | _,_,_,_=>.bad 66
 | some (.slice e),.sn=>match aggOf cc.P e,bndE mx (.c 0),bndE hi (.c 0),bndE lo (.c 0) with
   | some _,some m,some h,some l=>match hi,mx with
     | none,some _=>.bad 67
     | _,_=>bndT cc H mx m (.c 0) (bndT cc H hi h m (bndT cc H lo l h (.val .sn H)))
   | _,_,_,_=>.bad 68
 | _,_=>.bad 69
theorem bndE_ok {x:Option SV} {d:SI} {e:SI} {u:Option Value} {dv:Int} (hx:match x,u with | none,none=>True | some z,some v=>z.Is C.σ ρ v | _,_=>False) (hd:d.den C.σ ρ=some dv) (h:bndE x d=some e) :
  ∃ y,e.den C.σ ρ=some y∧(match u with | none=>y=dv | some v=>∃ k,v=.int k y):=by
 unfold bndE at h
 split at h
 ·cases h
  cases u with
  | none=>exact ⟨dv,hd,rfl⟩
  | some v=>exact hx.elim
 ·cases h
  cases u with
  | none=>exact hx.elim
  | some v=>
    simp only [SV.Is] at hx
    obtain ⟨y,e1,rfl⟩:=hx
    exact ⟨y,e1,_,rfl⟩
 ·cases h
theorem bndT_ok (hcc:cc.Ok C) (h:HpRel C hc w0 ρ H w) {x:Option SV} {e y:SI} {r:OpR} {s:Sem Next} {a b:Int} (he:e.den C.σ ρ=some a) (hy:y.den C.σ ρ=some b) (hr:(x=none∨(0≤a∧a≤b))→r.Ok cc C hc w0 ρ H w s) :
  (bndT cc H x e y r).Ok cc C hc w0 ρ H w s:=by
 unfold bndT
 split
 ·exact hr (.inl rfl)
 ·refine need_ok hcc h (le_den0 he) fun h0=>?_
  refine need_ok hcc h (b:=decide (a≤b)) (by simp [SB.den,he,hy]) fun h1=>?_
  exact hr (.inr ⟨by simpa using h0,by simpa using h1⟩)
theorem run_sliceBound {k:IntKind} {i:Int} {y:Nat} {code:BoundsCode} (h:0≤i∧i≤y) (P:Program) (w:World):(Instr.sliceBound (.int k i) y code).run P w=.ok i.toNat w:=by
 simp [Instr.sliceBound,asIntOf,h.1,h.2]
theorem run_bounds {isS:Bool} {len cap:Nat} {lo hi mx:Option Value} {l h m:Int} (hm:match mx with | none=>m=cap | some v=>(∃ k,v=.int k m)∧0≤m∧m≤cap)
  (hh:match hi with | none=>h=len∧mx=none | some v=>(∃ k,v=.int k h)∧0≤h∧h≤m) (hl:match lo with | none=>l=0 | some v=>(∃ k,v=.int k l)∧0≤l∧l≤h) (hh0:0≤h) (P:Program) (w:World) :
  (Instr.sliceBounds isS len cap lo hi mx).run P w=.ok (l.toNat,h.toNat,m.toNat) w:=by
 cases mx with
 | none=>
   dsimp only at hm
   subst hm
   cases hi with
   | none=>
     obtain ⟨rfl,_⟩:=hh
     cases lo with
     | none=>dsimp only at hl;subst hl;simp [Instr.sliceBounds]
     | some v=>obtain ⟨⟨k,rfl⟩,h1,h2⟩:=hl;simp [Instr.sliceBounds,run_sliceBound ⟨h1,h2⟩]
   | some v=>
     obtain ⟨⟨k,rfl⟩,h1,h2⟩:=hh
     cases lo with
     | none=>dsimp only at hl;subst hl;simp [Instr.sliceBounds,run_sliceBound ⟨h1,h2⟩]
     | some v=>obtain ⟨⟨k',rfl⟩,h3,h4⟩:=hl;simp [Instr.sliceBounds,run_sliceBound ⟨h1,h2⟩,run_sliceBound (y:=h.toNat) ⟨h3,by omega⟩]
 | some v=>
   obtain ⟨⟨k,rfl⟩,h1,h2⟩:=hm
   cases hi with
   | none=>obtain ⟨_,h3⟩:=hh;cases h3
   | some v=>
     obtain ⟨⟨k',rfl⟩,h3,h4⟩:=hh
     cases lo with
     | none=>dsimp only at hl;subst hl;simp [Instr.sliceBounds,run_sliceBound ⟨h1,h2⟩,run_sliceBound (y:=m.toNat) ⟨h3,by omega⟩]
     | some v=>obtain ⟨⟨k'',rfl⟩,h5,h6⟩:=hl;simp [Instr.sliceBounds,run_sliceBound ⟨h1,h2⟩,run_sliceBound (y:=m.toNat) ⟨h3,by omega⟩,run_sliceBound (y:=h.toNat) ⟨h5,by omega⟩]
theorem slc_ok (hcc:cc.Ok C) (h:HpRel C hc w0 ρ H w) {r:SR} {o l hh m:SI} {sz b k:Nat} {x y z:Int} (hr:r.den C.σ ρ=some b) (ho:o.den C.σ ρ=some (Int.ofNat k)) (hl:l.den C.σ ρ=some x) (hhh:hh.den C.σ ρ=some y) (hm:m.den C.σ ρ=some z)
  (h0:0≤x) (h1:x≤y) (h2:y≤z) {s:Sem Value} (hs:s.run cc.P w=.ok (.slice (some (if z.toNat=x.toNat then ⟨b,k,none⟩ else (⟨b,k,none⟩:Addr).add (x.toNat * sz))) (y.toNat - x.toNat) (z.toNat - x.toNat)) w) :
  (slc cc H r o l hh m sz).Ok cc C hc w0 ρ H w (do pure (.value (← s))):=by
 have hy:y=Int.ofNat y.toNat:=by simp;omega
 have hz:z=Int.ofNat z.toNat:=by simp;omega
 unfold slc
 split
 ·simp only [SI.den,Option.some.injEq] at hl
  subst hl
  refine OpR.ok_pure h hs ?_
  simp only [SV.Is]
  refine ⟨b,k,y.toNat,z.toNat,hr,ho,by rw [hhh,← hy],by rw [hm,← hz],?_⟩
  simp [addr_add]
 ·have hd:(SB.eq m l).den C.σ ρ=some (decide (z=x)):=by simp [SB.den,hm,hl]
  have e1:(SI.sub hh l).den C.σ ρ=some (Int.ofNat (y.toNat - x.toNat)):=by rw [SI.sub_den hhh hl];congr 1;simp;omega
  have e2:(SI.sub m l).den C.σ ρ=some (Int.ofNat (z.toNat - x.toNat)):=by rw [SI.sub_den hm hl];congr 1;simp;omega
  split
  ·rename_i e
   have:=dec_ok (bdOf_ok hcc h) h.facts hd e
   have hzx:z=x:=by simpa using this.symm
   refine OpR.ok_pure h hs ?_
   simp only [SV.Is]
   exact ⟨b,k,_,_,hr,ho,e1,e2,by simp [hzx]⟩
  ·rename_i e
   have:=dec_ok (bdOf_ok hcc h) h.facts hd e
   have hzx:¬ z=x:=by simpa using this.symm
   refine OpR.ok_pure h hs ?_
   simp only [SV.Is]
   refine ⟨b,k+x.toNat * sz,_,_,hr,idx_den ho hl h0,e1,e2,?_⟩
   rw [if_neg (by omega),addr_add]
  ·have hd2:(SB.eq hh l).den C.σ ρ=some (decide (y=x)):=by simp [SB.den,hhh,hl]
   split
   ·rename_i e
    have:=dec_ok (bdOf_ok hcc h) h.facts hd2 e
    have hyx:y=x:=by simpa using this.symm
    refine OpR.ok_pure h hs ?_
    simp only [SV.Is]
    have e3:(SI.mul l (.c (.ofNat sz))).den C.σ ρ=some (x * Int.ofNat sz):=SI.mul_den hl rfl
    have e4:(SI.op .imin (SI.sub m l) (.c 1)).den C.σ ρ=some (IB.imin.eval (Int.ofNat (z.toNat - x.toNat)) 1):=by simp [SI.den,e2]
    have e5:=SI.add_den ho (SI.mul_den e3 e4)
    refine ⟨b,(if z.toNat=x.toNat then k else k+x.toNat * sz),0,_,hr,?_,rfl,e2,?_⟩
    ·rw [e5];congr 1
     have hx':x=Int.ofNat x.toNat:=by simp;omega
     by_cases hc:z.toNat=x.toNat
     ·rw [if_pos hc]
      have:z.toNat - x.toNat=0:=by omega
      rw [this]
      show Int.ofNat k+x * Int.ofNat sz * (if (1:Int) < Int.ofNat 0 then 1 else Int.ofNat 0)=Int.ofNat k
      simp
     ·rw [if_neg hc]
      have h1:IB.imin.eval (Int.ofNat (z.toNat - x.toNat)) 1=1:=by
       show (if (1:Int) < Int.ofNat (z.toNat - x.toNat) then (1:Int) else Int.ofNat (z.toNat - x.toNat))=1
       split
       ·rfl
       ·rename_i hn
        have:(Int.ofNat (z.toNat - x.toNat))=((z.toNat - x.toNat:Nat):Int):=rfl
        omega
      rw [h1,Int.mul_one]
      show (k:Int)+x * (sz:Int)=((k+x.toNat * sz:Nat):Int)
      rw [Int.natCast_add,Int.natCast_mul,Int.toNat_of_nonneg h0]
    ·have:y.toNat - x.toNat=0:=by omega
     rw [this]
     by_cases hc:z.toNat=x.toNat
     ·rw [if_pos hc,if_pos hc]
     ·rw [if_neg hc,if_neg hc,addr_add]
   ·rename_i e
    have:=dec_ok (bdOf_ok hcc h) h.facts hd2 e
    have hyx:¬ y=x:=by simpa using this.symm
    refine OpR.ok_pure h hs ?_
    simp only [SV.Is]
    refine ⟨b,k+x.toNat * sz,_,_,hr,idx_den ho hl h0,e1,e2,?_⟩
    rw [if_neg (by omega),addr_add]
   ·rename_i q e
    exact ask_den (bdOf_ok hcc h) h.facts hd2 e
def OIs (σ:Sta) (ρ:Dyn) (x:Option SV) (u:Option Value):Prop:=match x,u with | none,none=>True | some z,some v=>z.Is σ ρ v | _,_=>False
theorem opSlice_ok (hcc:cc.Ok C) (h:HpRel C hc w0 ρ H w) {t:TypeId} {x:SV} {u:Value} {lo hi mx:Option SV} {ul uh um:Option Value} (hx:x.Is C.σ ρ u) (hlo:OIs C.σ ρ lo ul) (hhi:OIs C.σ ρ hi uh) (hmx:OIs C.σ ρ mx um) :
  (opSlice cc H t x lo hi mx).Ok cc C hc w0 ρ H w (do pure (.value (← Instr.sliceAt t u ul uh um))):=by
 have none_iff:∀ {x:Option SV} {v:Option Value},OIs C.σ ρ x v→(x=none→v=none)∧(v=none→x=none):=by
  intro x v hxv
  cases x<;>cases v<;>first | exact ⟨fun _=>rfl,fun _=>rfl⟩ | exact hxv.elim | exact ⟨(fun e=>by cases e),(fun e=>by cases e)⟩
 have main:∀ (isS:Bool) (len cap:Nat) (cp ln m hh l:SI),cp.den C.σ ρ=some (Int.ofNat cap)→ln.den C.σ ρ=some (Int.ofNat len)→bndE mx cp=some m→bndE hi ln=some hh→bndE lo (.c 0)=some l→
   (hi=none→mx=none)→∀ (r:OpR) (s:Sem Next),(∀ a b c:Int,m.den C.σ ρ=some c→hh.den C.σ ρ=some b→l.den C.σ ρ=some a→0≤a→a≤b→0≤b→(hi=none→b=len)→(hi≠none→b≤c)→(c≤cap)→(mx=none→c=cap)→
    (Instr.sliceBounds isS len cap ul uh um).run cc.P w=.ok (a.toNat,b.toNat,c.toNat) w→r.Ok cc C hc w0 ρ H w s)→
   (bndT cc H mx m cp (bndT cc H hi hh m (bndT cc H lo l hh r))).Ok cc C hc w0 ρ H w s:=by
  intro isS len cap cp ln m hh l hcp hln hm hhh hl hnone r s hr
  obtain ⟨c,c1,c2⟩:=bndE_ok hmx hcp hm
  obtain ⟨b,b1,b2⟩:=bndE_ok hhi hln hhh
  obtain ⟨a,a1,a2⟩:=bndE_ok (dv:=0) hlo rfl hl
  refine bndT_ok hcc h c1 hcp fun k1=>?_
  refine bndT_ok hcc h b1 c1 fun k2=>?_
  refine bndT_ok hcc h a1 b1 fun k3=>?_
  have hb0:0≤b:=by
   cases uh with
   | none=>dsimp only at b2;subst b2;simp
   | some v=>rcases k2 with k2 | k2
             ·have:=(none_iff hhi).1 k2;cases this
             ·exact k2.1
  have hcc':c≤cap:=by
   cases um with
   | none=>dsimp only at c2;subst c2;simp
   | some v=>rcases k1 with k1 | k1
             ·have:=(none_iff hmx).1 k1;cases this
             ·exact k1.2
  have ha:0≤a∧a≤b:=by
   cases ul with
   | none=>dsimp only at a2;subst a2;exact ⟨Int.le_refl _,hb0⟩
   | some v=>rcases k3 with k3 | k3
             ·have:=(none_iff hlo).1 k3;cases this
             ·exact k3
  refine hr a b c c1 b1 a1 ha.1 ha.2 hb0 ?_ ?_ hcc' ?_ ?_
  ·intro e
   have:=(none_iff hhi).1 e;subst this
   exact b2
  ·intro e
   rcases k2 with k2 | k2
   ·exact absurd k2 e
   ·exact k2.2
  ·intro e
   have:=(none_iff hmx).1 e;subst this
   exact c2
  ·refine run_bounds ?_ ?_ ?_ hb0 cc.P w
   ·cases um with
    | none=>exact c2
    | some v=>rcases k1 with k1 | k1
              ·have:=(none_iff hmx).1 k1;cases this
              ·exact ⟨c2,k1⟩
   ·cases uh with
    | none=>exact ⟨b2,(none_iff hmx).1 (hnone ((none_iff hhi).2 rfl))⟩
    | some v=>rcases k2 with k2 | k2
              ·have:=(none_iff hhi).1 k2;cases this
              ·exact ⟨b2,k2⟩
   ·cases ul with
    | none=>exact a2
    | some v=>rcases k3 with k3 | k3
              ·have:=(none_iff hlo).1 k3;cases this
              ·exact ⟨a2,k3⟩
 unfold opSlice
 split
 ·rename_i n e r o hu
  split
  ·rename_i g sz m hh l ha hm hhh hl
   simp only [SV.Is] at hx
   obtain ⟨b,k,e1,e2,rfl⟩:=hx
   obtain ⟨_,h2,_⟩:=aggOf_ok ha w
   split
   ·trivial
   ·rename_i hno
    refine main false n n (.c (.ofNat n)) (.c (.ofNat n)) m hh l rfl rfl hm hhh hl (fun eh=>?_) _ _ ?_
    ·cases mx with
     | none=>rfl
     | some v=>exact (hno v eh rfl).elim
    ·intro x y z hz hy hx' h0 h1 h3 h4 h5 h6 h7 hrun
     have hyz:y≤z:=by
      by_cases e:hi=none
      ·have:=h4 e
       have hmn:mx=none:=by
        cases mx with
        | none=>rfl
        | some v=>exact (hno v e rfl).elim
       have:=h7 hmn;omega
      ·exact h5 e
     exact slc_ok hcc h e1 e2 hx' hy hz h0 h1 hyz (by
      simp [Instr.sliceAt,underlying,hu,Instr.sureAddr,hrun,h2])
  ·trivial
 ·rename_i e r o ln cp hu
  split
  ·rename_i g sz m hh l ha hm hhh hl
   simp only [SV.Is] at hx
   obtain ⟨b,k,len,cap,e1,e2,e3,e4,rfl⟩:=hx
   obtain ⟨_,h2,_⟩:=aggOf_ok ha w
   split
   ·trivial
   ·rename_i hno
    refine main true len cap cp ln m hh l e4 e3 hm hhh hl (fun eh=>?_) _ _ ?_
    ·cases mx with
     | none=>rfl
     | some v=>exact (hno v eh rfl).elim
    ·intro x y z hz hy hx' h0 h1 h3 h4 h5 h6 h7 hrun
     refine need_ok hcc h (b:=decide (y≤z)) (by simp [SB.den,hy,hz]) fun h8=>?_
     have hyz:y≤z:=by simpa using h8
     exact slc_ok hcc h e1 e2 hx' hy hz h0 h1 hyz (by
      simp only [Instr.sliceAt,underlying,hu,Instr.slice,Sem.run_bind,run_program,Result.andThen_ok,Sem.run_pure,hrun,h2,Option.map_some]
      split<;>rfl)
  ·trivial
 ·rename_i e hu
  split
  ·rename_i g m hh l ha hm hhh hl
   simp only [SV.Is] at hx
   subst hx
   obtain ⟨_,h2,_⟩:=aggOf_ok ha w
   split
   ·trivial
   ·rename_i hno
    refine main true 0 0 (.c 0) (.c 0) m hh l rfl rfl hm hhh hl (fun eh=>?_) _ _ ?_
    ·cases mx with
     | none=>rfl
     | some v=>exact (hno v eh rfl).elim
    ·intro x y z hz hy hx' h0 h1 h3 h4 h5 h6 h7 hrun
     have hz0:z≤0:=by simpa using h6
     have hyz:y≤0:=by
      by_cases e:hi=none
      ·have:=h4 e;omega
      ·have:=h5 e;omega
     have ex:x=0:=by omega
     have ey:y=0:=by omega
     have ez:z.toNat=0:=by omega
     subst ex;subst ey
     refine OpR.ok_pure h (u:=.slice none 0 0) ?_ (by simp [SV.Is])
     simp only [Instr.sliceAt,underlying,hu,Instr.slice,Sem.run_bind,run_program,Result.andThen_ok,Sem.run_pure,hrun,h2,Option.map_none]
     simp [ez]
  ·trivial
 ·trivial
end
end
end Go.Sx
