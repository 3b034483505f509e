/- A symbolic executor for the model's programs, proved sound: its data, and what they stand for. -/
import Derived.Below
import Derived.Orders
import Derived.KernelRfl
import Derived.Laws.Sem
import Derived.Laws.World
namespace Go.Sx
set_option linter.unusedSectionVars false
set_option linter.unusedVariables false
set_option linter.unusedSimpArgs false
structure Sta where
 iv:Nat→Int
 bv:Nat→Bool
 sv:Nat→ByteArray
 vv:Nat→Value
 kv:Nat→Nat
 lv:Nat→List Value
 op:Nat→Obj→Prop
 fi:Nat→Int→Int→Int→Int→Int→Int→Int
 fb:Nat→Int→Int→Int→Int→Int→Int→Bool
structure Dyn where
 bl:Nat→Option Nat
 di:Nat→Option Nat
 dv:Nat→Option Value
structure Dyn.Le (r r':Dyn):Prop where
 bl:∀ i x,r.bl i=some x→r'.bl i=some x
 di:∀ i x,r.di i=some x→r'.di i=some x
 dv:∀ i x,r.dv i=some x→r'.dv i=some x
theorem Dyn.Le.refl (r:Dyn):r.Le r:=⟨fun _ _ h=>h,fun _ _ h=>h,fun _ _ h=>h⟩
theorem Dyn.Le.trans {a b c:Dyn} (h:a.Le b) (k:b.Le c):a.Le c:=
 ⟨fun i x e=>k.bl i x (h.bl i x e),fun i x e=>k.di i x (h.di i x e),fun i x e=>k.dv i x (h.dv i x e)⟩
inductive IB where
 | add | sub | mul | tdiv | tmod | fdiv | imin | imax
 | band (k:IntKind) | bor (k:IntKind) | bxor (k:IntKind) | bandn (k:IntKind)
 | shl (k:IntKind) | shr (k:IntKind)
def IB.eval:IB→Int→Int→Int
 | .add,x,y=>x+y
 | .sub,x,y=>x - y
 | .mul,x,y=>x * y
 | .tdiv,x,y=>x.tdiv y
 | .tmod,x,y=>x.tmod y
 | .fdiv,x,y=>x.fdiv y
 | .imin,x,y=>if y < x then y else x
 | .imax,x,y=>if y > x then y else x
 | .band k,x,y=>k.wrap (BitVec.ofInt k.bits x &&& BitVec.ofInt k.bits y).toNat
 | .bor k,x,y=>k.wrap (BitVec.ofInt k.bits x ||| BitVec.ofInt k.bits y).toNat
 | .bxor k,x,y=>k.wrap (BitVec.ofInt k.bits x ^^^ BitVec.ofInt k.bits y).toNat
 | .bandn k,x,y=>k.wrap (BitVec.ofInt k.bits x &&& ~~~BitVec.ofInt k.bits y).toNat
 | .shl k,x,y=>k.wrap (x * 2 ^ (min y.toNat k.bits))
 | .shr k,x,y=>x.fdiv (2 ^ (min y.toNat k.bits))
inductive SI where
 | c (n:Int)
 | v (i:Nat)
 | d (i:Nat)
 | op (f:IB) (x y:SI)
 | wk (k:IntKind) (x:SI)
 | ap (f:Nat) (a0 a1 a2 a3 a4 a5:SI)
def SI.den (σ:Sta) (ρ:Dyn):SI→Option Int
 | .c n=>some n
 | .v i=>some (σ.iv i)
 | .d i=>(ρ.di i).map Int.ofNat
 | .op f x y=>(x.den σ ρ).bind fun a=>(y.den σ ρ).bind fun b=>some (f.eval a b)
 | .wk k x=>(x.den σ ρ).bind fun a=>some (k.wrap a)
 | .ap f a0 a1 a2 a3 a4 a5=>
   (a0.den σ ρ).bind fun x0=>(a1.den σ ρ).bind fun x1=>(a2.den σ ρ).bind fun x2=>(a3.den σ ρ).bind fun x3=>
    (a4.den σ ρ).bind fun x4=>(a5.den σ ρ).bind fun x5=>some (σ.fi f x0 x1 x2 x3 x4 x5)
theorem bind_mono {α β:Type} {x x':Option α} {f f':α→Option β} (hx:∀ a,x=some a→x'=some a) (hf:∀ a b,f a=some b→f' a=some b) {b:β}
  (h:x.bind f=some b):x'.bind f'=some b:=by
 cases hh:x with
 | none=>rw [hh] at h;cases h
 | some a=>rw [hh] at h;rw [hx a hh];exact hf a b h
theorem SI.den_mono {σ:Sta} {ρ ρ':Dyn} (h:ρ.Le ρ'):∀ (e:SI) (x:Int),e.den σ ρ=some x→e.den σ ρ'=some x:=by
 intro e
 induction e with
 | c n=>exact fun x hx=>hx
 | v i=>exact fun x hx=>hx
 | d i=>
   intro x hx
   simp only [SI.den] at hx ⊢
   cases hd:ρ.di i with
   | none=>rw [hd] at hx;cases hx
   | some n=>rw [hd] at hx;rw [h.di i n hd];exact hx
 | op f x y ihx ihy=>intro z;exact bind_mono ihx fun a _=>bind_mono ihy fun _ _ hh=>hh
 | wk k x ih=>intro z;exact bind_mono ih fun _ _ hh=>hh
 | ap f a0 a1 a2 a3 a4 a5 h0 h1 h2 h3 h4 h5=>
   intro z
   exact bind_mono h0 fun _ _=>bind_mono h1 fun _ _=>bind_mono h2 fun _ _=>bind_mono h3 fun _ _=>bind_mono h4 fun _ _=>bind_mono h5 fun _ _ hh=>hh
inductive SS where
 | c (b:ByteArray)
 | v (i:Nat)
def SS.den (σ:Sta):SS→ByteArray
 | .c b=>b
 | .v i=>σ.sv i
inductive SB where
 | c (b:Bool)
 | v (i:Nat)
 | lt (x y:SI)
 | le (x y:SI)
 | eq (x y:SI)
 | seq (x y:SS)
 | ap (f:Nat) (a0 a1 a2 a3 a4 a5:SI)
 | not (p:SB)
 | and (p q:SB)
 | or (p q:SB)
def SB.den (σ:Sta) (ρ:Dyn):SB→Option Bool
 | .c b=>some b
 | .v i=>some (σ.bv i)
 | .lt x y=>(x.den σ ρ).bind fun a=>(y.den σ ρ).bind fun b=>some (decide (a < b))
 | .le x y=>(x.den σ ρ).bind fun a=>(y.den σ ρ).bind fun b=>some (decide (a≤b))
 | .eq x y=>(x.den σ ρ).bind fun a=>(y.den σ ρ).bind fun b=>some (decide (a=b))
 | .seq x y=>some ((x.den σ).toList == (y.den σ).toList)
 | .ap f a0 a1 a2 a3 a4 a5=>
   (a0.den σ ρ).bind fun x0=>(a1.den σ ρ).bind fun x1=>(a2.den σ ρ).bind fun x2=>(a3.den σ ρ).bind fun x3=>
    (a4.den σ ρ).bind fun x4=>(a5.den σ ρ).bind fun x5=>some (σ.fb f x0 x1 x2 x3 x4 x5)
 | .not p=>(p.den σ ρ).bind fun a=>some (!a)
 | .and p q=>(p.den σ ρ).bind fun a=>(q.den σ ρ).bind fun b=>some (a && b)
 | .or p q=>(p.den σ ρ).bind fun a=>(q.den σ ρ).bind fun b=>some (a || b)
theorem SB.den_mono {σ:Sta} {ρ ρ':Dyn} (h:ρ.Le ρ'):∀ (e:SB) (x:Bool),e.den σ ρ=some x→e.den σ ρ'=some x:=by
 intro e
 induction e with
 | c n=>exact fun x hx=>hx
 | v i=>exact fun x hx=>hx
 | seq x y=>exact fun x hx=>hx
 | lt x y=>intro z;exact bind_mono (SI.den_mono h x) fun _ _=>bind_mono (SI.den_mono h y) fun _ _ hh=>hh
 | le x y=>intro z;exact bind_mono (SI.den_mono h x) fun _ _=>bind_mono (SI.den_mono h y) fun _ _ hh=>hh
 | eq x y=>intro z;exact bind_mono (SI.den_mono h x) fun _ _=>bind_mono (SI.den_mono h y) fun _ _ hh=>hh
 | ap f a0 a1 a2 a3 a4 a5=>
   intro z
   exact bind_mono (SI.den_mono h a0) fun _ _=>bind_mono (SI.den_mono h a1) fun _ _=>bind_mono (SI.den_mono h a2) fun _ _=>bind_mono (SI.den_mono h a3) fun _ _=>
    bind_mono (SI.den_mono h a4) fun _ _=>bind_mono (SI.den_mono h a5) fun _ _ hh=>hh
 | not p ih=>intro z;exact bind_mono ih fun _ _ hh=>hh
 | and p q ihp ihq=>intro z;exact bind_mono ihp fun _ _=>bind_mono ihq fun _ _ hh=>hh
 | or p q ihp ihq=>intro z;exact bind_mono ihp fun _ _=>bind_mono ihq fun _ _ hh=>hh
inductive SR where
 | n (id:Nat)
 | k (i:Nat)
 | g (i:Nat)
def SR.den (σ:Sta) (ρ:Dyn):SR→Option Nat
 | .n id=>ρ.bl id
 | .k i=>some (σ.kv i)
 | .g i=>some i
theorem SR.den_mono {σ:Sta} {ρ ρ':Dyn} (h:ρ.Le ρ') (r:SR) (x:Nat) (e:r.den σ ρ=some x):r.den σ ρ'=some x:=by
 cases r with
 | n id=>exact h.bl id x e
 | k i=>exact e
 | g i=>exact e
inductive SV where
 | any
 | bo (p:SB)
 | it (k:IntKind) (e:SI)
 | st (e:SS)
 | pt (r:SR) (o:SI)
 | pn
 | sl (r:SR) (o l c:SI)
 | sn
 | mp (r:SR)
 | mn
 | fn (f:FuncId) (a c:List SV)
 | yl (id:Nat)
 | fz
 | fc (t:TypeId) (x:SV)
 | fcn
 | ag (l:List SV)
 | tp (l:List SV)
 | va (i:Nat)
 | dv (i:Nat)
mutual
def SV.Is (σ:Sta) (ρ:Dyn):SV→Value→Prop
 | .any,_=>True
 | .bo q,u=>∃ x,q.den σ ρ=some x∧u=.bool x
 | .it k e,u=>∃ x,e.den σ ρ=some x∧u=.int k x
 | .st e,u=>u=.string (e.den σ)
 | .pt r o,u=>∃ x n,r.den σ ρ=some x∧o.den σ ρ=some (Int.ofNat n)∧u=.pointer (some ⟨x,n,none⟩)
 | .pn,u=>u=.pointer none
 | .sl r o l c,u=>∃ x n len cap,r.den σ ρ=some x∧o.den σ ρ=some (Int.ofNat n)∧l.den σ ρ=some (Int.ofNat len)∧c.den σ ρ=some (Int.ofNat cap)∧u=.slice (some ⟨x,n,none⟩) len cap
 | .sn,u=>u=.slice none 0 0
 | .mp r,u=>∃ x,r.den σ ρ=some x∧u=.map (some x)
 | .mn,u=>u=.map none
 | .fn f a c,u=>∃ as cs,SV.IsL σ ρ a as∧SV.IsL σ ρ c cs∧u=.func (.func f) as.toArray cs.toArray
 | .yl id,u=>∃ x,ρ.bl id=some x∧u=.func (.yield x) #[] #[]
 | .fz,u=>u=.nilFunc
 | .fc t x,u=>∃ y,SV.Is σ ρ x y∧u=.iface t y
 | .fcn,u=>u=.nilIface
 | .ag l,u=>∃ vs,SV.IsL σ ρ l vs∧u=.agg vs.toArray
 | .tp l,u=>∃ vs,SV.IsL σ ρ l vs∧u=.tuple vs.toArray
 | .va i,u=>u=σ.vv i∧u.oneCell'=true
 | .dv i,u=>ρ.dv i=some u∧u.oneCell'=true
def SV.IsL (σ:Sta) (ρ:Dyn):List SV→List Value→Prop
 | [],us=>us=[]
 | a::l,us=>∃ u r,us=u::r∧SV.Is σ ρ a u∧SV.IsL σ ρ l r
end
section
variable {σ:Sta} {ρ ρ':Dyn}
theorem SV.isL_nil {us:List Value}:SV.IsL σ ρ [] us↔us=[]:=by simp [SV.IsL]
theorem SV.isL_cons {a:SV} {l:List SV} {us:List Value}:SV.IsL σ ρ (a::l) us↔∃ u r,us=u::r∧a.Is σ ρ u∧SV.IsL σ ρ l r:=by simp [SV.IsL]
theorem SV.isL_cons_cons {a:SV} {l:List SV} {u:Value} {r:List Value}:SV.IsL σ ρ (a::l) (u::r)↔a.Is σ ρ u∧SV.IsL σ ρ l r:=by
 rw [SV.isL_cons]
 constructor
 ·rintro ⟨u',r',h,h1,h2⟩;cases h;exact ⟨h1,h2⟩
 ·rintro ⟨h1,h2⟩;exact ⟨u,r,rfl,h1,h2⟩
mutual
theorem SV.is_mono (h:ρ.Le ρ'):∀ (z:SV) (u:Value),z.Is σ ρ u→z.Is σ ρ' u
 | .any,_,_=>by simp [SV.Is]
 | .bo q,u,⟨x,hx,e⟩=>⟨x,q.den_mono h x hx,e⟩
 | .it k a,u,⟨x,hx,e⟩=>⟨x,a.den_mono h x hx,e⟩
 | .st a,u,e=>e
 | .pt r o,u,⟨x,n,h1,h2,e⟩=>⟨x,n,r.den_mono h x h1,o.den_mono h _ h2,e⟩
 | .pn,u,e=>e
 | .sl r o l c,u,⟨x,n,len,cap,h1,h2,h3,h4,e⟩=>⟨x,n,len,cap,r.den_mono h x h1,o.den_mono h _ h2,l.den_mono h _ h3,c.den_mono h _ h4,e⟩
 | .sn,u,e=>e
 | .mp r,u,⟨x,h1,e⟩=>⟨x,r.den_mono h x h1,e⟩
 | .mn,u,e=>e
 | .fn f a c,u,⟨as,cs,h1,h2,e⟩=>⟨as,cs,SV.isL_mono h a as h1,SV.isL_mono h c cs h2,e⟩
 | .yl id,u,⟨x,h1,e⟩=>⟨x,h.bl id x h1,e⟩
 | .fz,u,e=>e
 | .fc t x,u,⟨y,h1,e⟩=>⟨y,SV.is_mono h x y h1,e⟩
 | .fcn,u,e=>e
 | .ag l,u,⟨vs,h1,e⟩=>⟨vs,SV.isL_mono h l vs h1,e⟩
 | .tp l,u,⟨vs,h1,e⟩=>⟨vs,SV.isL_mono h l vs h1,e⟩
 | .va i,u,e=>e
 | .dv i,u,e=>⟨h.dv i u e.1,e.2⟩
theorem SV.isL_mono (h:ρ.Le ρ'):∀ (l:List SV) (us:List Value),SV.IsL σ ρ l us→SV.IsL σ ρ' l us
 | [],us,e=>by rw [SV.isL_nil] at *;exact e
 | a::l,us,e=>by
   rw [SV.isL_cons] at *
   obtain ⟨u,r,h1,h2,h3⟩:=e
   exact ⟨u,r,h1,SV.is_mono h a u h2,SV.isL_mono h l r h3⟩
end
theorem SV.isL_length:∀ {l:List SV} {us:List Value},SV.IsL σ ρ l us→us.length=l.length
 | [],us,e=>by rw [SV.isL_nil] at e;simp [e]
 | a::l,us,e=>by
   rw [SV.isL_cons] at e
   obtain ⟨u,r,rfl,_,h3⟩:=e
   simp [SV.isL_length h3]
theorem SV.isL_append:∀ {l l':List SV} {us us':List Value},SV.IsL σ ρ l us→SV.IsL σ ρ l' us'→SV.IsL σ ρ (l++l') (us++us')
 | [],l',us,us',e,e'=>by rw [SV.isL_nil] at e;simpa [e] using e'
 | a::l,l',us,us',e,e'=>by
   rw [SV.isL_cons] at e
   obtain ⟨u,r,rfl,h2,h3⟩:=e
   exact SV.isL_cons.2 ⟨u,r++us',rfl,h2,SV.isL_append h3 e'⟩
theorem SV.isL_drop:∀ {l:List SV} {us:List Value} (n:Nat),SV.IsL σ ρ l us→SV.IsL σ ρ (l.drop n) (us.drop n)
 | l,us,0,e=>by simpa using e
 | [],us,n+1,e=>by rw [SV.isL_nil] at e;simp [e,SV.isL_nil]
 | a::l,us,n+1,e=>by
   rw [SV.isL_cons] at e
   obtain ⟨u,r,rfl,h2,h3⟩:=e
   simpa using SV.isL_drop n h3
theorem SV.isL_take:∀ {l:List SV} {us:List Value} (n:Nat),SV.IsL σ ρ l us→SV.IsL σ ρ (l.take n) (us.take n)
 | l,us,0,e=>by simp [SV.isL_nil]
 | [],us,n+1,e=>by rw [SV.isL_nil] at e;simp [e,SV.isL_nil]
 | a::l,us,n+1,e=>by
   rw [SV.isL_cons] at e
   obtain ⟨u,r,rfl,h2,h3⟩:=e
   exact SV.isL_cons.2 ⟨u,r.take n,by simp,h2,SV.isL_take n h3⟩
theorem SV.isL_get:∀ {l:List SV} {us:List Value} {n:Nat} {z:SV},SV.IsL σ ρ l us→l[n]? = some z→∃ u,us[n]? = some u∧z.Is σ ρ u
 | [],us,n,z,e,h=>by simp at h
 | a::l,us,0,z,e,h=>by
   rw [SV.isL_cons] at e
   obtain ⟨u,r,rfl,h2,h3⟩:=e
   simp at h;subst h
   exact ⟨u,by simp,h2⟩
 | a::l,us,n+1,z,e,h=>by
   rw [SV.isL_cons] at e
   obtain ⟨u,r,rfl,h2,h3⟩:=e
   simp at h
   obtain ⟨u',h4,h5⟩:=SV.isL_get h3 h
   exact ⟨u',by simpa using h4,h5⟩
theorem SV.isL_nth:∀ {l:List SV} {us:List Value} {n:Nat} {u:Value},SV.IsL σ ρ l us→us[n]? = some u→∃ z,l[n]? = some z∧z.Is σ ρ u:=by
 intro l us n u e h
 have hl:=SV.isL_length e
 have hn:n < l.length:=by
  rw [← hl]
  exact (List.getElem?_eq_some_iff.1 h).1
 obtain ⟨u',h1,h2⟩:=SV.isL_get e (List.getElem?_eq_getElem hn)
 rw [h] at h1
 cases h1
 exact ⟨_,List.getElem?_eq_getElem hn,h2⟩
end
end Go.Sx
