/- A symbolic executor: what is left to be shown of a way, in plain numbers. -/
import Derived.Test.YtfgdpkceoadgjaaSxW
namespace Go.Sx
set_option linter.unusedSectionVars false
set_option linter.unusedVariables false
set_option linter.unusedSimpArgs false
open Go.RowKit
def SI.tv (S:Sta) (δ:Nat→Int):SI→Int
 | .c n=>n
 | .v i=>S.iv i
 | .d i=>δ i
 | .op f x y=>f.eval (x.tv S δ) (y.tv S δ)
 | .wk k x=>k.wrap (x.tv S δ)
 | .ap f x0 x1 x2 x3 x4 x5=>S.fi f (x0.tv S δ) (x1.tv S δ) (x2.tv S δ) (x3.tv S δ) (x4.tv S δ) (x5.tv S δ)
def SB.tp (S:Sta) (δ:Nat→Int):SB→Prop
 | .c b=>b=true
 | .v i=>S.bv i=true
 | .lt x y=>x.tv S δ < y.tv S δ
 | .le x y=>x.tv S δ≤y.tv S δ
 | .eq x y=>x.tv S δ=y.tv S δ
 | .seq x y=>((x.den S).toList == (y.den S).toList)=true
 | .ap f x0 x1 x2 x3 x4 x5=>S.fb f (x0.tv S δ) (x1.tv S δ) (x2.tv S δ) (x3.tv S δ) (x4.tv S δ) (x5.tv S δ)=true
 | .not p=>¬ p.tp S δ
 | .and p q=>p.tp S δ∧q.tp S δ
 | .or p q=>p.tp S δ∨q.tp S δ
def TP (b:Bool) (p:Prop):Prop:=match b with | true=>p | false=>¬ p
def dlt (ρ:Dyn):Nat→Int:=fun i=>match ρ.di i with | some n=>n | none=>0
section
variable {S:Sta} {ρ:Dyn}
theorem SI.tv_of:∀ {x:SI} {a:Int},x.den S ρ=some a→x.tv S (dlt ρ)=a:=by
 intro x
 induction x with
 | c n=>intro a h;cases h;rfl
 | v i=>intro a h;cases h;rfl
 | d i=>
   intro a h
   simp only [SI.den] at h
   cases hd:ρ.di i with
   | none=>rw [hd] at h;cases h
   | some n=>rw [hd] at h;cases h;simp [SI.tv,dlt,hd]
 | op f x y hx hy=>
   intro a h
   simp only [SI.den] at h
   obtain ⟨u,hu,h⟩:=Option.bind_eq_some_iff.1 h
   obtain ⟨v,hv,h⟩:=Option.bind_eq_some_iff.1 h
   cases h
   simp only [SI.tv,hx hu,hy hv]
 | wk k x hx=>
   intro a h
   simp only [SI.den] at h
   obtain ⟨u,hu,h⟩:=Option.bind_eq_some_iff.1 h
   cases h
   simp only [SI.tv,hx hu]
 | ap f a0 a1 a2 a3 a4 a5 h0 h1 h2 h3 h4 h5=>
   intro a h
   simp only [SI.den] at h
   obtain ⟨x0,e0,h⟩:=Option.bind_eq_some_iff.1 h
   obtain ⟨x1,e1,h⟩:=Option.bind_eq_some_iff.1 h
   obtain ⟨x2,e2,h⟩:=Option.bind_eq_some_iff.1 h
   obtain ⟨x3,e3,h⟩:=Option.bind_eq_some_iff.1 h
   obtain ⟨x4,e4,h⟩:=Option.bind_eq_some_iff.1 h
   obtain ⟨x5,e5,h⟩:=Option.bind_eq_some_iff.1 h
   cases h
   simp only [SI.tv,h0 e0,h1 e1,h2 e2,h3 e3,h4 e4,h5 e5]
theorem SB.tp_of:∀ {p:SB} {b:Bool},p.den S ρ=some b→(p.tp S (dlt ρ)↔b=true):=by
 intro p
 induction p with
 | c n=>intro b h;cases h;exact Iff.rfl
 | v i=>intro b h;cases h;exact Iff.rfl
 | seq x y=>intro b h;cases h;exact Iff.rfl
 | lt x y=>
   intro b h
   simp only [SB.den] at h
   obtain ⟨u,hu,h⟩:=Option.bind_eq_some_iff.1 h
   obtain ⟨v,hv,h⟩:=Option.bind_eq_some_iff.1 h
   cases h
   simp only [SB.tp,SI.tv_of hu,SI.tv_of hv,decide_eq_true_eq]
 | le x y=>
   intro b h
   simp only [SB.den] at h
   obtain ⟨u,hu,h⟩:=Option.bind_eq_some_iff.1 h
   obtain ⟨v,hv,h⟩:=Option.bind_eq_some_iff.1 h
   cases h
   simp only [SB.tp,SI.tv_of hu,SI.tv_of hv,decide_eq_true_eq]
 | eq x y=>
   intro b h
   simp only [SB.den] at h
   obtain ⟨u,hu,h⟩:=Option.bind_eq_some_iff.1 h
   obtain ⟨v,hv,h⟩:=Option.bind_eq_some_iff.1 h
   cases h
   simp only [SB.tp,SI.tv_of hu,SI.tv_of hv,decide_eq_true_eq]
 | ap f a0 a1 a2 a3 a4 a5=>
   intro b h
   simp only [SB.den] at h
   obtain ⟨x0,e0,h⟩:=Option.bind_eq_some_iff.1 h
   obtain ⟨x1,e1,h⟩:=Option.bind_eq_some_iff.1 h
   obtain ⟨x2,e2,h⟩:=Option.bind_eq_some_iff.1 h
   obtain ⟨x3,e3,h⟩:=Option.bind_eq_some_iff.1 h
   obtain ⟨x4,e4,h⟩:=Option.bind_eq_some_iff.1 h
   obtain ⟨x5,e5,h⟩:=Option.bind_eq_some_iff.1 h
   cases h
   simp only [SB.tp,SI.tv_of e0,SI.tv_of e1,SI.tv_of e2,SI.tv_of e3,SI.tv_of e4,SI.tv_of e5]
 | not p hp=>
   intro b h
   simp only [SB.den] at h
   obtain ⟨u,hu,h⟩:=Option.bind_eq_some_iff.1 h
   cases h
   simp only [SB.tp,hp hu]
   cases u<;>simp
 | and p q hp hq=>
   intro b h
   simp only [SB.den] at h
   obtain ⟨u,hu,h⟩:=Option.bind_eq_some_iff.1 h
   obtain ⟨v,hv,h⟩:=Option.bind_eq_some_iff.1 h
   cases h
   simp only [SB.tp,hp hu,hq hv]
   cases u<;>cases v<;>simp
 | or p q hp hq=>
   intro b h
   simp only [SB.den] at h
   obtain ⟨u,hu,h⟩:=Option.bind_eq_some_iff.1 h
   obtain ⟨v,hv,h⟩:=Option.bind_eq_some_iff.1 h
   cases h
   simp only [SB.tp,hp hu,hq hv]
   cases u<;>cases v<;>simp
end
def FT (S:Sta) (δ:Nat→Int):List (SB×Bool)→Prop
 | []=>True
 | f::F=>TP f.2 (f.1.tp S δ)∧FT S δ F
def kix:IntKind→Nat
 | .i8=>0 | .i16=>1 | .i32=>2 | .i64=>3 | .u8=>4 | .u16=>5 | .u32=>6 | .u64=>7
theorem kix_eq (k:IntKind):kix k=k.ctorIdx:=by cases k<;>rfl
def rowT (S:Sta) (c c' j:Int):List Kd→Int→Prop
 | [],_=>True
 | κ::l,f=>(match κ with | .nt k=>S.fi (kix k) c j f 0 0 0=S.fi (kix k) c' j f 0 0 0 | .tv=>S.fb 0 c j f 0 0 0=S.fb 0 c' j f 0 0 0)∧rowT S c c' j l (f+1)
theorem rowT_val {S:Sta} {c c':Int} {j:Nat}:∀ {lay:List Kd} {f0:Nat},rowT S c c' j lay f0→∀ (f:Nat) (κ:Kd),lay[f]? = some κ→κ.val S c j (f0+f)=κ.val S c' j (f0+f)
 | [],f0,_,f,κ,h=>by simp at h
 | k::lay,f0,hr,f,κ,h=>by
   obtain ⟨h1,h2⟩:=hr
   cases f with
   | zero=>
     simp only [List.getElem?_cons_zero,Option.some.injEq] at h
     subst h
     rw [Nat.add_zero]
     cases k with
     | nt kk=>
       simp only [kix_eq] at h1
       simp only [Kd.val,h1]
     | tv=>
       simp only [Kd.val]
       rw [h1]
   | succ f=>
     have:=rowT_val (f0:=f0+1) (by simpa using h2) f κ (by simpa using h)
     rw [show f0+(f+1)=f0+1+f by omega]
     exact this
def othT (S:Sta):List Out→Nat→Nat→Prop
 | [],_,_=>True
 | o::os,i,j=>(i≠j→FT S (dlt dyn0) o.cs→False)∧othT S os (i+1) j
theorem othT_of {S:Sta} {j:Nat}:∀ {os:List Out} {i0:Nat},othT S os i0 j→∀ (i:Nat) (o:Out),os[i]? = some o→i0+i≠j→FT S (dlt dyn0) o.cs→False
 | [],i0,_,i,o,h=>by simp at h
 | o0::os,i0,ht,i,o,h=>by
   cases i with
   | zero=>
     simp only [List.getElem?_cons_zero,Option.some.injEq] at h
     subst h
     exact ht.1
   | succ i=>
     intro hne
     exact othT_of (i0:=i0+1) ht.2 i o (by simpa using h) (by omega)
def Ob.Tv (S:Sta) (δ:Nat→Int):Ob→Prop
 | .ei x y=>x.tv S δ=y.tv S δ
 | .eb p q=>p.tp S δ↔q.tp S δ
 | .fa p b=>TP b (p.tp S δ)
 | .rn x a b=>a≤x.tv S δ∧x.tv S δ≤(if a≤b then b else x.tv S δ)
 | .ar lay c c' n=>∀ j:Nat,(j:Int) < n.tv S δ→rowT S (c.tv S δ) (c'.tv S δ) j lay 0
def ObsT (S:Sta) (δ:Nat→Int):List Ob→Prop
 | []=>True
 | o::L=>o.Tv S δ∧ObsT S δ L
noncomputable def Ob.okd (ds:List Nat):Ob→Bool
 | .ei x y=>bif x.okd ds then y.okd ds else false
 | .eb p q=>bif p.okd ds then q.okd ds else false
 | .fa p _=>p.okd ds
 | .rn x _ _=>x.okd ds
 | .ar _ c c' n=>bif c.okd ds then (bif c'.okd ds then n.okd ds else false) else false
noncomputable def obsOkd (F:List (SB×Bool)) (L:List Ob):Bool:=lall (fun o=>o.okd (dsOf F)) L
section
variable {S:Sta} {ρ:Dyn}
theorem FT_of:∀ {F:List (SB×Bool)},Known S ρ F→FT S (dlt ρ) F
 | [],_=>trivial
 | (p,b)::F,h=>by
   have h0:p.den S ρ=some b:=h (p,b) (by simp)
   refine ⟨?_,FT_of fun f hf=>h f (List.mem_cons_of_mem _ hf)⟩
   have:=SB.tp_of h0
   cases b
   ·show ¬ _
    rw [this];simp
   ·exact this.2 rfl
theorem SI.den_of_okd {F:List (SB×Bool)} (hk:Known S ρ F) {x:SI} (h:x.okd (dsOf F)=true):x.den S ρ=some (x.tv S (dlt ρ)):=by
 obtain ⟨a,ha⟩:=SI.okd_den (σ:=S) (dsOf_ok hk) h
 rw [SI.tv_of ha];exact ha
theorem SB.den_of_okd {F:List (SB×Bool)} (hk:Known S ρ F) {p:SB} (h:p.okd (dsOf F)=true):∃ b,p.den S ρ=some b∧(p.tp S (dlt ρ)↔b=true):=by
 obtain ⟨a,ha⟩:=SB.okd_den (σ:=S) (dsOf_ok hk) h
 exact ⟨a,ha,SB.tp_of ha⟩
theorem Ob.ok_of {F:List (SB×Bool)} (hk:Known S ρ F) {o:Ob} (hd:o.okd (dsOf F)=true) (h:o.Tv S (dlt ρ)):o.Ok S ρ:=by
 cases o with
 | ei x y=>
   have hd':(bif x.okd (dsOf F) then y.okd (dsOf F) else false)=true:=hd
   rw [cond_true_iff] at hd'
   simp only [Ob.Ok]
   rw [SI.den_of_okd hk hd'.1,SI.den_of_okd hk hd'.2]
   have h':x.tv S (dlt ρ)=y.tv S (dlt ρ):=h
   rw [h']
 | eb p q=>
   have hd':(bif p.okd (dsOf F) then q.okd (dsOf F) else false)=true:=hd
   rw [cond_true_iff] at hd'
   obtain ⟨a,a1,a2⟩:=SB.den_of_okd hk hd'.1
   obtain ⟨b,b1,b2⟩:=SB.den_of_okd hk hd'.2
   simp only [Ob.Ok]
   rw [a1,b1]
   have h':p.tp S (dlt ρ)↔q.tp S (dlt ρ):=h
   rw [a2,b2] at h'
   cases a<;>cases b<;>simp_all
 | fa p b=>
   obtain ⟨a,a1,a2⟩:=SB.den_of_okd hk (show p.okd (dsOf F)=true from hd)
   simp only [Ob.Ok]
   rw [a1]
   cases b
   ·have h':¬ p.tp S (dlt ρ):=h
    rw [a2] at h'
    cases a<;>simp_all
   ·have h':p.tp S (dlt ρ):=h
    rw [a2] at h'
    rw [h']
 | rn x a b=>exact ⟨_,SI.den_of_okd hk (show x.okd (dsOf F)=true from hd),h⟩
 | ar lay c c' n=>
   have hd':(bif c.okd (dsOf F) then (bif c'.okd (dsOf F) then n.okd (dsOf F) else false) else false)=true:=hd
   simp only [cond_true_iff] at hd'
   have q1:=SI.den_of_okd hk hd'.1
   have q2:=SI.den_of_okd hk hd'.2.1
   have q3:=SI.den_of_okd hk hd'.2.2
   refine ⟨⟨_,q1⟩,fun cv cv' nv e1 e2 e3 j hj f κ hκ=>?_⟩
   rw [q1] at e1;cases e1
   rw [q2] at e2;cases e2
   rw [q3] at e3
   have:=rowT_val (f0:=0) (h j (by
    have:n.tv S (dlt ρ)=(nv:Int):=by injection e3
    omega)) f κ hκ
   simpa using this
theorem obsOk_of {F:List (SB×Bool)} (hk:Known S ρ F):∀ {L:List Ob},obsOkd F L=true→ObsT S (dlt ρ) L→Obs S ρ L
 | [],_,_=>fun _ h=>by cases h
 | o::L,hd,h=>by
   have hall:=lall_iff.1 hd
   intro o' ho'
   rcases List.mem_cons.1 ho' with rfl | ho'
   ·exact Ob.ok_of hk (hall _ (by simp)) h.1
   ·exact obsOk_of hk (lall_iff.2 fun a ha=>hall a (List.mem_cons_of_mem _ ha)) h.2 o' ho'
end
open Classical in
noncomputable def In.tiv (I:In) (S:Sta) (δ:Nat→Int):Nat→Int:=fun j=>match get I.s.i j with | some e=>e.tv S δ | none=>S.iv j
open Classical in
noncomputable def In.tbv (I:In) (S:Sta) (δ:Nat→Int):Nat→Bool:=fun j=>match get I.s.b j with | some e=>decide (e.tp S δ) | none=>S.bv j
theorem In.tiv_of {I:In} {S:Sta} {ρ:Dyn} (h:I.Def S ρ):I.iv S ρ=I.tiv S (dlt ρ):=by
 funext j
 unfold In.iv In.tiv
 cases hg:get I.s.i j with
 | none=>rfl
 | some e=>
   obtain ⟨x,hx⟩:=h.i j e hg
   simp [hx,SI.tv_of hx]
open Classical in
theorem In.tbv_of {I:In} {S:Sta} {ρ:Dyn} (h:I.Def S ρ):I.bv S ρ=I.tbv S (dlt ρ):=by
 funext j
 unfold In.bv In.tbv
 cases hg:get I.s.b j with
 | none=>rfl
 | some e=>
   obtain ⟨x,hx⟩:=h.b j e hg
   have:=SB.tp_of hx
   simp only [hx,Option.getD_some]
   cases x
   ·rw [decide_eq_false];rw [this];simp
   ·rw [decide_eq_true];rw [this]
def LfT (S:(Nat→Int)→(Nat→Bool)→Sta) (os:List Out) (Inv:Nat→(Nat→Int)→(Nat→Bool)→Prop) (mu:Nat→(Nat→Int)→(Nat→Bool)→Nat) (k:Nat) (iv:Nat→Int) (bv:Nat→Bool):Lf→Prop
 | .bad F=>∀ δ,FT (S iv bv) δ F→False
 | .cut F j I obs _=>∀ δ,FT (S iv bv) δ F→ObsT (S iv bv) δ obs∧Inv j (I.tiv (S iv bv) δ) (I.tbv (S iv bv) δ)∧mu j (I.tiv (S iv bv) δ) (I.tbv (S iv bv) δ) < mu k iv bv
 | .fin F j I obs _=>∀ δ,FT (S iv bv) δ F→ObsT (S iv bv) δ obs∧othT (S iv bv) os 0 j
def LfC (Ts:List Tm) (os:List Out):Lf→Prop
 | .bad _=>True
 | .cut F j I obs sh=>(∃ T,Ts[j]? = some T∧sh=shT T I)∧obsOkd F obs=true
 | .fin F j I obs cd=>(∃ o,os[j]? = some o∧cd=lmap (fun p=>p.2.code) o.hp)∧obsOkd F obs=true
theorem LfOk.of_plain {S:(Nat→Int)→(Nat→Bool)→Sta} {Ts:List Tm} {os:List Out} {Inv:Nat→(Nat→Int)→(Nat→Bool)→Prop} {mu:Nat→(Nat→Int)→(Nat→Bool)→Nat} {k:Nat} {iv:Nat→Int} {bv:Nat→Bool} {lf:Lf} (hc:LfC Ts os lf) (h:LfT S os Inv mu k iv bv lf):LfOk S Ts os Inv mu k iv bv lf:=by
 cases lf with
 | bad F=>exact fun ρ hk=>h _ (FT_of hk)
 | cut F j I obs sh=>
   refine ⟨hc.1,fun ρ hk hI=>?_⟩
   obtain ⟨h1,h2,h3⟩:=h _ (FT_of hk)
   exact ⟨obsOk_of hk hc.2 h1,by rw [In.tiv_of hI,In.tbv_of hI];exact h2,by rw [In.tiv_of hI,In.tbv_of hI];exact h3⟩
 | fin F j I obs cd=>
   refine ⟨hc.1,fun ρ hk hI=>?_⟩
   obtain ⟨h1,h2⟩:=h _ (FT_of hk)
   exact ⟨obsOk_of hk hc.2 h1,fun i o ho hne hcs=>othT_of h2 i o ho (by omega) (FT_of hcs)⟩
def LsC (Ts:List Tm) (os:List Out):List (List Lf)→Prop
 | []=>True
 | l::L=>(∀ lf∈l,LfC Ts os lf)∧LsC Ts os L
theorem LsC.get {Ts:List Tm} {os:List Out}:∀ {L:List (List Lf)},LsC Ts os L→∀ (k:Nat) (l:List Lf),L[k]? = some l→∀ lf∈l,LfC Ts os lf
 | [],_,k,l,h=>by simp at h
 | l0::L,h,k,l,hk=>by
   cases k with
   | zero=>simp at hk;subst hk;exact h.1
   | succ k=>simp at hk;exact LsC.get h.2 k l hk
theorem Con.of_plain {P:Program} {eqt:List TypeId} {FI:FIx} {FB:FBx} {BF:List (Nat×Int×Int)} (hP:POk P eqt) (hFI:FiOk FI FB BF) {E:Cc→Ents} (hE:EntsFor P FI FB E) (c:Con) {fn:Func} {body:Code} (hfn:P.funcs[c.g]? = some fn) (hbd:fn.body=some body)
  (na:Nat) (Ts:List Tm) (hchk:(bif c.chk na then lall (fun T=>lall (fun i=>Nat.ble na i) T.vs) Ts else false)=true) {stop:Fr→List Fr→Bool} {N n d:Nat} (L:List (List Lf))
  (hL:LsOk (ccOf P BF eqt c) (E (ccOf P BF eqt c)) stop N n d (tm0 c fn body::Ts) c.os (tm0 c fn body::Ts) L) (hC:LsC (tm0 c fn body::Ts) c.os L)
  (Inv:(Nat→Int)→(Nat→Bool)→Nat→(Nat→Int)→(Nat→Bool)→Prop) (mu:(Nat→Int)→(Nat→Bool)→Nat→(Nat→Int)→(Nat→Bool)→Nat) (h0:∀ iv bv,InB c.B iv→Inv iv bv 0 iv bv)
  (hO:∀ kv iv0 bv0,InB c.B iv0→FT (sta FI FB kv iv0 bv0) (dlt dyn0) c.F→∀ k l iv bv,L[k]? = some l→Agr na iv0 bv0 iv bv→Inv iv0 bv0 k iv bv→∀ lf∈l,LfT (sta FI FB kv) c.os (Inv iv0 bv0) (mu iv0 bv0) k iv bv lf):c.Ok P FI FB:=
 Con.of_cuts hP hFI hE c hfn hbd na Ts hchk L hL Inv mu (fun kv iv bv hin _=>h0 iv bv hin) fun kv iv0 bv0 hin hF k l iv bv hk ha hi lf hlf=>LfOk.of_plain (hC.get k l hk lf hlf) (hO kv iv0 bv0 hin (FT_of hF) k l iv bv hk ha hi lf hlf)
end Go.Sx
