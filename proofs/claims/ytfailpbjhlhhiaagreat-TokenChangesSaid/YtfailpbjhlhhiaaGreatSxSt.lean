/- A symbolic executor: a contract, by the ways of the function's run between its loops' heads. -/
import Derived.Test.YtfailpbjhlhhiaaGreatSxT
import Derived.Test.YtfailpbjhlhhiaaGreatSxB
import Derived.ChangeStays
import Derived.ReadAgain
import Derived.ChangeBears
import Derived.WalkKit
import Derived.ProofKit
import Derived.OpenShut
namespace Go.Sx
noncomputable section
set_option linter.unusedVariables false
set_option linter.unusedSimpArgs false
open Go.RowKit
def SI.vlt (na:Nat) (x:SI):Bool:=
 SI.rec (motive:=fun _=>Bool) (fun _=>true) (fun i=>Nat.blt i na) (fun _=>true) (fun _ _ _ a b=>bif a then b else false) (fun _ _ a=>a)
  (fun _ _ _ _ _ _ _ a b c d e g=>bif a then (bif b then (bif c then (bif d then (bif e then g else false) else false) else false) else false) else false) x
def SB.vlt (na:Nat) (x:SB):Bool:=
 SB.rec (motive:=fun _=>Bool) (fun _=>true) (fun i=>Nat.blt i na) (fun x y=>bif x.vlt na then y.vlt na else false) (fun x y=>bif x.vlt na then y.vlt na else false) (fun x y=>bif x.vlt na then y.vlt na else false)
  (fun _ _=>true) (fun f a b c d e g=>(SI.ap f a b c d e g).vlt na) (fun _ a=>a) (fun _ _ a b=>bif a then b else false) (fun _ _ a b=>bif a then b else false) x
mutual
def SV.vlt (na:Nat):SV→Bool
 | .it _ e=>e.vlt na
 | .bo p=>p.vlt na
 | .pt _ o=>o.vlt na
 | .sl _ o l c=>bif o.vlt na then (bif l.vlt na then c.vlt na else false) else false
 | .fn _ a c=>bif SV.vltL na a then SV.vltL na c else false
 | .fc _ x=>SV.vlt na x
 | .ag l=>SV.vltL na l
 | .tp l=>SV.vltL na l
 | .fs _ y=>y.vlt na
 | .fp _ y j _=>bif y.vlt na then j.vlt na else false
 | .sf y=>y.vlt na
 | _=>true
def SV.vltL (na:Nat):List SV→Bool
 | []=>true
 | a::l=>bif SV.vlt na a then SV.vltL na l else false
end
def Bk.vlt (na:Nat):Bk→Bool
 | .arr _ c n _ cp=>bif c.vlt na then (bif n.vlt na then cp.vlt na else false) else false
 | .cells l _=>SV.vltL na l
 | .row none l _ cp _=>bif SV.vltL na l then cp.vlt na else false
 | .mapc _ _ c=>c.vlt na
 | _=>false
section
variable {FI:FIx} {FB:FBx} {kv:Kv} {iv iv':Nat→Int} {bv bv':Nat→Bool} {na:Nat}
theorem SI.vlt_den (h:Agr na iv bv iv' bv') {ρ:Dyn}:∀ {x:SI},x.vlt na=true→x.den (sta FI FB kv iv' bv') ρ=x.den (sta FI FB kv iv bv) ρ:=by
 intro x
 induction x with
 | c n=>exact fun _=>rfl
 | v i=>
   intro hx
   have hlt:i < na:=by simpa [SI.vlt,Nat.blt_eq] using hx
   show some (iv' i)=some (iv i)
   rw [h.1 i hlt]
 | d i=>exact fun _=>rfl
 | op f a b ha hb=>
   intro hx
   have hx':(bif a.vlt na then b.vlt na else false)=true:=hx
   rw [cond_true_iff] at hx'
   simp only [SI.den,ha hx'.1,hb hx'.2]
 | wk k a ha=>intro hx;simp only [SI.den,ha hx]
 | ap f a0 a1 a2 a3 a4 a5 h0 h1 h2 h3 h4 h5=>
   intro hx
   have hx':(bif a0.vlt na then (bif a1.vlt na then (bif a2.vlt na then (bif a3.vlt na then (bif a4.vlt na then a5.vlt na else false) else false) else false) else false) else false)=true:=hx
   simp only [cond_true_iff] at hx'
   obtain ⟨q0,q1,q2,q3,q4,q5⟩:=hx'
   simp only [SI.den,h0 q0,h1 q1,h2 q2,h3 q3,h4 q4,h5 q5];rfl
theorem SB.vlt_den (h:Agr na iv bv iv' bv') {ρ:Dyn}:∀ {x:SB},x.vlt na=true→x.den (sta FI FB kv iv' bv') ρ=x.den (sta FI FB kv iv bv) ρ:=by
 intro x
 induction x with
 | c n=>exact fun _=>rfl
 | v i=>
   intro hx
   have hlt:i < na:=by simpa [SB.vlt,Nat.blt_eq] using hx
   show some (bv' i)=some (bv i)
   rw [h.2 i hlt]
 | seq a b=>intro _;cases a<;>cases b<;>rfl
 | lt a b=>
   intro hx
   have hx':(bif a.vlt na then b.vlt na else false)=true:=hx
   rw [cond_true_iff] at hx'
   simp only [SB.den,SI.vlt_den h hx'.1,SI.vlt_den h hx'.2]
 | le a b=>
   intro hx
   have hx':(bif a.vlt na then b.vlt na else false)=true:=hx
   rw [cond_true_iff] at hx'
   simp only [SB.den,SI.vlt_den h hx'.1,SI.vlt_den h hx'.2]
 | eq a b=>
   intro hx
   have hx':(bif a.vlt na then b.vlt na else false)=true:=hx
   rw [cond_true_iff] at hx'
   simp only [SB.den,SI.vlt_den h hx'.1,SI.vlt_den h hx'.2]
 | ap f a0 a1 a2 a3 a4 a5=>
   intro hx
   have hx':(bif a0.vlt na then (bif a1.vlt na then (bif a2.vlt na then (bif a3.vlt na then (bif a4.vlt na then a5.vlt na else false) else false) else false) else false) else false)=true:=hx
   simp only [cond_true_iff] at hx'
   obtain ⟨q0,q1,q2,q3,q4,q5⟩:=hx'
   simp only [SB.den,SI.vlt_den h q0,SI.vlt_den h q1,SI.vlt_den h q2,SI.vlt_den h q3,SI.vlt_den h q4,SI.vlt_den h q5];rfl
 | not p hp=>intro hx;simp only [SB.den,hp hx]
 | and p q hp hq=>
   intro hx
   have hx':(bif p.vlt na then q.vlt na else false)=true:=hx
   rw [cond_true_iff] at hx'
   simp only [SB.den,hp hx'.1,hq hx'.2]
 | or p q hp hq=>
   intro hx
   have hx':(bif p.vlt na then q.vlt na else false)=true:=hx
   rw [cond_true_iff] at hx'
   simp only [SB.den,hp hx'.1,hq hx'.2]
theorem SR.sta_den {r:SR} {ρ:Dyn}:r.den (sta FI FB kv iv' bv') ρ=r.den (sta FI FB kv iv bv) ρ:=by cases r<;>rfl
mutual
theorem SV.vlt_is (h:Agr na iv bv iv' bv') {ρ:Dyn}:∀ (x:SV) (u:Value),SV.vlt na x=true→(x.Is (sta FI FB kv iv' bv') ρ u↔x.Is (sta FI FB kv iv bv) ρ u)
 | .any,u,hx=>by simp only [SV.Is]
 | .it k e,u,hx=>by simp only [SV.Is,SI.vlt_den h (show e.vlt na=true by simpa only [SV.vlt] using hx)]
 | .bo p,u,hx=>by simp only [SV.Is,SB.vlt_den h (show p.vlt na=true by simpa only [SV.vlt] using hx)]
 | .st e,u,hx=>by cases e<;>(simp only [SV.Is];exact Iff.rfl)
 | .pt r o,u,hx=>by simp only [SV.Is,SI.vlt_den h (show o.vlt na=true by simpa only [SV.vlt] using hx),SR.sta_den (iv:=iv) (iv':=iv') (bv:=bv) (bv':=bv')]
 | .sl r o l c,u,hx=>by
   have hx':(bif o.vlt na then (bif l.vlt na then c.vlt na else false) else false)=true:=by simpa only [SV.vlt] using hx
   simp only [cond_true_iff] at hx'
   simp only [SV.Is,SI.vlt_den h hx'.1,SI.vlt_den h hx'.2.1,SI.vlt_den h hx'.2.2,SR.sta_den (iv:=iv) (iv':=iv') (bv:=bv) (bv':=bv')]
 | .mp r,u,hx=>by simp only [SV.Is,SR.sta_den (iv:=iv) (iv':=iv') (bv:=bv) (bv':=bv')]
 | .fn f a c,u,hx=>by
   have hx':(bif SV.vltL na a then SV.vltL na c else false)=true:=by simpa only [SV.vlt] using hx
   simp only [cond_true_iff] at hx'
   simp only [SV.Is,SV.vltL_is h a _ hx'.1,SV.vltL_is h c _ hx'.2]
 | .yl i,u,hx=>by simp only [SV.Is]
 | .fc t x,u,hx=>by simp only [SV.Is,SV.vlt_is h x _ (show SV.vlt na x=true by simpa only [SV.vlt] using hx)]
 | .ag l,u,hx=>by simp only [SV.Is,SV.vltL_is h l _ (show SV.vltL na l=true by simpa only [SV.vlt] using hx)]
 | .tp l,u,hx=>by simp only [SV.Is,SV.vltL_is h l _ (show SV.vltL na l=true by simpa only [SV.vlt] using hx)]
 | .va i,u,hx=>by simp only [SV.Is];exact Iff.rfl
 | .dv i,u,hx=>by simp only [SV.Is]
 | .sn,u,hx=>by simp only [SV.Is]
 | .pn,u,hx=>by simp only [SV.Is]
 | .mn,u,hx=>by simp only [SV.Is]
 | .fz,u,hx=>by simp only [SV.Is]
 | .fcn,u,hx=>by simp only [SV.Is]
 | .fs i y,u,hx=>by
   simp only [SV.Is,SI.vlt_den h (show y.vlt na=true by simpa only [SV.vlt] using hx),Fz.fi_iff (σ:=sta FI FB kv iv bv) (τ:=sta FI FB kv iv' bv') rfl rfl]
 | .fe,u,hx=>by simp only [SV.Is]
 | .fp i y j f,u,hx=>by
   have hx':(bif y.vlt na then j.vlt na else false)=true:=by simpa only [SV.vlt] using hx
   simp only [cond_true_iff] at hx'
   simp only [SV.Is,SI.vlt_den h hx'.1,SI.vlt_den h hx'.2,Fz.fi_iff (σ:=sta FI FB kv iv bv) (τ:=sta FI FB kv iv' bv') rfl rfl]
 | .sf y,u,hx=>by
   simp only [SV.Is,SI.vlt_den h (show y.vlt na=true by simpa only [SV.vlt] using hx)]
   exact Iff.rfl
theorem SV.vltL_is (h:Agr na iv bv iv' bv') {ρ:Dyn}:∀ (l:List SV) (us:List Value),SV.vltL na l=true→(SV.IsL (sta FI FB kv iv' bv') ρ l us↔SV.IsL (sta FI FB kv iv bv) ρ l us)
 | [],us,hx=>by simp only [SV.IsL]
 | a::l,us,hx=>by
   have hx':(bif SV.vlt na a then SV.vltL na l else false)=true:=by simpa only [SV.vltL] using hx
   simp only [cond_true_iff] at hx'
   simp only [SV.IsL,SV.vlt_is h a _ hx'.1,SV.vltL_is h l _ hx'.2]
end
theorem val_sta2 {κ:Kd} {c:Int} {j f:Nat}:κ.val (sta FI FB kv iv' bv') c j f=κ.val (sta FI FB kv iv bv) c j f:=by cases κ<;>rfl
theorem Bk.vlt_is (h:Agr na iv bv iv' bv') {ρ:Dyn} {bk:Bk} {o:Obj} (hx:bk.vlt na=true):bk.Is (sta FI FB kv iv' bv') ρ o↔bk.Is (sta FI FB kv iv bv) ρ o:=by
 unfold Bk.vlt at hx
 split at hx
 ·simp only [cond_true_iff] at hx
  simp only [Bk.Is,SI.vlt_den h hx.1,SI.vlt_den h hx.2.1,SI.vlt_den h hx.2.2,ArIs,val_sta2 (iv:=iv) (iv':=iv') (bv:=bv) (bv':=bv'),KR.fi_iff (σ:=sta FI FB kv iv bv) (τ:=sta FI FB kv iv' bv') rfl rfl]
 ·simp only [Bk.Is,SV.vltL_is h _ _ hx]
 ·simp only [cond_true_iff] at hx
  simp only [Bk.Is,SV.vltL_is h _ _ hx.1,SI.vlt_den h hx.2,preL]
 ·simp only [Bk.Is,SI.vlt_den h hx]
  exact ⟨fun ⟨cv,l,cl,a,b,c⟩=>⟨cv,l,cl,a,⟨b.ent,b.st,b.has,b.no,b.len,b.clk,b.rng⟩,c⟩,fun ⟨cv,l,cl,a,b,c⟩=>⟨cv,l,cl,a,⟨b.ent,b.st,b.has,b.no,b.len,b.clk,b.rng⟩,c⟩⟩
 ·cases hx
def Out.vlt (na:Nat) (o:Out):Bool:=
 bif lall (fun p=>p.1.vlt na) o.cs then (bif SV.vlt na o.z then (bif lall (fun p=>p.2.vlt na) o.hp then lall (fun p=>p.1.vlt na) o.fs else false) else false) else false
theorem Out.vlt_is (h:Agr na iv bv iv' bv') {F:Nat→Option Obj} {w0 w':World} {u:Value} {o:Out} (hx:o.vlt na=true) (ho:OutIs (sta FI FB kv iv' bv') F w0 w' u o):OutIs (sta FI FB kv iv bv) F w0 w' u o:=by
 unfold Out.vlt at hx
 simp only [cond_true_iff] at hx
 obtain ⟨_,x2,x3,x4⟩:=hx
 obtain ⟨ρ,f1,f2,f3,f4,f5,f6,f7,f9,f8⟩:=ho
 refine ⟨ρ,fun p hp=>?_,fun i bk hm=>?_,f3,f4,f5,f6,f7,f9,?_⟩
 ·rw [← SB.vlt_den h (lall_iff.1 x4 p hp)];exact f1 p hp
 ·obtain ⟨g1,b,obj,g2,g3,g4⟩:=f2 i bk hm
  exact ⟨g1,b,obj,g2,g3,(Bk.vlt_is h (lall_iff.1 x3 _ hm)).1 g4⟩
 ·exact (SV.vlt_is h o.z u x2).1 f8
end
def gvAr (l:List Gv):Nat→List (Nat×SR×SI×List Kd×SI×SI):=
 List.rec (motive:=fun _=>Nat→List (Nat×SR×SI×List Kd×SI×SI)) (fun _=>[]) (fun G _ ih j=>bif lall Kd.flat G.lay then (j,.k G.a,G.o,G.lay,.v G.c,G.n)::ih (Nat.succ j) else ih (Nat.succ j)) l
theorem gvAr_mem:∀ {l:List Gv} {j0 j:Nat} {r:SR} {o:SI} {lay:List Kd} {c n:SI},(j,r,o,lay,c,n)∈gvAr l j0→∃ i G,l[i]? = some G∧j=j0+i∧r=.k G.a∧o=G.o∧lay=G.lay∧c=.v G.c∧n=G.n∧lall Kd.flat G.lay=true
 | [],j0,j,r,o,lay,c,n,h=>by cases h
 | G::l,j0,j,r,o,lay,c,n,h=>by
   have h':(j,r,o,lay,c,n)∈(bif lall Kd.flat G.lay then (j0,SR.k G.a,G.o,G.lay,SI.v G.c,G.n)::gvAr l (Nat.succ j0) else gvAr l (Nat.succ j0)):=h
   have up:(j,r,o,lay,c,n)∈gvAr l (Nat.succ j0)→∃ i G',(G::l)[i]? = some G'∧j=j0+i∧r=.k G'.a∧o=G'.o∧lay=G'.lay∧c=.v G'.c∧n=G'.n∧lall Kd.flat G'.lay=true:=fun h'=>by
    obtain ⟨i,G',h1,h2,h3⟩:=gvAr_mem h'
    exact ⟨i+1,G',by simpa using h1,by rw [h2];simp only [Nat.succ_eq_add_one];omega,h3⟩
   cases hf:lall Kd.flat G.lay with
   | false=>rw [hf] at h';exact up h'
   | true=>
     rw [hf] at h'
     rcases List.mem_cons.1 h' with e | h'
     ·cases e;exact ⟨0,G,rfl,rfl,rfl,rfl,rfl,rfl,rfl,hf⟩
     ·exact up h'
def ccOf (P:Program) (BF:List (Nat×Int×Int)) (eqt:List TypeId) (c:Con):Cc:=⟨P,⟨[],BF⟩,[],eqt,gvAr c.G 1,c.ow⟩
def upTo (n:Nat):List Nat:=Nat.rec (motive:=fun _=>List Nat) [0] (fun i ih=>Nat.succ i::ih) n
def tm0 (c:Con) (fn:Func) (body:Code):Tm:=
 ⟨enterF c.g fn body c.A,[],{ heap:=[],nb:=0,nd:=0,nv:=0,facts:=c.F,phis:=upTo (llen c.G),bd:=c.B },[]⟩
def Con.chk (na:Nat) (c:Con):Bool:=
 bif lall (fun G=>bif G.o.vlt na then (bif G.n.vlt na then Nat.blt G.c na else false) else false) c.G then lall (fun o=>o.vlt na) c.os else false
def LsOk (cc:Cc) (E:Ents) (stop:Fr→List Fr→Bool) (N n d:Nat) (all:List Tm) (os:List Out):List Tm→List (List Lf)→Prop
 | [],[]=>True
 | T::Ts,l::L=>(ex cc E (dw cc E n d) stop N T.f T.fs T.H).lfs cc all os=some l∧LsOk cc E stop N n d all os Ts L
 | _,_=>False
theorem LsOk.get {cc:Cc} {E:Ents} {stop:Fr→List Fr→Bool} {N n d:Nat} {all:List Tm} {os:List Out}:∀ {Ts:List Tm} {L:List (List Lf)},LsOk cc E stop N n d all os Ts L→∀ (k:Nat) (T:Tm),Ts[k]? = some T→∃ l,L[k]? = some l∧(ex cc E (dw cc E n d) stop N T.f T.fs T.H).lfs cc all os=some l
 | [],[],_,k,T,h=>by simp at h
 | [],_::_,h,_,_,_=>h.elim
 | _::_,[],h,_,_,_=>h.elim
 | T0::Ts,l::L,⟨h1,h2⟩,k,T,h=>by
   cases k with
   | zero=>simp at h;subst h;exact ⟨l,rfl,h1⟩
   | succ k=>simp at h;obtain ⟨l',h3,h4⟩:=LsOk.get h2 k T h;exact ⟨l',by simpa using h3,h4⟩
def atLoop (f:Fr):Bool:=
 match f.todo with
 | .inLoop _::_=>true
 | .code (.loop _)::_=>true
 | _=>false
def stopX (l:List Nat) (f:Fr) (_:List Fr):Bool:=bif atLoop f then (bif lmem l f.fn then false else true) else false
def gvPhi (σ:Sta) (c:Con) (w:World) (j:Nat) (U:Nat→Obj→Prop):Prop:=
 (j=0→∀ b o,w.heap[b]? = some o→U b o)∧(∀ i G,j=1+i→c.G[i]? = some G→∀ on nv,G.o.den σ dyn0=some (Int.ofNat on)→G.n.den σ dyn0=some (Int.ofNat nv)→
   ∀ jj,jj < nv→∀ f κ,G.lay[f]? = some κ→∃ (A:Array Value) (t:TypeId) (fz:Nat×Nat),U (σ.kv G.a) (.cells A t fz)∧A[on+jj * G.lay.length+f]? = some (κ.val σ (σ.iv G.c) jj f))
theorem gvPhi_mono (σ:Sta) (c:Con) (w:World) (j:Nat) (U U':Nat→Obj→Prop) (h:∀ b o,U b o→U' b o) (k:gvPhi σ c w j U):gvPhi σ c w j U':=by
 obtain ⟨k1,k2⟩:=k
 refine ⟨fun hj b o hw=>h b o (k1 hj b o hw),fun i G hj hg on nv e1 e2 jj hjj f κ hκ=>?_⟩
 obtain ⟨A,t,fz,u1,u2⟩:=k2 i G hj hg on nv e1 e2 jj hjj f κ hκ
 exact ⟨A,t,fz,h _ _ u1,u2⟩
def gvX (FI:FIx) (FB:FBx) (kv:Kv) (iv0:Nat→Int) (bv0:Nat→Bool) (c:Con) (F0:Nat→Option Obj) (w:World):Cx:=
 { FI,FB,kv,F0,X:=fun _=>False,phi:=gvPhi (sta FI FB kv iv0 bv0) c w,mono:=gvPhi_mono (sta FI FB kv iv0 bv0) c w }
theorem Con.of_cuts {P:Program} {eqt:List TypeId} {FI:FIx} {FB:FBx} {BF:List (Nat×Int×Int)} (hP:POk P eqt) (hFI:FiOk FI FB BF) {E:Cc→Ents} (hE:EntsFor P FI FB E) (c:Con) {fn:Func} {body:Code} (hfn:P.funcs[c.g]? = some fn) (hbd:fn.body=some body)
  (na:Nat) (Ts:List Tm) (hchk:(bif c.chk na then lall (fun T=>lall (fun i=>Nat.ble na i) T.vs) Ts else false)=true) {stop:Fr→List Fr→Bool} {N n d:Nat} (L:List (List Lf))
  (hL:LsOk (ccOf P BF eqt c) (E (ccOf P BF eqt c)) stop N n d (tm0 c fn body::Ts) c.os (tm0 c fn body::Ts) L)
  (Inv:(Nat→Int)→(Nat→Bool)→Nat→(Nat→Int)→(Nat→Bool)→Prop) (mu:(Nat→Int)→(Nat→Bool)→Nat→(Nat→Int)→(Nat→Bool)→Nat) (h0:∀ kv iv bv,InB c.B iv→(∀ p∈c.F,p.1.den (sta FI FB kv iv bv) dyn0=some p.2)→Inv iv bv 0 iv bv)
  (hO:∀ kv iv0 bv0,InB c.B iv0→(∀ p∈c.F,p.1.den (sta FI FB kv iv0 bv0) dyn0=some p.2)→∀ k l iv bv,L[k]? = some l→Agr na iv0 bv0 iv bv→Inv iv0 bv0 k iv bv→∀ lf∈l,LfOk (sta FI FB kv) (tm0 c fn body::Ts) c.os (Inv iv0 bv0) (mu iv0 bv0) k iv bv lf):c.Ok P FI FB:=by
 rw [cond_true_iff] at hchk
 obtain ⟨hck,hvs⟩:=hchk
 unfold Con.chk at hck
 rw [cond_true_iff] at hck
 obtain ⟨hckG,hckO⟩:=hck
 intro kv iv0 bv0 hin hF w hG F0 hF0 us hus
 let X:Cx:=gvX FI FB kv iv0 bv0 c F0 w
 have hbase:∀ U,X.phi 0 U↔∀ b o,w.heap[b]? = some o→U b o:=fun U=>⟨fun h=>h.1 rfl,fun h=>⟨fun _=>h,fun i G hj=>by omega⟩⟩
 have hGden:∀ G∈c.G,∀ iv bv,Agr na iv0 bv0 iv bv→G.o.den (sta FI FB kv iv bv) dyn0=G.o.den (sta FI FB kv iv0 bv0) dyn0∧G.n.den (sta FI FB kv iv bv) dyn0=G.n.den (sta FI FB kv iv0 bv0) dyn0∧iv G.c=iv0 G.c:=by
  intro G hGm iv bv ha
  have:=lall_iff.1 hckG G hGm
  simp only [cond_true_iff] at this
  exact ⟨SI.vlt_den ha this.1,SI.vlt_den ha this.2.1,ha.1 _ (by simpa [Nat.blt_eq] using this.2.2)⟩
 have hcc:∀ iv bv,Agr na iv0 bv0 iv bv→(ccOf P BF eqt c).Ok (X.ct iv bv):=by
  intro iv bv ha
  refine ⟨⟨(fun _ _ _ h=>by cases h),hFI.bf⟩,(fun _ _ _ _ hm=>by cases hm),hP.eqt,hP.names,hP.ov,hP.mixed,hFI.al kv iv bv,?_⟩
  intro j r o lay cd n hm ρ U hphi
  obtain ⟨i,G,h1,rfl,rfl,rfl,rfl,rfl,rfl,hfl⟩:=gvAr_mem hm
  have hGm:=List.mem_of_getElem? h1
  obtain ⟨on,nv,e1,e2,_⟩:=hG G hGm
  obtain ⟨d1,d2,d3⟩:=hGden G hGm iv bv ha
  have o1:G.o.den (sta FI FB kv iv bv) ρ=some (Int.ofNat on):=SI.den_mono (ρ:=dyn0) ⟨(fun _ _ h=>by cases h),(fun _ _ h=>by cases h),(fun _ _ h=>by cases h),(fun _ _ h=>by cases h)⟩ _ _ (by rw [d1];exact e1)
  have n1:G.n.den (sta FI FB kv iv bv) ρ=some (Int.ofNat nv):=SI.den_mono (ρ:=dyn0) ⟨(fun _ _ h=>by cases h),(fun _ _ h=>by cases h),(fun _ _ h=>by cases h),(fun _ _ h=>by cases h)⟩ _ _ (by rw [d2];exact e2)
  refine ⟨kv.n G.a,on,iv G.c,nv,rfl,o1,rfl,n1,fun jj hjj f κ hκ=>?_⟩
  obtain ⟨A,t,fz,u1,u2⟩:=hphi.2 i G rfl h1 on nv e1 e2 jj hjj f κ hκ
  refine ⟨A,t,fz,u1,(KR.flat (lall_iff.1 hfl κ (List.mem_of_getElem? hκ))).2 ?_⟩
  rw [u2,d3];rfl
 have hE':∀ iv bv,Agr na iv0 bv0 iv bv→EntsOk (ccOf P BF eqt c) (X.ct iv bv) (E (ccOf P BF eqt c)):=fun iv bv ha=>hE _ _ (hcc iv bv ha) rfl ⟨kv,iv,bv,rfl⟩
 intro cs
 have henter:Sat (X.ct iv0 bv0) (fun _=>none) w cs (dynF F0) (tm0 c fn body).f (tm0 c fn body).fs (tm0 c fn body).H (lone (Frame.enter P c.g us.toArray .normal) cs w):=by
  refine ⟨_,[],w,rfl,enterF_ok hfn hbd hus,rfl,?_⟩
  refine ⟨(fun _ _ h=>by cases h),(fun _ _ _ _ _ h=>by cases h),(fun _ _=>rfl),(fun _ _=>rfl),(fun _ _=>rfl),(fun _ _ h=>by cases h),(fun _ _ h=>by cases h),(fun _ _ h=>by cases h),?_,(fun p hp=>by rw [dynF_denB];exact hF p hp),hin,fun j hj=>?_,(fun b o e=>⟨⟨hF0 b o e,rfl,by rintro ⟨id,bk,h,_⟩;cases h⟩,.inl e⟩),rfl,rfl,rfl,Nat.le_refl _⟩
  ·rintro b ⟨id,bk,h,_⟩;cases h
  ·have hU:∀ b o,w.heap[b]? = some o→Un (fun _=>none) (dynF F0) ([]:List (Nat×Bk)) w b o:=fun b o h=>⟨h,rfl,by rintro ⟨id,bk,h,_⟩;cases h⟩
   refine ⟨fun _ b o h=>hU b o h,fun i G hji hg on nv e1 e2 jj hjj f κ hκ=>?_⟩
   obtain ⟨on',nv',e1',e2',hcell⟩:=hG G (List.mem_of_getElem? hg)
   rw [e1] at e1';rw [e2] at e2'
   have q1:on=on':=by injection e1' with h;injection h
   have q2:nv=nv':=by injection e2' with h;injection h
   subst q1 q2
   have hc:=hcell jj hjj f κ hκ
   simp only [World.cell?] at hc
   split at hc
   ·rename_i A t fz hA
    exact ⟨A,t,fz,hU _ _ hA,by simpa using hc⟩
   ·cases hc
 have hfin:=cuts_ok (na:=na) (iv0:=iv0) (bv0:=bv0) (X:=X) (cc:=ccOf P BF eqt c) (E:=E (ccOf P BF eqt c)) (Ts:=tm0 c fn body::Ts) (os:=c.os) (Inv:=Inv iv0 bv0) (mu:=mu iv0 bv0) (w0:=w) (hc:=fun _=>none) (cs:=cs) (bot:=(c.g,true))
  (R:=fun u w'=>Below w.heap.size w w'∧∀ o∈c.os,(∀ p∈o.cs,p.1.den (sta FI FB kv iv0 bv0) dyn0=some p.2)→OutIs (sta FI FB kv iv0 bv0) F0 w w' u o)
  hbase (fun _ h=>h) (fun T hT i hi=>?_) hcc hE' (stop:=stop) (N:=N) (n:=n) (d:=d) (L:=fun k=>(L[k]?).getD []) (fun k T hT=>?_) (fun k T iv bv hT ha hi lf hlf=>?_) (fun k iv bv j o u w' ha hi hj hout hbel hoth=>?_)
  (mu iv0 bv0 0 iv0 bv0+1) 0 (tm0 c fn body) iv0 bv0 rfl (Nat.lt_succ_self _) ⟨fun _ _=>rfl,fun _ _=>rfl⟩ (h0 kv iv0 bv0 hin hF) (dynF F0) _ henter rfl
 ·obtain ⟨u,w',hends,hr1,hr2⟩:=hfin
  obtain ⟨fr,h1,h2,h3⟩:=hends.ret rfl
  exact ⟨.returned u,w',fr,⟨u,rfl,hr1,hr2⟩,h1,h2,h3⟩
 ·rcases List.mem_cons.1 hT with rfl | hT
  ·cases hi
  ·exact Nat.le_of_ble_eq_true (lall_iff.1 (lall_iff.1 hvs T hT) i hi)
 ·obtain ⟨l,h1,h2⟩:=hL.get k T hT
  rw [h2,h1];rfl
 ·obtain ⟨l,h1,h2⟩:=hL.get k T hT
  rw [h1] at hlf
  exact hO kv iv0 bv0 hin hF k l iv bv h1 ha hi lf hlf
 ·refine ⟨hbel,fun o' ho' hcs=>?_⟩
  obtain ⟨i,hio⟩:=List.getElem?_of_mem ho'
  have hv:=lall_iff.1 hckO o' ho'
  have hcs':∀ p∈o'.cs,p.1.den (sta FI FB kv iv bv) dyn0=some p.2:=by
   intro p hp
   have hv':=hv
   unfold Out.vlt at hv'
   rw [cond_true_iff] at hv'
   rw [SB.vlt_den ha (lall_iff.1 hv'.1 p hp)];exact hcs p hp
  by_cases hij:i=j
  ·subst hij
   rw [hj] at hio;cases hio
   exact Out.vlt_is ha hv hout
  ·exact (hoth i o' hio hij hcs').elim
end
end Go.Sx
namespace Go.Sx
set_option linter.unusedVariables false
set_option linter.unusedSimpArgs false
def bs (l:List Nat):ByteArray:=⟨(l.map UInt8.ofNat).toArray⟩
def pr (a b:Nat):Nat:=2 ^ a * (2 * b+1)
theorem pr_pos (a b:Nat):0 < pr a b:=Nat.mul_pos (Nat.pow_pos (by omega)) (by omega)
theorem pr_inj:∀ {a b c d:Nat},pr a b=pr c d→a=c∧b=d:=by
 intro a
 induction a with
 | zero=>
   intro b c d h
   cases c with
   | zero=>simp [pr] at h;exact ⟨rfl,by omega⟩
   | succ c=>
     exfalso
     simp only [pr,Nat.pow_zero,Nat.one_mul,Nat.pow_succ] at h
     have:2 ^ c * 2 * (2 * d+1)=2 * (2 ^ c * (2 * d+1)):=by rw [Nat.mul_comm (2 ^ c) 2,Nat.mul_assoc]
     omega
 | succ a ih=>
   intro b c d h
   cases c with
   | zero=>
     exfalso
     simp only [pr,Nat.pow_zero,Nat.one_mul,Nat.pow_succ] at h
     have:2 ^ a * 2 * (2 * b+1)=2 * (2 ^ a * (2 * b+1)):=by rw [Nat.mul_comm (2 ^ a) 2,Nat.mul_assoc]
     omega
   | succ c=>
     have h1:2 ^ a * 2 * (2 * b+1)=2 * (2 ^ a * (2 * b+1)):=by rw [Nat.mul_comm (2 ^ a) 2,Nat.mul_assoc]
     have h2:2 ^ c * 2 * (2 * d+1)=2 * (2 ^ c * (2 * d+1)):=by rw [Nat.mul_comm (2 ^ c) 2,Nat.mul_assoc]
     have h3:pr a b=pr c d:=by
      simp only [pr,Nat.pow_succ] at h ⊢
      omega
     obtain ⟨e1,e2⟩:=ih h3
     exact ⟨by omega,e2⟩
def zig:Int→Nat
 | .ofNat n=>2 * n
 | .negSucc n=>2 * n+1
theorem zig_inj {a b:Int} (h:zig a=zig b):a=b:=by
 cases a<;>cases b<;>simp only [zig] at h
 ·congr 1;omega
 ·omega
 ·omega
 ·congr 1;omega
def encL:List (Nat×Nat×Int)→Nat
 | []=>0
 | (j,f,x)::l=>pr (pr j (pr f (zig x))) (encL l)
theorem encL_inj:∀ {l l':List (Nat×Nat×Int)},encL l=encL l'→l=l'
 | [],[],_=>rfl
 | [],(j,f,x)::l,h=>by have:=pr_pos (pr j (pr f (zig x))) (encL l);simp only [encL] at h;omega
 | (j,f,x)::l,[],h=>by have:=pr_pos (pr j (pr f (zig x))) (encL l);simp only [encL] at h;omega
 | (j,f,x)::l,(j',f',x')::l',h=>by
   obtain ⟨h1,h2⟩:=pr_inj h
   obtain ⟨h3,h4⟩:=pr_inj h1
   obtain ⟨h5,h6⟩:=pr_inj h4
   rw [h3,h5,zig_inj h6,encL_inj h2]
open Classical in
noncomputable def decL (c:Int):List (Nat×Nat×Int):=if h:∃ l,(encL l:Int)=c then Classical.choose h else []
theorem decL_enc (l:List (Nat×Nat×Int)):decL (encL l)=l:=by
 have h:∃ l',(encL l':Int)=(encL l:Int):=⟨l,rfl⟩
 unfold decL
 rw [dif_pos h]
 exact encL_inj (Int.ofNat.inj (Classical.choose_spec h))
def getL (l:List (Nat×Nat×Int)) (j f:Nat):Int:=match l with
 | []=>0
 | (j',f',x)::l=>if j'=j∧f'=f then x else getL l j f
noncomputable def gt (c:Int) (j f:Nat):Int:=getL (decL c) j f
theorem gt_zero (j f:Nat):gt 0 j f=0:=by
 have:decL 0=[]:=decL_enc []
 unfold gt;rw [this];rfl
noncomputable def setC (c j f x:Int):Int:=encL ((j.toNat,f.toNat,x)::decL c)
theorem gt_set (c:Int) (j f:Nat) (x:Int) (j' f':Nat):gt (setC c j f x) j' f'=if j'=j∧f'=f then x else gt c j' f':=by
 unfold gt setC
 rw [decL_enc]
 simp only [getL,Int.toNat_natCast]
 by_cases h:j'=j∧f'=f
 ·rw [if_pos h,if_pos ⟨h.1.symm,h.2.symm⟩]
 ·rw [if_neg h,if_neg (fun hh=>h ⟨hh.1.symm,hh.2.symm⟩)]
theorem gt_setI (c j f x:Int) (j' f':Nat):gt (setC c j f x) j' f'=if j'=j.toNat∧f'=f.toNat then x else gt c j' f':=by
 unfold gt setC
 rw [decL_enc]
 simp only [getL]
 by_cases h:j'=j.toNat∧f'=f.toNat
 ·rw [if_pos h,if_pos ⟨h.1.symm,h.2.symm⟩]
 ·rw [if_neg h,if_neg (fun hh=>h ⟨hh.1.symm,hh.2.symm⟩)]
def shL (i i' n:Nat) (l:List (Nat×Nat×Int)):List (Nat×Nat×Int):=l.filterMap fun e=>if i'≤e.1∧e.1 < i'+n then some (i+(e.1 - i'),e.2.1,e.2.2) else none
def outL (i n:Nat) (l:List (Nat×Nat×Int)):List (Nat×Nat×Int):=l.filter fun e=>!(decide (i≤e.1) && decide (e.1 < i+n))
noncomputable def blitC (c i c' i' n:Int):Int:=encL (shL i.toNat i'.toNat n.toNat (decL c')++outL i.toNat n.toNat (decL c))
theorem getL_out:∀ (l:List (Nat×Nat×Int)) (i n j f:Nat),getL (outL i n l) j f=if i≤j∧j < i+n then 0 else getL l j f
 | [],i,n,j,f=>by simp [outL,getL]
 | (j',f',x)::l,i,n,j,f=>by
   have ih:=getL_out l i n j f
   unfold outL at ih ⊢
   simp only [List.filter_cons]
   by_cases hin:i≤j'∧j' < i+n
   ·have:(!(decide (i≤j') && decide (j' < i+n)))=false:=by simp [hin.1,hin.2]
    rw [this]
    simp only [Bool.false_eq_true,if_false,ih]
    by_cases hj:i≤j∧j < i+n
    ·rw [if_pos hj,if_pos hj]
    ·rw [if_neg hj,if_neg hj]
     have hne:¬ (j'=j∧f'=f):=fun h=>hj (h.1 ▸ hin)
     simp [getL,hne]
   ·have:(!(decide (i≤j') && decide (j' < i+n)))=true:=by
     simp only [Bool.not_eq_true',Bool.and_eq_false_iff,decide_eq_false_iff_not]
     by_cases h1:i≤j'
     ·exact .inr fun h2=>hin ⟨h1,h2⟩
     ·exact .inl h1
    rw [this]
    simp only [if_true,getL,ih]
    by_cases h:j'=j∧f'=f
    ·rw [if_pos h,if_pos h,if_neg (fun hh=>hin (h.1 ▸ hh))]
    ·rw [if_neg h,if_neg h]
open Classical in
theorem getL_app:∀ (l l':List (Nat×Nat×Int)) (i i' n j f:Nat),getL (shL i i' n l++l') j f=if i≤j∧j < i+n∧(∃ x,(i'+(j - i),f,x)∈l) then getL l (i'+(j - i)) f else getL l' j f
 | [],l',i,i',n,j,f=>by simp [shL]
 | (j0,f0,x)::l,l',i,i',n,j,f=>by
   have ih:=getL_app l l' i i' n j f
   unfold shL at ih ⊢
   simp only [List.filterMap_cons]
   by_cases hin:i'≤j0∧j0 < i'+n
   ·rw [if_pos hin]
    simp only [List.cons_append,getL]
    by_cases h:i+(j0 - i')=j∧f0=f
    ·rw [if_pos h]
     have hj:i'+(j - i)=j0:=by omega
     rw [if_pos ⟨by omega,by omega,x,by rw [hj,h.2];simp⟩,if_pos ⟨hj.symm,h.2⟩]
    ·rw [if_neg h,ih]
     by_cases hc:i≤j∧j < i+n
     ·have hne:¬ (j0=i'+(j - i)∧f0=f):=fun hh=>h ⟨by omega,hh.2⟩
      rw [if_neg hne]
      by_cases he:∃ y,(i'+(j - i),f,y)∈l
      ·obtain ⟨y,hy⟩:=he
       rw [if_pos ⟨hc.1,hc.2,y,hy⟩,if_pos ⟨hc.1,hc.2,y,by simp [hy]⟩]
      ·rw [if_neg (fun hh=>he hh.2.2),if_neg]
       rintro ⟨_,_,y,hy⟩
       rcases List.mem_cons.1 hy with e | hy
       ·cases e;exact hne ⟨rfl,rfl⟩
       ·exact he ⟨y,hy⟩
     ·rw [if_neg (fun hh=>hc ⟨hh.1,hh.2.1⟩),if_neg (fun hh=>hc ⟨hh.1,hh.2.1⟩)]
   ·rw [if_neg hin]
    simp only [ih]
    by_cases hc:i≤j∧j < i+n
    ·have hne:¬ (j0=i'+(j - i)∧f0=f):=fun hh=>hin ⟨by omega,by omega⟩
     simp only [getL,if_neg hne]
     by_cases he:∃ y,(i'+(j - i),f,y)∈l
     ·obtain ⟨y,hy⟩:=he
      rw [if_pos ⟨hc.1,hc.2,y,hy⟩,if_pos ⟨hc.1,hc.2,y,by simp [hy]⟩]
     ·rw [if_neg (fun hh=>he hh.2.2),if_neg]
      rintro ⟨_,_,y,hy⟩
      rcases List.mem_cons.1 hy with e | hy
      ·cases e;exact hne ⟨rfl,rfl⟩
      ·exact he ⟨y,hy⟩
    ·rw [if_neg (fun hh=>hc ⟨hh.1,hh.2.1⟩),if_neg (fun hh=>hc ⟨hh.1,hh.2.1⟩)]
theorem getL_no:∀ (l:List (Nat×Nat×Int)) (j f:Nat),(∀ x,(j,f,x) ∉ l)→getL l j f=0
 | [],_,_,_=>rfl
 | (j',f',x)::l,j,f,h=>by
   simp only [getL]
   rw [if_neg (fun hh=>h x (by simp [hh.1,hh.2])),getL_no l j f fun y hy=>h y (by simp [hy])]
open Classical in
theorem gt_blit (c:Int) (i:Nat) (c':Int) (i' n j f:Nat):gt (blitC c i c' i' n) j f=if i≤j∧j < i+n then gt c' (i'+(j - i)) f else gt c j f:=by
 unfold gt blitC
 rw [decL_enc,getL_app,getL_out]
 simp only [Int.toNat_natCast]
 by_cases hc:i≤j∧j < i+n
 ·rw [if_pos hc,if_pos hc]
  by_cases he:∃ x,(i'+(j - i),f,x)∈decL c'
  ·rw [if_pos ⟨hc.1,hc.2,he⟩]
  ·rw [if_neg (fun hh=>he hh.2.2),getL_no _ _ _ fun x hx=>he ⟨x,hx⟩]
 ·rw [if_neg (fun hh=>hc ⟨hh.1,hh.2.1⟩),if_neg hc,if_neg hc]
def rowL (F:Nat) (g:Nat→Int) (j:Nat):List (Nat×Nat×Int):=(List.range F).map fun f=>(j,f,g f)
noncomputable def arrC (n F:Nat) (g:Nat→Nat→Int):Int:=encL ((List.range n).flatMap fun j=>rowL F (g j) j)
theorem getL_row (F:Nat) (g:Nat→Int) (j j' f:Nat) (l:List (Nat×Nat×Int)):getL (rowL F g j++l) j' f=if j=j'∧f < F then g f else getL l j' f:=by
 unfold rowL
 induction F generalizing l with
 | zero=>simp
 | succ F ih=>
   rw [List.range_succ,List.map_append,List.append_assoc,ih]
   simp only [List.map_cons,List.map_nil,List.singleton_append,getL]
   by_cases h1:j=j'
   ·by_cases h2:f < F
    ·rw [if_pos ⟨h1,h2⟩,if_pos ⟨h1,by omega⟩]
    ·rw [if_neg (fun h=>h2 h.2)]
     by_cases h3:F=f
     ·rw [if_pos ⟨h1,h3⟩,if_pos ⟨h1,by omega⟩,h3]
     ·rw [if_neg (fun h=>h3 h.2),if_neg (by omega)]
   ·rw [if_neg (fun h=>h1 h.1),if_neg (fun h=>h1 h.1),if_neg (fun h=>h1 h.1)]
theorem gt_arrC (n F:Nat) (g:Nat→Nat→Int) (j f:Nat):gt (arrC n F g) j f=if j < n∧f < F then g j f else 0:=by
 unfold gt arrC
 rw [decL_enc]
 have:∀ (n k:Nat) (l:List (Nat×Nat×Int)),getL (((List.range n).map (·+k)).flatMap (fun j=>rowL F (g j) j)++l) j f=if k≤j∧j < n+k∧f < F then g j f else getL l j f:=by
  intro n
  induction n with
  | zero=>intro k l;simp;intro h1 h2;omega
  | succ n ih=>
    intro k l
    rw [List.range_succ,List.map_append,List.flatMap_append,List.append_assoc,ih]
    simp only [List.map_cons,List.map_nil,List.flatMap_cons,List.flatMap_nil,List.append_nil,getL_row]
    by_cases h1:k≤j∧j < n+k∧f < F
    ·rw [if_pos h1,if_pos ⟨h1.1,by omega,h1.2.2⟩]
    ·rw [if_neg h1]
     by_cases h2:n+k=j∧f < F
     ·rw [if_pos h2,if_pos ⟨by omega,by omega,h2.2⟩,h2.1]
     ·rw [if_neg h2,if_neg (by omega)]
 have h:=this n 0 []
 simp only [Nat.add_zero,List.map_id',List.append_nil,Nat.zero_le,true_and] at h
 rw [h];rfl
def uz (n:Nat):Int:=if n % 2=0 then ((n / 2:Nat):Int) else -((n / 2:Nat):Int) - 1
theorem uz_zig (x:Int):uz (zig x)=x:=by
 cases x with
 | ofNat n=>
   have e:zig (Int.ofNat n)=2 * n:=rfl
   rw [e];unfold uz;rw [if_pos (by omega)];show (((2 * n) / 2:Nat):Int)=(n:Int);omega
 | negSucc n=>
   have e:zig (Int.negSucc n)=2 * n+1:=rfl
   rw [e];unfold uz;rw [if_neg (by omega),Int.negSucc_eq];omega
noncomputable def bdL (c:Int):Nat:=(decL c).foldr (fun e m=>max (e.1+1) m) 0
theorem gt_bd {c:Int} {j:Nat} (f:Nat) (h:bdL c≤j):gt c j f=0:=by
 unfold gt
 refine getL_no _ _ _ fun x hx=>?_
 unfold bdL at h
 have:∀ l:List (Nat×Nat×Int),(j,f,x)∈l→j+1≤l.foldr (fun e m=>max (e.1+1) m) 0:=by
  intro l
  induction l with
  | nil=>intro h;cases h
  | cons a l ih=>
    intro h
    simp only [List.foldr_cons]
    rcases List.mem_cons.1 h with e | h
    ·rw [← e];exact Nat.le_max_left _ _
    ·exact Nat.le_trans (ih h) (Nat.le_max_right _ _)
 have:=this _ hx
 omega
def cnt (p:Nat→Bool) (n:Nat):Nat:=((List.range n).filter p).length
theorem cnt_succ (p:Nat→Bool) (n:Nat):cnt p (n+1)=cnt p n+(if p n then 1 else 0):=by
 unfold cnt
 rw [List.range_succ,List.filter_append,List.length_append]
 cases h:p n<;>simp [h]
theorem cnt_bd {p:Nat→Bool} {n:Nat} (h:∀ j,n≤j→p j=false):∀ m,n≤m→cnt p m=cnt p n:=by
 intro m
 induction m with
 | zero=>intro hm;have:n=0:=by omega
         rw [this]
 | succ m ih=>
   intro hm
   by_cases e:n=m+1
   ·rw [e]
   ·rw [cnt_succ,ih (by omega),h m (by omega)];simp
theorem cnt_one {p q:Nat→Bool} {x:Nat} (hp:p x=false) (hq:q x=true) (h:∀ j,j≠x→q j=p j):∀ n,x < n→cnt q n=cnt p n+1:=by
 have h0:∀ n,n≤x→cnt q n=cnt p n:=by
  intro n
  induction n with
  | zero=>intro _;rfl
  | succ n ih=>intro hn;rw [cnt_succ,cnt_succ,ih (by omega),h n (by omega)]
 intro n
 induction n with
 | zero=>intro hn;omega
 | succ n ih=>
   intro hn
   rw [cnt_succ,cnt_succ]
   by_cases e:n=x
   ·subst e;rw [h0 n (Nat.le_refl _),hp,hq];simp
   ·rw [ih (by omega),h n e];omega
theorem cnt_same {p q:Nat→Bool} (h:∀ j,q j=p j) (n:Nat):cnt q n=cnt p n:=by rw [show q=p from funext h]
noncomputable def prs (c:Int) (j:Nat):Bool:=decide (gt c j 1≠0)
noncomputable def keysN (c:Int):List Nat:=(List.range (bdL c)).filter (prs c)
noncomputable def lenC (c:Int):Int:=((keysN c).length:Nat)
noncomputable def keyC (c i:Int):Int:=uz ((keysN c)[i.toNat]?.getD 0)
noncomputable def hasC (c x:Int):Bool:=prs c (zig x)
noncomputable def setM (c x y:Int):Int:=if hasC c x then setC c (zig x:Int) 0 y else setC (setC (setC (setC c (zig x:Int) 0 y) (zig x:Int) 1 1) (zig x:Int) 2 (gt c 0 3)) 0 3 (gt c 0 3+1)
noncomputable def delM (c x:Int):Int:=setC (setC c (zig x:Int) 0 0) (zig x:Int) 1 0
noncomputable def stmC (c x:Int):Int:=gt c (zig x) 2
noncomputable def clkC (c:Int):Int:=gt c 0 3
open Classical in
noncomputable def allC (c s:Int):Bool:=decide (∀ x,hasC c x=true→hasC s x=true)
theorem gt_setM (c x y:Int) (j f:Nat):gt (setM c x y) j f=if j=zig x∧f=0 then y else if hasC c x=false∧j=zig x∧f=1 then 1 else if hasC c x=false∧j=zig x∧f=2 then gt c 0 3 else if hasC c x=false∧j=0∧f=3 then gt c 0 3+1 else gt c j f:=by
 have n0:∀ (c:Int) (j:Nat) (x:Int) (j' f':Nat),gt (setC c (j:Int) 0 x) j' f'=if j'=j∧f'=0 then x else gt c j' f':=fun c j x j' f'=>gt_set c j 0 x j' f'
 have n1:∀ (c:Int) (j:Nat) (x:Int) (j' f':Nat),gt (setC c (j:Int) 1 x) j' f'=if j'=j∧f'=1 then x else gt c j' f':=fun c j x j' f'=>gt_set c j 1 x j' f'
 have n2:∀ (c:Int) (j:Nat) (x:Int) (j' f':Nat),gt (setC c (j:Int) 2 x) j' f'=if j'=j∧f'=2 then x else gt c j' f':=fun c j x j' f'=>gt_set c j 2 x j' f'
 have n3:∀ (c:Int) (x:Int) (j' f':Nat),gt (setC c 0 3 x) j' f'=if j'=0∧f'=3 then x else gt c j' f':=fun c x j' f'=>gt_set c 0 3 x j' f'
 unfold setM
 cases h:hasC c x with
 | true=>simp [n0]
 | false=>
   simp only [Bool.false_eq_true,if_false,n0,n1,n2,n3,true_and]
   by_cases h0:f=0
   ·subst h0;simp
   by_cases h1:f=1
   ·subst h1;simp
   by_cases h2:f=2
   ·subst h2;simp
   simp [h0,h1,h2]
theorem gt_delM (c x:Int) (j f:Nat):gt (delM c x) j f=if j=zig x∧(f=0∨f=1) then 0 else gt c j f:=by
 have n0:∀ (c:Int) (j:Nat) (x:Int) (j' f':Nat),gt (setC c (j:Int) 0 x) j' f'=if j'=j∧f'=0 then x else gt c j' f':=fun c j x j' f'=>gt_set c j 0 x j' f'
 have n1:∀ (c:Int) (j:Nat) (x:Int) (j' f':Nat),gt (setC c (j:Int) 1 x) j' f'=if j'=j∧f'=1 then x else gt c j' f':=fun c j x j' f'=>gt_set c j 1 x j' f'
 unfold delM
 rw [n1,n0]
 by_cases h:j=zig x
 ·by_cases h0:f=0
  ·simp [h,h0]
  ·by_cases h1:f=1<;>simp [h,h0,h1]
 ·simp [h]
theorem hasC_zero (x:Int):hasC 0 x=false:=by unfold hasC prs;rw [gt_zero];rfl
theorem prs_setM (c x y:Int) (j:Nat):prs (setM c x y) j=if j=zig x then true else prs c j:=by
 unfold prs
 rw [gt_setM]
 by_cases h:j=zig x
 ·subst h
  cases hh:hasC c x with
  | true=>have:prs c (zig x)=true:=hh
          simp [hh];simpa [prs] using this
  | false=>simp [hh]
 ·simp [h]
theorem prs_delM (c x:Int) (j:Nat):prs (delM c x) j=if j=zig x then false else prs c j:=by
 unfold prs
 rw [gt_delM]
 by_cases h:j=zig x<;>simp [h]
theorem hasC_setM (c x y x':Int):hasC (setM c x y) x'=if x'=x then true else hasC c x':=by
 unfold hasC
 rw [prs_setM]
 by_cases h:x'=x
 ·subst h;simp
 ·rw [if_neg h,if_neg fun e=>h (zig_inj e)]
theorem hasC_delM (c x x':Int):hasC (delM c x) x'=if x'=x then false else hasC c x':=by
 unfold hasC
 rw [prs_delM]
 by_cases h:x'=x
 ·subst h;simp
 ·rw [if_neg h,if_neg fun e=>h (zig_inj e)]
theorem lenC_cnt {c:Int} {n:Nat} (h:bdL c≤n):lenC c=(cnt (prs c) n:Nat):=by
 show ((cnt (prs c) (bdL c):Nat):Int)=_
 rw [cnt_bd (p:=prs c) (n:=bdL c) (fun j hj=>by unfold prs;rw [gt_bd 1 hj];rfl) n h]
theorem lenC_setM (c x y:Int):lenC (setM c x y)=if hasC c x then lenC c else lenC c+1:=by
 have hN:∃ N,bdL c≤N∧bdL (setM c x y)≤N∧zig x < N:=⟨bdL c+bdL (setM c x y)+zig x+1,by omega,by omega,by omega⟩
 obtain ⟨N,h1,h2,h3⟩:=hN
 rw [lenC_cnt h1,lenC_cnt h2]
 cases hh:hasC c x with
 | true=>
   rw [cnt_same (p:=prs c) (q:=prs (setM c x y)) fun j=>?_]
   ·rfl
   ·rw [prs_setM];split
    ·rename_i e;subst e;exact hh.symm
    ·rfl
 | false=>
   rw [cnt_one (p:=prs c) (q:=prs (setM c x y)) (x:=zig x) hh (by rw [prs_setM,if_pos rfl]) (fun j hj=>by rw [prs_setM,if_neg hj]) N h3]
   simp
theorem lenC_delM (c x:Int):lenC (delM c x)=if hasC c x then lenC c - 1 else lenC c:=by
 have hN:∃ N,bdL c≤N∧bdL (delM c x)≤N∧zig x < N:=⟨bdL c+bdL (delM c x)+zig x+1,by omega,by omega,by omega⟩
 obtain ⟨N,h1,h2,h3⟩:=hN
 rw [lenC_cnt h1,lenC_cnt h2]
 cases hh:hasC c x with
 | false=>
   rw [cnt_same (p:=prs c) (q:=prs (delM c x)) fun j=>?_]
   ·rfl
   ·rw [prs_delM];split
    ·rename_i e;subst e;exact hh.symm
    ·rfl
 | true=>
   rw [cnt_one (p:=prs (delM c x)) (q:=prs c) (x:=zig x) (by rw [prs_delM,if_pos rfl]) hh (fun j hj=>by rw [prs_delM,if_neg hj]) N h3]
   simp
theorem keyC_has {c x:Int} (h:hasC c x=true):∃ i:Nat,(i:Int) < lenC c∧keyC c i=x:=by
 have hm:zig x∈keysN c:=by
  unfold keysN
  rw [List.mem_filter,List.mem_range]
  refine ⟨Nat.lt_of_not_le fun hle=>?_,h⟩
  have h':prs c (zig x)=true:=h
  unfold prs at h'
  rw [gt_bd 1 hle] at h'
  cases h'
 obtain ⟨i,hi⟩:=List.mem_iff_getElem?.1 hm
 refine ⟨i,Int.ofNat_lt.2 (List.getElem?_eq_some_iff.1 hi).1,?_⟩
 unfold keyC
 rw [Int.toNat_natCast,hi]
 exact uz_zig x
noncomputable def kindI:Nat→IntKind
 | 0=>.i8 | 1=>.i16 | 2=>.i32 | 3=>.i64 | 4=>.u8 | 5=>.u16 | 6=>.u32 | _=>.u64
theorem kindI_ctor (k:IntKind):kindI k.ctorIdx=k:=by cases k<;>rfl
theorem ctor_lt (k:IntKind):k.ctorIdx < 8:=by cases k<;>decide
noncomputable def flenC (c:Int):Int:=((gt c 0 24).toNat:Int)
theorem frzC_ex (n c:Int):∃ y,(gt y 0 24=n∧∀ j f:Nat,f < 24→gt y j f=gt c j f)∧0≤y:=by
 refine ⟨setC c 0 24 n,⟨by rw [gt_setI,if_pos ⟨rfl,rfl⟩],fun j f h=>?_⟩,by unfold setC;omega⟩
 rw [gt_setI,if_neg]
 rintro ⟨_,h2⟩
 have:f=24:=h2
 omega
noncomputable def frzC (n c:Int):Int:=Classical.choose (frzC_ex n c)
noncomputable def bytesC (y:Int):ByteArray:=⟨((List.range (flenC y).toNat).map fun (j:Nat)=>UInt8.ofNat (IntKind.u8.wrap (gt y j 0)).toNat).toArray⟩
theorem flenC_zero:flenC 0=0:=by unfold flenC;rw [gt_zero];rfl
theorem flenC_nn (c:Int):0≤flenC c:=by unfold flenC;omega
theorem flenC_frz (n:Int) (c:Int) (h:0≤n):flenC (frzC n c)=n:=by
 have:=(Classical.choose_spec (frzC_ex n c)).1.1
 unfold flenC frzC
 rw [this];omega
theorem gt_frz (n c:Int) (j f:Nat) (h:f < 24):gt (frzC n c) j f=gt c j f:=(Classical.choose_spec (frzC_ex n c)).1.2 j f h
theorem frzC_nn (n c:Int):0≤frzC n c:=(Classical.choose_spec (frzC_ex n c)).2
noncomputable def mapF (e a b c d:Int):Int:=if e=10 then gt a b.toNat c.toNat else if e=11 then frzC b a else if e=1 then setM a b d else if e=2 then lenC a else if e=3 then delM a b else if e=5 then stmC a b else if e=6 then clkC a else setC a b c d
noncomputable def mkFI (U:FIx):FIx:=fun i a b c d e g=>
 if i < 8 then (kindI i).wrap (if d=2 then keyC a b else gt a (if d=1 then zig b else b.toNat) c.toNat) else if i=8 then mapF e a b c d else if i=9 then blitC a b c d e else if i=200 then flenC a else U i a b c d e g
open Classical in
noncomputable def mkFB (V:FBx):FBx:=fun i a b c d e g=>if i=0 then decide (gt a b.toNat c.toNat≠0) else if i=1 then (if c=1 then allC a b else hasC a b) else if i=2 then decide (bytesC a=bytesC b) else V i a b c d e g
theorem bytesOf_eq {S:Sta} (y:Int) (e9:∀ c,flen S c=flenC c) (e0:∀ (k:IntKind) (j:Nat),S.fi k.ctorIdx y j 0 0 0 0=k.wrap (gt y j 0)):bytesOf S y=bytesC y:=by
 unfold bytesOf bytesC
 rw [e9]
 have e1:(fun j:Nat=>UInt8.ofNat (S.fi (IntKind.u8).ctorIdx y j 0 0 0 0).toNat)=fun j:Nat=>UInt8.ofNat (IntKind.u8.wrap (gt y j 0)).toNat:=funext fun j=>by rw [e0]
 rw [e1]
theorem val_of (U:FIx) (V:FBx) (kv:Kv) (iv:Nat→Int) (bv:Nat→Bool) (κ:Kd) (c:Int) (j f:Nat):κ.val (sta (mkFI U) (mkFB V) kv iv bv) c j f=κ.of (gt c j f):=by
 cases κ with
 | nt k=>
   simp only [Kd.val,Kd.of,sta,mkFI,ctor_lt,if_true,kindI_ctor,Int.toNat_natCast,Int.reduceEq,if_false]
 | tv=>simp only [Kd.val,Kd.of,sta,mkFB,if_true,Int.toNat_natCast]
 | fs i=>simp [Kd.val,Kd.of,fcod,sta,mkFI,mapF]
theorem flen_of (U:FIx) (V:FBx) (kv:Kv) (iv:Nat→Int) (bv:Nat→Bool) (c:Int):flen (sta (mkFI U) (mkFB V) kv iv bv) c=flenC c:=by simp [flen,sta,mkFI]
theorem arrLaw (U:FIx) (V:FBx) (kv:Kv) (iv:Nat→Int) (bv:Nat→Bool):ArrLaw (sta (mkFI U) (mkFB V) kv iv bv):=by
 have hv:=val_of U V kv iv bv
 have h8:∀ c (j f:Nat) x,(sta (mkFI U) (mkFB V) kv iv bv).fi 8 c j f x 0 0=setC c j f x:=fun _ _ _ _=>by simp [sta,mkFI,mapF]
 have h9:∀ c (i:Nat) c' (i' n:Nat),(sta (mkFI U) (mkFB V) kv iv bv).fi 9 c i c' i' n 0=blitC c i c' i' n:=fun _ _ _ _ _=>rfl
 have hg:∀ (k:IntKind) (c x:Int),gm (sta (mkFI U) (mkFB V) kv iv bv) k c x=k.wrap (gt c (zig x) 0):=by
  intro k c x
  simp [gm,sta,mkFI,ctor_lt,kindI_ctor]
 have e1:∀ c x y,sm (sta (mkFI U) (mkFB V) kv iv bv) c x y=setM c x y:=fun c x y=>by simp [sm,sta,mkFI,mapF]
 have e2:∀ c,lm (sta (mkFI U) (mkFB V) kv iv bv) c=lenC c:=fun c=>by simp [lm,sta,mkFI,mapF]
 have e3:∀ c x,dm (sta (mkFI U) (mkFB V) kv iv bv) c x=delM c x:=fun c x=>by simp [dm,sta,mkFI,mapF]
 have e4:∀ k c x,km (sta (mkFI U) (mkFB V) kv iv bv) k c x=k.wrap (keyC c x):=fun k c x=>by simp [km,sta,mkFI,ctor_lt,kindI_ctor]
 have e5:∀ c x,stm (sta (mkFI U) (mkFB V) kv iv bv) c x=stmC c x:=fun c x=>by simp [stm,sta,mkFI,mapF]
 have e6:∀ c,clk (sta (mkFI U) (mkFB V) kv iv bv) c=clkC c:=fun c=>by simp [clk,sta,mkFI,mapF]
 have e7:∀ c x,hm (sta (mkFI U) (mkFB V) kv iv bv) c x=hasC c x:=fun c x=>by simp [hm,sta,mkFB]
 have e8:∀ c s,am (sta (mkFI U) (mkFB V) kv iv bv) c s=allC c s:=fun c x=>by simp [am,sta,mkFB]
 have e9:∀ c,flen (sta (mkFI U) (mkFB V) kv iv bv) c=flenC c:=fun c=>by simp [flen,sta,mkFI]
 have e10:∀ n c,frz (sta (mkFI U) (mkFB V) kv iv bv) n c=frzC n c:=fun n c=>by simp [frz,sta,mkFI,mapF]
 have e0:∀ (y:Int) (k:IntKind) (j:Nat),(sta (mkFI U) (mkFB V) kv iv bv).fi k.ctorIdx y j 0 0 0 0=k.wrap (gt y j 0):=fun y k j=>by simp [sta,mkFI,ctor_lt,kindI_ctor]
 have e11:∀ y,bytesOf (sta (mkFI U) (mkFB V) kv iv bv) y=bytesC y:=fun y=>bytesOf_eq y e9 (e0 y)
 refine ⟨fun k x=>?_,fun k c x y x'=>?_,fun k c x x'=>?_,fun x=>?_,fun c x y x'=>?_,fun c x x'=>?_,?_,fun c x y=>?_,fun c x=>?_,fun c=>?_,?_,fun c x y=>?_,fun c x=>?_,fun c x y x'=>?_,fun c x x'=>?_,fun k c x h hx=>?_,fun c s=>?_,fun a b=>?_,?_,fun c=>?_,fun n c=>?_,fun κ n c j f hf=>?_,fun n c=>?_,fun κ j f=>?_,fun κ c j f x j' f'=>?_,fun κ c i c' i' n j f=>?_⟩
 ·rw [hg,gt_zero];cases k<;>decide
 ·rw [hg,hg,e1,gt_setM]
  by_cases hx:x'=x
  ·subst hx;simp
  ·rw [if_neg (fun hh=>hx (zig_inj hh.1)),if_neg hx];simp
 ·rw [hg,hg,e3,gt_delM]
  by_cases hx:x'=x
  ·subst hx;simp;cases k<;>decide
  ·rw [if_neg (fun hh=>hx (zig_inj hh.1)),if_neg hx]
 ·rw [e7,hasC_zero]
 ·rw [e7,e7,e1,hasC_setM]
 ·rw [e7,e7,e3,hasC_delM]
 ·rw [e2];rw [lenC_cnt (n:=bdL 0) (Nat.le_refl _),cnt_bd (n:=0) (fun j _=>by unfold prs;rw [gt_zero];rfl) _ (Nat.zero_le _)];rfl
 ·rw [e2,e2,e1,e7,lenC_setM]
 ·rw [e2,e2,e3,e7,lenC_delM]
 ·rw [e2];unfold lenC;omega
 ·rw [e6];unfold clkC;rw [gt_zero]
 ·rw [e6,e6,e1,e7];unfold clkC;rw [gt_setM]
  cases h:hasC c x<;>simp
 ·rw [e6,e6,e3];unfold clkC;rw [gt_delM];simp
 ·rw [e5,e5,e5,e1,e6,e7];unfold stmC clkC;rw [gt_setM]
  by_cases hx:x'=x
  ·subst hx;cases h:hasC c x'<;>simp
  ·have hz:¬ zig x'=zig x:=fun e=>hx (zig_inj e)
   simp [hx,hz]
 ·rw [e5,e5,e3];unfold stmC;rw [gt_delM];simp
 ·rw [e7] at h
  obtain ⟨i,h1,h2⟩:=keyC_has h
  exact ⟨i,by rw [e2];exact h1,by rw [e4,h2];exact hx⟩
 ·rw [e8];unfold allC
  simp only [decide_eq_true_eq,e7]
 ·rw [e11,e11];simp [sta,mkFB]
 ·rw [e9];exact flenC_zero
 ·rw [e9];exact flenC_nn c
 ·rw [e9,e10];exact flenC_frz _ _ (by omega)
 ·rw [e10,hv,hv,gt_frz _ _ _ _ hf]
 ·rw [e10];exact frzC_nn _ _
 ·rw [hv,gt_zero]
 ·rw [h8,hv,gt_set,hv]
  split<;>rfl
 ·rw [h9,hv,gt_blit,hv,hv]
  split<;>rfl
noncomputable def BF0:List (Nat×Int×Int):=
 [(0,-128,127),(1,-32768,32767),(2,-2147483648,2147483647),(3,-9223372036854775808,9223372036854775807),(4,0,255),(5,0,65535),(6,0,4294967295),(7,0,18446744073709551615),(200,0,-1)]
theorem inR_of {a b x:Int} (h:a≤x∧x≤b):InR a b x:=⟨h.1,by split<;>omega⟩
theorem fiOkR {U:FIx} {V:FBx} {BF:List (Nat×Int×Int)} (h:∀ i a b,(i,a,b)∈BF→(10≤i∧i < 200)∧∀ x0 x1 x2 x3 x4 x5,InR a b (U i x0 x1 x2 x3 x4 x5)):FiOk (mkFI U) (mkFB V) (lapp BF0 BF):=by
 refine ⟨fun i a b hm x0 x1 x2 x3 x4 x5=>?_,fun kv iv bv=>arrLaw U V kv iv bv⟩
 rw [lapp_eq] at hm
 rcases List.mem_append.1 hm with hm | hm
 ·simp only [BF0,List.mem_cons,List.not_mem_nil,or_false,Prod.mk.injEq] at hm
  have hw:=fun k=>wrap_has k (if x3=2 then keyC x0 x1 else gt x0 (if x3=1 then zig x1 else x1.toNat) x2.toNat)
  rcases hm with ⟨rfl,rfl,rfl⟩ | ⟨rfl,rfl,rfl⟩ | ⟨rfl,rfl,rfl⟩ | ⟨rfl,rfl,rfl⟩ | ⟨rfl,rfl,rfl⟩ | ⟨rfl,rfl,rfl⟩ | ⟨rfl,rfl,rfl⟩ | ⟨rfl,rfl,rfl⟩ | ⟨rfl,rfl,rfl⟩
  ·exact inR_of (hw .i8)
  ·exact inR_of (hw .i16)
  ·exact inR_of (hw .i32)
  ·exact inR_of (hw .i64)
  ·exact inR_of (hw .u8)
  ·exact inR_of (hw .u16)
  ·exact inR_of (hw .u32)
  ·exact inR_of (hw .u64)
  ·show InR 0 (-1) (flenC x0)
   exact ⟨flenC_nn x0,by simp⟩
 ·obtain ⟨h1,h2⟩:=h i a b hm
  have e:mkFI U i x0 x1 x2 x3 x4 x5=U i x0 x1 x2 x3 x4 x5:=by
   unfold mkFI
   rw [if_neg (by omega),if_neg (by omega),if_neg (by omega),if_neg (by omega)]
  rw [e];exact h2 x0 x1 x2 x3 x4 x5
theorem wrap_i64 (x:Int):IntKind.i64.wrap x=(x+9223372036854775808) % 18446744073709551616 - 9223372036854775808:=by
 simp only [IntKind.wrap,IntKind.bits,IntKind.signed]
 simp only [Bool.true_and]
 split
 ·rename_i h
  simp only [ge_iff_le,decide_eq_true_eq] at h
  omega
 ·rename_i h
  simp only [ge_iff_le,decide_eq_true_eq] at h
  omega
theorem wrap_u64 (x:Int):IntKind.u64.wrap x=x % 18446744073709551616:=by
 simp only [IntKind.wrap,IntKind.bits,IntKind.signed]
 simp only [Bool.false_and,Bool.false_eq_true,if_false]
 omega
end Go.Sx
namespace Go.Sx
set_option linter.unusedVariables false
noncomputable def kidC (c:Code) (i:Nat):Code:=
 match c with
 | .seq a b=>Nat.rec a (fun _ _=>b) i
 | .cond _ a b=>Nat.rec a (fun _ _=>b) i
 | .block _ b=>b
 | .loop b=>b
 | .rangeFunc _ _ asg body=>Nat.rec asg (fun _ _=>body) i
 | .scope b=>b
 | c=>c
noncomputable def atC (fn:Func) (p:List Nat):Code:=
 List.rec (motive:=fun _=>Code→Code) (fun c=>c) (fun i _ ih c=>ih (kidC c i)) p (fn.body.getD .skip)
noncomputable def opsC (c:Code):Array Oper:=match c with | .region _ ops _=>ops | _=>#[]
end Go.Sx
namespace Go.Sx
set_option linter.unusedVariables false
set_option linter.unusedSimpArgs false
open Go.RowKit
def SI.tv (S:Sta) (δ:Nat→Int):SI→Int
 | .c n=>n
 | .v i=>S.iv i
 | .d i=>δ i
 | .op f x y=>f.eval (x.tv S δ) (y.tv S δ)
 | .wk k x=>k.wrap (x.tv S δ)
 | .ap f x0 x1 x2 x3 x4 x5=>S.fi f (x0.tv S δ) (x1.tv S δ) (x2.tv S δ) (x3.tv S δ) (x4.tv S δ) (x5.tv S δ)
def SB.tp (S:Sta) (δ:Nat→Int):SB→Prop
 | .c b=>b=true
 | .v i=>S.bv i=true
 | .lt x y=>x.tv S δ < y.tv S δ
 | .le x y=>x.tv S δ≤y.tv S δ
 | .eq x y=>x.tv S δ=y.tv S δ
 | .seq x y=>((x.den S).toList == (y.den S).toList)=true
 | .ap f x0 x1 x2 x3 x4 x5=>S.fb f (x0.tv S δ) (x1.tv S δ) (x2.tv S δ) (x3.tv S δ) (x4.tv S δ) (x5.tv S δ)=true
 | .not p=>¬ p.tp S δ
 | .and p q=>p.tp S δ∧q.tp S δ
 | .or p q=>p.tp S δ∨q.tp S δ
def TP (b:Bool) (p:Prop):Prop:=match b with | true=>p | false=>¬ p
def dlt (ρ:Dyn):Nat→Int:=fun i=>match ρ.di i with | some n=>n | none=>0
section
variable {S:Sta} {ρ:Dyn}
theorem SI.tv_of:∀ {x:SI} {a:Int},x.den S ρ=some a→x.tv S (dlt ρ)=a:=by
 intro x
 induction x with
 | c n=>intro a h;cases h;rfl
 | v i=>intro a h;cases h;rfl
 | d i=>
   intro a h
   simp only [SI.den] at h
   cases hd:ρ.di i with
   | none=>rw [hd] at h;cases h
   | some n=>rw [hd] at h;cases h;simp [SI.tv,dlt,hd]
 | op f x y hx hy=>
   intro a h
   simp only [SI.den] at h
   obtain ⟨u,hu,h⟩:=Option.bind_eq_some_iff.1 h
   obtain ⟨v,hv,h⟩:=Option.bind_eq_some_iff.1 h
   cases h
   simp only [SI.tv,hx hu,hy hv]
 | wk k x hx=>
   intro a h
   simp only [SI.den] at h
   obtain ⟨u,hu,h⟩:=Option.bind_eq_some_iff.1 h
   cases h
   simp only [SI.tv,hx hu]
 | ap f a0 a1 a2 a3 a4 a5 h0 h1 h2 h3 h4 h5=>
   intro a h
   simp only [SI.den] at h
   obtain ⟨x0,e0,h⟩:=Option.bind_eq_some_iff.1 h
   obtain ⟨x1,e1,h⟩:=Option.bind_eq_some_iff.1 h
   obtain ⟨x2,e2,h⟩:=Option.bind_eq_some_iff.1 h
   obtain ⟨x3,e3,h⟩:=Option.bind_eq_some_iff.1 h
   obtain ⟨x4,e4,h⟩:=Option.bind_eq_some_iff.1 h
   obtain ⟨x5,e5,h⟩:=Option.bind_eq_some_iff.1 h
   cases h
   simp only [SI.tv,h0 e0,h1 e1,h2 e2,h3 e3,h4 e4,h5 e5]
theorem SB.tp_of:∀ {p:SB} {b:Bool},p.den S ρ=some b→(p.tp S (dlt ρ)↔b=true):=by
 intro p
 induction p with
 | c n=>intro b h;cases h;exact Iff.rfl
 | v i=>intro b h;cases h;exact Iff.rfl
 | seq x y=>intro b h;cases h;exact Iff.rfl
 | lt x y=>
   intro b h
   simp only [SB.den] at h
   obtain ⟨u,hu,h⟩:=Option.bind_eq_some_iff.1 h
   obtain ⟨v,hv,h⟩:=Option.bind_eq_some_iff.1 h
   cases h
   simp only [SB.tp,SI.tv_of hu,SI.tv_of hv,decide_eq_true_eq]
 | le x y=>
   intro b h
   simp only [SB.den] at h
   obtain ⟨u,hu,h⟩:=Option.bind_eq_some_iff.1 h
   obtain ⟨v,hv,h⟩:=Option.bind_eq_some_iff.1 h
   cases h
   simp only [SB.tp,SI.tv_of hu,SI.tv_of hv,decide_eq_true_eq]
 | eq x y=>
   intro b h
   simp only [SB.den] at h
   obtain ⟨u,hu,h⟩:=Option.bind_eq_some_iff.1 h
   obtain ⟨v,hv,h⟩:=Option.bind_eq_some_iff.1 h
   cases h
   simp only [SB.tp,SI.tv_of hu,SI.tv_of hv,decide_eq_true_eq]
 | ap f a0 a1 a2 a3 a4 a5=>
   intro b h
   simp only [SB.den] at h
   obtain ⟨x0,e0,h⟩:=Option.bind_eq_some_iff.1 h
   obtain ⟨x1,e1,h⟩:=Option.bind_eq_some_iff.1 h
   obtain ⟨x2,e2,h⟩:=Option.bind_eq_some_iff.1 h
   obtain ⟨x3,e3,h⟩:=Option.bind_eq_some_iff.1 h
   obtain ⟨x4,e4,h⟩:=Option.bind_eq_some_iff.1 h
   obtain ⟨x5,e5,h⟩:=Option.bind_eq_some_iff.1 h
   cases h
   simp only [SB.tp,SI.tv_of e0,SI.tv_of e1,SI.tv_of e2,SI.tv_of e3,SI.tv_of e4,SI.tv_of e5]
 | not p hp=>
   intro b h
   simp only [SB.den] at h
   obtain ⟨u,hu,h⟩:=Option.bind_eq_some_iff.1 h
   cases h
   simp only [SB.tp,hp hu]
   cases u<;>simp
 | and p q hp hq=>
   intro b h
   simp only [SB.den] at h
   obtain ⟨u,hu,h⟩:=Option.bind_eq_some_iff.1 h
   obtain ⟨v,hv,h⟩:=Option.bind_eq_some_iff.1 h
   cases h
   simp only [SB.tp,hp hu,hq hv]
   cases u<;>cases v<;>simp
 | or p q hp hq=>
   intro b h
   simp only [SB.den] at h
   obtain ⟨u,hu,h⟩:=Option.bind_eq_some_iff.1 h
   obtain ⟨v,hv,h⟩:=Option.bind_eq_some_iff.1 h
   cases h
   simp only [SB.tp,hp hu,hq hv]
   cases u<;>cases v<;>simp
end
def FT (S:Sta) (δ:Nat→Int):List (SB×Bool)→Prop
 | []=>True
 | f::F=>TP f.2 (f.1.tp S δ)∧FT S δ F
def kix:IntKind→Nat
 | .i8=>0 | .i16=>1 | .i32=>2 | .i64=>3 | .u8=>4 | .u16=>5 | .u32=>6 | .u64=>7
theorem kix_eq (k:IntKind):kix k=k.ctorIdx:=by cases k<;>rfl
def rowT (S:Sta) (c c' j:Int):List Kd→Int→Prop
 | [],_=>True
 | κ::l,f=>(match κ with | .nt k=>S.fi (kix k) c j f 0 0 0=S.fi (kix k) c' j f 0 0 0 | .tv=>S.fb 0 c j f 0 0 0=S.fb 0 c' j f 0 0 0 | .fs _=>S.fi 8 c j f 0 10 0=S.fi 8 c' j f 0 10 0)∧rowT S c c' j l (f+1)
theorem rowT_val {S:Sta} {c c':Int} {j:Nat}:∀ {lay:List Kd} {f0:Nat},rowT S c c' j lay f0→∀ (f:Nat) (κ:Kd),lay[f]? = some κ→κ.val S c j (f0+f)=κ.val S c' j (f0+f)
 | [],f0,_,f,κ,h=>by simp at h
 | k::lay,f0,hr,f,κ,h=>by
   obtain ⟨h1,h2⟩:=hr
   cases f with
   | zero=>
     simp only [List.getElem?_cons_zero,Option.some.injEq] at h
     subst h
     rw [Nat.add_zero]
     cases k with
     | nt kk=>
       simp only [kix_eq] at h1
       simp only [Kd.val,h1]
     | tv=>
       simp only [Kd.val]
       rw [h1]
     | fs i=>
       simp only [Kd.val,fcod]
       rw [h1]
   | succ f=>
     have:=rowT_val (f0:=f0+1) (by simpa using h2) f κ (by simpa using h)
     rw [show f0+(f+1)=f0+1+f by omega]
     exact this
def othT (S:Sta):List Out→Nat→Nat→Prop
 | [],_,_=>True
 | o::os,i,j=>(i≠j→FT S (dlt dyn0) o.cs→False)∧othT S os (i+1) j
theorem othT_of {S:Sta} {j:Nat}:∀ {os:List Out} {i0:Nat},othT S os i0 j→∀ (i:Nat) (o:Out),os[i]? = some o→i0+i≠j→FT S (dlt dyn0) o.cs→False
 | [],i0,_,i,o,h=>by simp at h
 | o0::os,i0,ht,i,o,h=>by
   cases i with
   | zero=>
     simp only [List.getElem?_cons_zero,Option.some.injEq] at h
     subst h
     exact ht.1
   | succ i=>
     intro hne
     exact othT_of (i0:=i0+1) ht.2 i o (by simpa using h) (by omega)
def Ob.Tv (S:Sta) (δ:Nat→Int):Ob→Prop
 | .ei x y=>x.tv S δ=y.tv S δ
 | .eb p q=>p.tp S δ↔q.tp S δ
 | .fa p b=>TP b (p.tp S δ)
 | .rn x a b=>a≤x.tv S δ∧x.tv S δ≤(if a≤b then b else x.tv S δ)
 | .ar lay c c' n=>∀ j:Nat,(j:Int) < n.tv S δ→rowT S (c.tv S δ) (c'.tv S δ) j lay 0
def ObsT (S:Sta) (δ:Nat→Int):List Ob→Prop
 | []=>True
 | o::L=>o.Tv S δ∧ObsT S δ L
noncomputable def Ob.okd (ds:List Nat):Ob→Bool
 | .ei x y=>bif x.okd ds then y.okd ds else false
 | .eb p q=>bif p.okd ds then q.okd ds else false
 | .fa p _=>p.okd ds
 | .rn x _ _=>x.okd ds
 | .ar _ c c' n=>bif c.okd ds then (bif c'.okd ds then n.okd ds else false) else false
noncomputable def obsOkd (F:List (SB×Bool)) (L:List Ob):Bool:=lall (fun o=>o.okd (dsOf F)) L
section
variable {S:Sta} {ρ:Dyn}
theorem FT_of:∀ {F:List (SB×Bool)},Known S ρ F→FT S (dlt ρ) F
 | [],_=>trivial
 | (p,b)::F,h=>by
   have h0:p.den S ρ=some b:=h (p,b) (by simp)
   refine ⟨?_,FT_of fun f hf=>h f (List.mem_cons_of_mem _ hf)⟩
   have:=SB.tp_of h0
   cases b
   ·show ¬ _
    rw [this];simp
   ·exact this.2 rfl
theorem SI.den_of_okd {F:List (SB×Bool)} (hk:Known S ρ F) {x:SI} (h:x.okd (dsOf F)=true):x.den S ρ=some (x.tv S (dlt ρ)):=by
 obtain ⟨a,ha⟩:=SI.okd_den (σ:=S) (dsOf_ok hk) h
 rw [SI.tv_of ha];exact ha
theorem SB.den_of_okd {F:List (SB×Bool)} (hk:Known S ρ F) {p:SB} (h:p.okd (dsOf F)=true):∃ b,p.den S ρ=some b∧(p.tp S (dlt ρ)↔b=true):=by
 obtain ⟨a,ha⟩:=SB.okd_den (σ:=S) (dsOf_ok hk) h
 exact ⟨a,ha,SB.tp_of ha⟩
theorem Ob.ok_of {F:List (SB×Bool)} (hk:Known S ρ F) {o:Ob} (hd:o.okd (dsOf F)=true) (h:o.Tv S (dlt ρ)):o.Ok S ρ:=by
 cases o with
 | ei x y=>
   have hd':(bif x.okd (dsOf F) then y.okd (dsOf F) else false)=true:=hd
   rw [cond_true_iff] at hd'
   simp only [Ob.Ok]
   rw [SI.den_of_okd hk hd'.1,SI.den_of_okd hk hd'.2]
   have h':x.tv S (dlt ρ)=y.tv S (dlt ρ):=h
   rw [h']
 | eb p q=>
   have hd':(bif p.okd (dsOf F) then q.okd (dsOf F) else false)=true:=hd
   rw [cond_true_iff] at hd'
   obtain ⟨a,a1,a2⟩:=SB.den_of_okd hk hd'.1
   obtain ⟨b,b1,b2⟩:=SB.den_of_okd hk hd'.2
   simp only [Ob.Ok]
   rw [a1,b1]
   have h':p.tp S (dlt ρ)↔q.tp S (dlt ρ):=h
   rw [a2,b2] at h'
   cases a<;>cases b<;>simp_all
 | fa p b=>
   obtain ⟨a,a1,a2⟩:=SB.den_of_okd hk (show p.okd (dsOf F)=true from hd)
   simp only [Ob.Ok]
   rw [a1]
   cases b
   ·have h':¬ p.tp S (dlt ρ):=h
    rw [a2] at h'
    cases a<;>simp_all
   ·have h':p.tp S (dlt ρ):=h
    rw [a2] at h'
    rw [h']
 | rn x a b=>exact ⟨_,SI.den_of_okd hk (show x.okd (dsOf F)=true from hd),h⟩
 | ar lay c c' n=>
   have hd':(bif c.okd (dsOf F) then (bif c'.okd (dsOf F) then n.okd (dsOf F) else false) else false)=true:=hd
   simp only [cond_true_iff] at hd'
   have q1:=SI.den_of_okd hk hd'.1
   have q2:=SI.den_of_okd hk hd'.2.1
   have q3:=SI.den_of_okd hk hd'.2.2
   refine ⟨⟨_,q1⟩,fun cv cv' nv e1 e2 e3 j hj f κ hκ=>?_⟩
   rw [q1] at e1;cases e1
   rw [q2] at e2;cases e2
   rw [q3] at e3
   have:=rowT_val (f0:=0) (h j (by
    have:n.tv S (dlt ρ)=(nv:Int):=by injection e3
    omega)) f κ hκ
   simpa using this
theorem obsOk_of {F:List (SB×Bool)} (hk:Known S ρ F):∀ {L:List Ob},obsOkd F L=true→ObsT S (dlt ρ) L→Obs S ρ L
 | [],_,_=>fun _ h=>by cases h
 | o::L,hd,h=>by
   have hall:=lall_iff.1 hd
   intro o' ho'
   rcases List.mem_cons.1 ho' with rfl | ho'
   ·exact Ob.ok_of hk (hall _ (by simp)) h.1
   ·exact obsOk_of hk (lall_iff.2 fun a ha=>hall a (List.mem_cons_of_mem _ ha)) h.2 o' ho'
end
open Classical in
noncomputable def In.tiv (I:In) (S:Sta) (δ:Nat→Int):Nat→Int:=fun j=>match get I.s.i j with | some e=>e.tv S δ | none=>S.iv j
open Classical in
noncomputable def In.tbv (I:In) (S:Sta) (δ:Nat→Int):Nat→Bool:=fun j=>match get I.s.b j with | some e=>decide (e.tp S δ) | none=>S.bv j
theorem In.tiv_of {I:In} {S:Sta} {ρ:Dyn} (h:I.Def S ρ):I.iv S ρ=I.tiv S (dlt ρ):=by
 funext j
 unfold In.iv In.tiv
 cases hg:get I.s.i j with
 | none=>rfl
 | some e=>
   obtain ⟨x,hx⟩:=h.i j e hg
   simp [hx,SI.tv_of hx]
open Classical in
theorem In.tbv_of {I:In} {S:Sta} {ρ:Dyn} (h:I.Def S ρ):I.bv S ρ=I.tbv S (dlt ρ):=by
 funext j
 unfold In.bv In.tbv
 cases hg:get I.s.b j with
 | none=>rfl
 | some e=>
   obtain ⟨x,hx⟩:=h.b j e hg
   have:=SB.tp_of hx
   simp only [hx,Option.getD_some]
   cases x
   ·rw [decide_eq_false];rw [this];simp
   ·rw [decide_eq_true];rw [this]
def LfT (S:(Nat→Int)→(Nat→Bool)→Sta) (os:List Out) (Inv:Nat→(Nat→Int)→(Nat→Bool)→Prop) (mu:Nat→(Nat→Int)→(Nat→Bool)→Nat) (k:Nat) (iv:Nat→Int) (bv:Nat→Bool):Lf→Prop
 | .bad F=>∀ δ,FT (S iv bv) δ F→False
 | .cut F j I obs _=>∀ δ,FT (S iv bv) δ F→ObsT (S iv bv) δ obs∧Inv j (I.tiv (S iv bv) δ) (I.tbv (S iv bv) δ)∧mu j (I.tiv (S iv bv) δ) (I.tbv (S iv bv) δ) < mu k iv bv
 | .fin F j I obs _=>∀ δ,FT (S iv bv) δ F→ObsT (S iv bv) δ obs∧othT (S iv bv) os 0 j
def LfC (Ts:List Tm) (os:List Out):Lf→Prop
 | .bad _=>True
 | .cut F j I obs sh=>(∃ T,Ts[j]? = some T∧sh=shT T I)∧obsOkd F obs=true
 | .fin F j I obs cd=>(∃ o,os[j]? = some o∧cd=lmap (fun p=>p.2.code) o.hp)∧obsOkd F obs=true
theorem LfOk.of_plain {S:(Nat→Int)→(Nat→Bool)→Sta} {Ts:List Tm} {os:List Out} {Inv:Nat→(Nat→Int)→(Nat→Bool)→Prop} {mu:Nat→(Nat→Int)→(Nat→Bool)→Nat} {k:Nat} {iv:Nat→Int} {bv:Nat→Bool} {lf:Lf} (hc:LfC Ts os lf) (h:LfT S os Inv mu k iv bv lf):LfOk S Ts os Inv mu k iv bv lf:=by
 cases lf with
 | bad F=>exact fun ρ hk=>h _ (FT_of hk)
 | cut F j I obs sh=>
   refine ⟨hc.1,fun ρ hk hI=>?_⟩
   obtain ⟨h1,h2,h3⟩:=h _ (FT_of hk)
   exact ⟨obsOk_of hk hc.2 h1,by rw [In.tiv_of hI,In.tbv_of hI];exact h2,by rw [In.tiv_of hI,In.tbv_of hI];exact h3⟩
 | fin F j I obs cd=>
   refine ⟨hc.1,fun ρ hk hI=>?_⟩
   obtain ⟨h1,h2⟩:=h _ (FT_of hk)
   exact ⟨obsOk_of hk hc.2 h1,fun i o ho hne hcs=>othT_of h2 i o ho (by omega) (FT_of hcs)⟩
def LsC (Ts:List Tm) (os:List Out):List (List Lf)→Prop
 | []=>True
 | l::L=>(∀ lf∈l,LfC Ts os lf)∧LsC Ts os L
theorem LsC.get {Ts:List Tm} {os:List Out}:∀ {L:List (List Lf)},LsC Ts os L→∀ (k:Nat) (l:List Lf),L[k]? = some l→∀ lf∈l,LfC Ts os lf
 | [],_,k,l,h=>by simp at h
 | l0::L,h,k,l,hk=>by
   cases k with
   | zero=>simp at hk;subst hk;exact h.1
   | succ k=>simp at hk;exact LsC.get h.2 k l hk
theorem Con.of_plain {P:Program} {eqt:List TypeId} {FI:FIx} {FB:FBx} {BF:List (Nat×Int×Int)} (hP:POk P eqt) (hFI:FiOk FI FB BF) {E:Cc→Ents} (hE:EntsFor P FI FB E) (c:Con) {fn:Func} {body:Code} (hfn:P.funcs[c.g]? = some fn) (hbd:fn.body=some body)
  (na:Nat) (Ts:List Tm) (hchk:(bif c.chk na then lall (fun T=>lall (fun i=>Nat.ble na i) T.vs) Ts else false)=true) {stop:Fr→List Fr→Bool} {N n d:Nat} (L:List (List Lf))
  (hL:LsOk (ccOf P BF eqt c) (E (ccOf P BF eqt c)) stop N n d (tm0 c fn body::Ts) c.os (tm0 c fn body::Ts) L) (hC:LsC (tm0 c fn body::Ts) c.os L)
  (Inv:(Nat→Int)→(Nat→Bool)→Nat→(Nat→Int)→(Nat→Bool)→Prop) (mu:(Nat→Int)→(Nat→Bool)→Nat→(Nat→Int)→(Nat→Bool)→Nat) (h0:∀ iv bv,InB c.B iv→Inv iv bv 0 iv bv)
  (hO:∀ kv iv0 bv0,InB c.B iv0→FT (sta FI FB kv iv0 bv0) (dlt dyn0) c.F→∀ k l iv bv,L[k]? = some l→Agr na iv0 bv0 iv bv→Inv iv0 bv0 k iv bv→∀ lf∈l,LfT (sta FI FB kv) c.os (Inv iv0 bv0) (mu iv0 bv0) k iv bv lf):c.Ok P FI FB:=
 Con.of_cuts hP hFI hE c hfn hbd na Ts hchk L hL Inv mu (fun kv iv bv hin _=>h0 iv bv hin) fun kv iv0 bv0 hin hF k l iv bv hk ha hi lf hlf=>LfOk.of_plain (hC.get k l hk lf hlf) (hO kv iv0 bv0 hin (FT_of hF) k l iv bv hk ha hi lf hlf)
end Go.Sx
namespace Go.Sx
set_option linter.unusedVariables false
set_option linter.unusedSimpArgs false
open Go.ChangeShapes Go.WideShapes Go.RowKit Go.ChangeAt
section
variable {H:Type} {enc:TypeId×Value→H} {P:Program} {w W W':World} {base:Nat} {sp:Nat→Bool} {held:Bool}
theorem same_below (hb:Below W.heap.size W W') {p:MemPlace} (h:p.block < W.heap.size):W.sameAt W' p:=by
 cases p with
 | cell b off=>exact hb.cell (p:=⟨b,off,none⟩) h
 | map b=>exact hb.block b h
theorem trodAll_stays (K:Kids P (· < P.types.size)) (hz:∀ t e,t < P.types.size→P.underlying t=some (.slice e)→0 < P.cellsOf e) (hb:Below W.heap.size W W') {sp':Nat→Bool} :
  ∀ {ts:List TypeId} {vs:List Value} {ds:List (DataW H)} {ps:List MemPlace},(∀ t∈ts,t < P.types.size)→DataW.TrodAll enc P W 0 (fun _=>true) true ts vs ds ps→(∀ p∈ps,p.block < W.heap.size)→(∀ p∈ps,sp' p.block=true)→DataW.TrodAll enc P W' 0 sp' true ts vs ds ps
 | [],[],[],_,_,h,_,_=>h
 | t::_,_::_,_::_,_,hT,⟨p,q,⟨n,h1⟩,h2,e⟩,hlt,hs=>
   ⟨p,q,⟨n,DataW.trod_stays (T:=(· < P.types.size)) K (fun {t e} a b=>hz t e a b) (fun hh=>by cases hh) (hT _ (List.mem_cons.2 (Or.inl rfl))) h1 (fun x hx=>same_below hb (hlt x (by rw [e];exact List.mem_append_left _ hx))) (fun x hx=>hs x (by rw [e];exact List.mem_append_left _ hx))⟩,
    trodAll_stays K hz hb (fun t ht=>hT t (List.mem_cons.2 (Or.inr ht))) h2 (fun x hx=>hlt x (by rw [e];exact List.mem_append_right _ hx)) (fun x hx=>hs x (by rw [e];exact List.mem_append_right _ hx)),e⟩
theorem law_post {f:Func} {s:ChangeSpec} {apart fresh handsOn again:Bool} {args:Array Value} {ds:List (DataW H)} {p:List MemPlace} {t:TypeId}
  (hl:laidOutB P=true) (hm:mapsRowed P=true) (hz:((List.range P.types.size).all fun t=>match P.underlying t with | some (.slice e)=>decide (0 < P.cellsOf e) | _=>true)=true)
  (hts:(f.params.toList.all fun t=>decide (t < P.types.size))=true) (hvs:s.vars=[]) (hrt:f.resultTypes=#[t]) (hbool:P.underlying t=some .bool)
  (hW:DataW.Whole enc P f.params.toList s.vars apart W args.toList ds [] p) (hA:DataW.TrodAll enc P W 0 (fun _=>true) true f.params.toList args.toList ds p)
  (hfn:s.fn H (ds++[])={ results:=[.lit (.bool true)],args:=ds }) (hb:Below W.heap.size W W'):s.post enc P f apart fresh handsOn again W args (.bool true) W':=by
 have hlt:=hW.lt
 refine post_of_below (pa:=p) (pv:=[]) (ds:=ds) (gs:=[]) hW (fun _ _ _=>?_) (fun sp hsp=>?_) (fun sp _=>?_) (by simp) hb ?_
 ·rw [hrt,hfn]
  exact trodAll_cons_mk (shut_bool hbool _) trodAll_mk0
 ·rw [hfn]
  exact trodAll_stays (kids_rows hl hm) (slices_full_of P hz) hb (fun t ht=>by simpa using List.all_eq_true.1 hts t ht) hA hlt hsp
 ·rw [hvs,hfn];rfl
 ·exact ok_one hrt rfl (okWide_bool_mk hbool _)
theorem kd_int {k:IntKind} {n:Int} (h:(Lit.int k n).wf=true):(.int k n:Value)=(Kd.nt k).of n:=by
 have:k.wrap n=n:=by
  simp only [Lit.wf,Bool.and_eq_true,decide_eq_true_eq] at h
  exact wrap_in k n (by rw [kmin_eq];exact h.1) (by rw [kmax_eq];exact h.2)
 show _=Value.int k (k.wrap n)
 rw [this]
theorem kd_bool (b:Bool):(.bool b:Value)=Kd.tv.of (if b then 1 else 0):=by cases b<;>rfl
def KO (σ:Sta) (F:Nat→Option Obj) (κ:Kd) (o:Option Value):Prop:=∃ n,KR σ F κ (κ.of n) o∧∀ i,κ=.fs i→flen σ n≤maxLen
theorem parts_fields {d:Nat} {σ:Sta} {F:Nat→Option Obj} {cs:List Value}:∀ (l:List Field) (lay:List Kd) (off:Nat),
  (List.rec (motive:=fun _=>Option (List Kd)) (some []) (fun f _ r=>match layT P d f.type,r with | some a,some b=>some (lapp a b) | _,_=>none) l:Option (List Kd))=some lay→
  (∀ j f,l[j]? = some f→f.offset=off+((l.take j).map fun f=>P.cellsOf f.type).sum)→off+(l.map fun f=>P.cellsOf f.type).sum≤cs.length→
  (∀ f∈l,∀ lf,layT P d f.type=some lf→((cs.drop f.offset).take (P.cellsOf f.type)).length=lf.length∧∀ (g:Nat) (κ:Kd),lf[g]? = some κ→KO σ F κ (((cs.drop f.offset).take (P.cellsOf f.type))[g]?))→
  lay.length=(l.map fun f=>P.cellsOf f.type).sum∧∀ (g:Nat) (κ:Kd),lay[g]? = some κ→KO σ F κ (cs[off+g]?)
 | [],lay,off,h,_,_,_=>by
   cases h
   exact ⟨rfl,fun g κ hg=>by simp at hg⟩
 | f::l,lay,off,h,ho,ht,hf=>by
   have h':(match layT P d f.type,(List.rec (motive:=fun _=>Option (List Kd)) (some []) (fun f _ r=>match layT P d f.type,r with | some a,some b=>some (lapp a b) | _,_=>none) l:Option (List Kd)) with | some a,some b=>some (lapp a b) | _,_=>none)=some lay:=h
   split at h'
   ·rename_i a b ha hb
    cases h'
    have o0:f.offset=off:=by simpa using ho 0 f rfl
    simp only [List.map_cons,List.sum_cons] at ht
    obtain ⟨e1,e2⟩:=hf f (List.mem_cons_self ..) a ha
    have e1':a.length=P.cellsOf f.type:=by
     rw [← e1,List.length_take,List.length_drop,o0];omega
    obtain ⟨i1,i2⟩:=parts_fields l b (off+P.cellsOf f.type) hb (fun j g hg=>by
     have:=ho (j+1) g (by simpa using hg)
     simp only [List.take_succ_cons,List.map_cons,List.sum_cons] at this
     omega) (by omega) (fun g hg=>hf g (List.mem_cons_of_mem _ hg))
    rw [lapp_eq]
    refine ⟨by simp only [List.length_append,List.map_cons,List.sum_cons];omega,fun g κ hg=>?_⟩
    by_cases hga:g < a.length
    ·rw [List.getElem?_append_left hga] at hg
     have hn:=e2 g κ hg
     rw [List.getElem?_take,if_pos (by omega),List.getElem?_drop,o0] at hn
     exact hn
    ·rw [List.getElem?_append_right (by omega)] at hg
     have hn:=i2 _ κ hg
     rw [show off+P.cellsOf f.type+(g - a.length)=off+g by omega] at hn
     exact hn
   ·cases h'
theorem parts_items {d:Nat} {σ:Sta} {F:Nat→Option Obj} {cs:List Value} {e:TypeId}:∀ (n:Nat) (lay:List Kd) (off:Nat),
  (Nat.rec (motive:=fun _=>Option (List Kd)) (some []) (fun _ r=>match layT P d e,r with | some a,some b=>some (lapp a b) | _,_=>none) n:Option (List Kd))=some lay→
  off+n * P.cellsOf e≤cs.length→
  (∀ i,i < n→∀ lf,layT P d e=some lf→((cs.drop (off+i * P.cellsOf e)).take (P.cellsOf e)).length=lf.length∧∀ (g:Nat) (κ:Kd),lf[g]? = some κ→KO σ F κ (((cs.drop (off+i * P.cellsOf e)).take (P.cellsOf e))[g]?))→
  lay.length=n * P.cellsOf e∧∀ (g:Nat) (κ:Kd),lay[g]? = some κ→KO σ F κ (cs[off+g]?)
 | 0,lay,off,h,_,_=>by
   cases h
   exact ⟨by simp,fun g κ hg=>by simp at hg⟩
 | n+1,lay,off,h,ht,hf=>by
   have h':(match layT P d e,(Nat.rec (motive:=fun _=>Option (List Kd)) (some []) (fun _ r=>match layT P d e,r with | some a,some b=>some (lapp a b) | _,_=>none) n:Option (List Kd)) with | some a,some b=>some (lapp a b) | _,_=>none)=some lay:=h
   have hm:(n+1) * P.cellsOf e=n * P.cellsOf e+P.cellsOf e:=by rw [Nat.add_mul];omega
   split at h'
   ·rename_i a b ha hb
    cases h'
    obtain ⟨e1,e2⟩:=hf 0 (by omega) a ha
    simp only [Nat.zero_mul,Nat.add_zero] at e1 e2
    have e1':a.length=P.cellsOf e:=by
     rw [← e1,List.length_take,List.length_drop];omega
    obtain ⟨i1,i2⟩:=parts_items (cs:=cs) (σ:=σ) (F:=F) n b (off+P.cellsOf e) hb (by omega) (fun i hi lf hlf=>by
     have:=hf (i+1) (by omega) lf hlf
     have hm2:(i+1) * P.cellsOf e=i * P.cellsOf e+P.cellsOf e:=by rw [Nat.add_mul];omega
     rw [show off+(i+1) * P.cellsOf e=off+P.cellsOf e+i * P.cellsOf e by omega] at this
     exact this)
    rw [lapp_eq]
    refine ⟨by simp only [List.length_append];omega,fun g κ hg=>?_⟩
    by_cases hga:g < a.length
    ·rw [List.getElem?_append_left hga] at hg
     have hn:=e2 g κ hg
     rw [List.getElem?_take,if_pos (by omega),List.getElem?_drop] at hn
     exact hn
    ·rw [List.getElem?_append_right (by omega)] at hg
     have hn:=i2 _ κ hg
     rw [show off+P.cellsOf e+(g - a.length)=off+g by omega] at hn
     exact hn
   ·cases h'
theorem val_cells (K:Kids P (· < P.types.size)) {U:FIx} {V:FBx} {kv:Kv} {iv:Nat→Int} {bv:Nat→Bool}:∀ (d:Nat) {t:TypeId} {cs:List Value} {fuel:Nat} {x:DataW H×List MemPlace} {lay:List Kd},t < P.types.size→layT P d t=some lay→DataW.trod enc P w base sp held fuel t cs=some x→
  cs.length=lay.length∧∀ (f:Nat) (κ:Kd),lay[f]? = some κ→KO (sta (mkFI U) (mkFB V) kv iv bv) (fun b=>w.heap[b]?) κ (cs[f]?)
 | 0,t,cs,fuel,x,lay,_,h,_=>by cases h
 | d+1,t,cs,fuel,x,lay,hT,h,ht=>by
   have h':(match P.underlying t with
    | some (.int k)=>some [.nt k]
    | some .bool=>some [.tv]
    | some (.struct fs)=>List.rec (motive:=fun _=>Option (List Kd)) (some []) (fun f _ r=>match layT P d f.type,r with | some a,some b=>some (lapp a b) | _,_=>none) fs.toList
    | some (.slice e)=>match layT P d e with | some (k::l)=>(match findLay (k::l) with | some i=>some [.fs i] | none=>none) | _=>none
    | some (.array n e)=>Nat.rec (motive:=fun _=>Option (List Kd)) (some []) (fun _ r=>match layT P d e,r with | some a,some b=>some (lapp a b) | _,_=>none) n
    | _=>none)=some lay:=h
   split at h'
   ·rename_i k hu
    cases h'
    obtain ⟨n,rfl,_,hw⟩:=DataW.trod_int hu ht
    refine ⟨rfl,fun f κ hf=>?_⟩
    match f,hf with
    | 0,hf=>simp at hf;subst hf;exact ⟨n,⟨_,by rw [← kd_int hw];rfl,rfl⟩,fun i h=>by cases h⟩
    | f+1,hf=>simp at hf
   ·rename_i hu
    cases h'
    obtain ⟨b,rfl,_⟩:=DataW.trod_bool hu ht
    refine ⟨rfl,fun f κ hf=>?_⟩
    match f,hf with
    | 0,hf=>simp at hf;subst hf;exact ⟨_,⟨_,by rw [← kd_bool b];rfl,rfl⟩,fun i h=>by cases h⟩
    | f+1,hf=>simp at hf
   ·rename_i fs hu
    obtain ⟨xs,n,_,_,hlen,hxl,hf⟩:=DataW.trod_struct hu ht
    obtain ⟨k1,k2,k3⟩:=K.struct hT hu
    have:=parts_fields (σ:=sta (mkFI U) (mkFB V) kv iv bv) (F:=fun b=>w.heap[b]?) (cs:=cs) fs.toList lay 0 h' (fun j f hj=>by rw [k3 j f hj,Nat.zero_add]) (by rw [hlen,k2];omega) (fun f hfm lf hlf=>by
     obtain ⟨i,hi⟩:=List.getElem?_of_mem hfm
     have hi':fs[i]? = some f:=by simpa using hi
     have hx:=hf i f hi'
     have hil:i < xs.length:=by rw [hxl];exact (Array.getElem?_eq_some_iff.1 hi').1
     rw [List.getElem?_eq_getElem hil] at hx
     exact val_cells K d (k1 f hfm) hlf hx)
    refine ⟨by rw [hlen,k2,this.1],fun f κ hg=>?_⟩
    have:=this.2 f κ hg
    rwa [Nat.zero_add] at this
   ·rename_i e hu
    split at h'
    ·rename_i k0 l0 hle
     split at h'
     ·rename_i i hfi
      cases h'
      have hlf:=findLay_ok hfi
      have he:=K.slice hT hu
      rcases DataW.trod_slice hu ht with ⟨h0,_⟩ | ⟨a',len,cap,elems,rest,n,_,h1,h2,h3,h4,h5,h6,h7,_⟩
      ·subst h0
       refine ⟨rfl,fun f κ hf=>?_⟩
       match f,hf with
       | 0,hf=>simp at hf;subst hf;exact ⟨0,⟨_,rfl,0,rfl,.nil _ _ _ _ (by rw [flen_of,flenC_zero]) (sl0 _)⟩,fun _ _=>by rw [flen_of,flenC_zero];decide⟩
       | f+1,hf=>simp at hf
      ·subst h1
       refine ⟨rfl,fun f κ hf=>?_⟩
       match f,hf with
       | f+1,hf=>simp at hf
       | 0,hf=>
         simp at hf;subst hf
         by_cases hl0:len=0
         ·subst hl0
          exact ⟨0,⟨_,rfl,0,rfl,.nil _ _ _ _ (by rw [flen_of,flenC_zero]) (sl0 _)⟩,fun _ _=>by rw [flen_of,flenC_zero];decide⟩
         ·have each:∀ j,j < len→P.cellsOf e=(flay i).length∧∀ (f:Nat) (κ:Kd),(flay i)[f]? = some κ→KO (sta (mkFI U) (mkFB V) kv iv bv) (fun b=>w.heap[b]?) κ (w.cell? ((a'.add (j * P.cellsOf e)).add f)):=by
           intro j hj
           have hx:=h7 j hj
           rw [List.getElem?_eq_getElem (by omega)] at hx
           obtain ⟨cs',hc1,hc2⟩:=Option.bind_eq_some_iff.1 hx
           obtain ⟨hl1,hl2⟩:=val_cells K d he hle hc2
           obtain ⟨_,hcl,hat⟩:=World.cells?_some hc1
           have hsz:P.cellsOf e=(flay i).length:=by rw [← hlf,← hl1,hcl]
           refine ⟨hsz,fun f κ hκ=>?_⟩
           have hfl:=(List.getElem?_eq_some_iff.1 hκ).1
           have:=hl2 f κ (by rw [hlf];exact hκ)
           rw [hat f (by omega)]
           exact this
          have hsz:=(each 0 (by omega)).1
          obtain ⟨n0,⟨v0,hv0,_⟩,_⟩:=(each 0 (by omega)).2 0 k0 (by rw [← hlf];rfl)
          have hspot:a'.spot=none:=by
           have:=World.cell?_spot hv0
           simpa [Addr.add] using this
          obtain ⟨b,off,s⟩:=a'
          have hspot:s=none:=hspot
          subst hspot
          have each2:∀ j,j < len→∀ (f:Nat) (κ:Kd),(flay i)[f]? = some κ→KO (sta (mkFI U) (mkFB V) kv iv bv) (fun b=>w.heap[b]?) κ (w.cell? ⟨b,off+j * (flay i).length+f,none⟩):=by
           intro j hj f κ hκ
           have:=(each j hj).2 f κ hκ
           rw [addr_add,addr_add,hsz] at this
           exact this
          have hcell0:=each2 0 (by omega) 0 k0 (by rw [← hlf];rfl)
          obtain ⟨_,⟨_,hc0,_⟩,_⟩:=hcell0
          obtain ⟨A,tt,g,hA⟩:∃ A tt g,w.heap[b]? = some (.cells A tt g):=by
           simp only [World.cell?] at hc0
           split at hc0
           ·rename_i A tt g hA;exact ⟨A,tt,g,hA⟩
           ·cases hc0
          have hcellA:∀ p,w.cell? ⟨b,p,none⟩=A[p]? := fun p=>by simp [World.cell?,hA]
          classical
          let G:Nat→Nat→Int:=fun j f=>if hh:∃ n κ,(flay i)[f]? = some κ∧KR (sta (mkFI U) (mkFB V) kv iv bv) (fun b=>w.heap[b]?) κ (κ.of n) (A[off+j * (flay i).length+f]?) then Classical.choose hh else 0
          have hG:∀ j,j < len→∀ (f:Nat) (κ:Kd),(flay i)[f]? = some κ→KR (sta (mkFI U) (mkFB V) kv iv bv) (fun b=>w.heap[b]?) κ (κ.of (G j f)) (A[off+j * (flay i).length+f]?):=by
           intro j hj f κ hκ
           obtain ⟨n,hn,_⟩:=each2 j hj f κ hκ
           rw [hcellA] at hn
           have hh:∃ n κ,(flay i)[f]? = some κ∧KR (sta (mkFI U) (mkFB V) kv iv bv) (fun b=>w.heap[b]?) κ (κ.of n) (A[off+j * (flay i).length+f]?):=⟨n,κ,hκ,hn⟩
           obtain ⟨κ',q1,q2⟩:=Classical.choose_spec hh
           rw [hκ] at q1;cases q1
           show KR _ _ κ (κ.of (if hh:_ then Classical.choose hh else 0)) _
           rw [dif_pos hh];exact q2
          have hfl:flen (sta (mkFI U) (mkFB V) kv iv bv) (frzC (len:Int) (arrC len (flay i).length G))=(len:Int):=by rw [flen_of];exact flenC_frz _ _ (by omega)
          refine ⟨frzC (len:Int) (arrC len (flay i).length G),⟨_,rfl,_,rfl,Fz.of (A:=A) (t:=tt) (g:=g) hA hfl h4 fun j hj f κ hκ=>?_⟩,fun _ _=>?_⟩
          ·have hf:=(List.getElem?_eq_some_iff.1 hκ).1
           have hf2:=flay_len i
           rw [val_of,gt_frz _ _ _ _ (by omega),gt_arrC,if_pos ⟨hj,hf⟩]
           exact hG j hj f κ hκ
          ·rw [hfl];exact Int.ofNat_le.2 (Nat.le_trans h4 h5)
     ·cases h'
    ·cases h'
   ·rename_i n e hu
    obtain ⟨xs,m,_,_,hlen,hxl,hf⟩:=DataW.trod_array hu ht
    obtain ⟨k1,k2⟩:=K.array hT hu
    have:=parts_items (σ:=sta (mkFI U) (mkFB V) kv iv bv) (F:=fun b=>w.heap[b]?) (cs:=cs) (e:=e) n lay 0 h' (by rw [hlen,k2];omega) (fun i hi lf hlf=>by
     have hx:=hf i hi
     have hil:i < xs.length:=by omega
     rw [List.getElem?_eq_getElem hil] at hx
     rw [Nat.zero_add]
     exact val_cells K d k1 hlf hx)
    refine ⟨by rw [hlen,k2,this.1],fun f κ hg=>?_⟩
    have:=this.2 f κ hg
    rwa [Nat.zero_add] at this
   ·cases h'
theorem ko_nt {σ:Sta} {F:Nat→Option Obj} {k:IntKind} {o:Option Value} (h:KO σ F (.nt k) o):∃ n,o=some (.int k n)∧(Lit.int k n).wf=true:=by
 obtain ⟨n,⟨v,h1,h2⟩,_⟩:=h
 cases h2
 refine ⟨_,h1,?_⟩
 have:=wrap_has k n
 rw [kmin_eq,kmax_eq] at this
 simp only [Lit.wf,Bool.and_eq_true,decide_eq_true_eq]
 exact this
theorem ko_fs {σ:Sta} {F:Nat→Option Obj} {i:Nat} {o:Option Value} (h:KO σ F (.fs i) o):∃ y v,o=some v∧Fz σ F i y v∧flen σ y≤maxLen:=by
 obtain ⟨n,⟨v,h1,y,h2,h3⟩,h4⟩:=h
 simp only [Kd.of,Value.int.injEq,true_and] at h2
 subst h2
 exact ⟨_,v,h1,h3,h4 i rfl⟩
theorem open_val (K:Kids P (· < P.types.size)) {U:FIx} {V:FBx} {kv:Kv} {iv:Nat→Int} {bv:Nat→Bool} {t:TypeId} {v:Value} {x:DataW H} {ps:List MemPlace} {d:Nat} {lay:List Kd} (he:t < P.types.size) (hlay:layT P d t=some lay)
  (h:DataW.Trod enc P w base sp held t v x ps):v.cells.toList.length=lay.length∧∀ (f:Nat) (κ:Kd),lay[f]? = some κ→KO (sta (mkFI U) (mkFB V) kv iv bv) (fun b=>w.heap[b]?) κ (v.cells.toList[f]?):=by
 obtain ⟨fuel,hf⟩:=h
 exact val_cells K d he hlay hf
theorem list_of_get {cs l:List Value} (hl:cs.length=l.length) (h:∀ (f:Nat) (u:Value),l[f]? = some u→cs[f]? = some u):cs=l:=by
 refine List.ext_getElem? fun i=>?_
 cases hi:l[i]? with
 | some u=>exact h i u hi
 | none=>
   rw [List.getElem?_eq_none_iff] at hi ⊢
   omega
end
theorem ret_true {c:Con} {σ:Sta} {F:Nat→Option Obj} {w w':World} {e:Ending} (hos:c.os=[⟨[],.bo (.c true),[],0,0,[]⟩]) (h:c.Post σ F w e w'):e=.returned (.bool true)∧Below w.heap.size w w':=by
 obtain ⟨u,he,hb,ho⟩:=h
 refine ⟨?_,hb⟩
 have hu:=ho ⟨[],.bo (.c true),[],0,0,[]⟩ (by rw [hos];exact List.mem_cons_self ..) (fun p hp=>by cases hp)
 obtain ⟨ρ,_,_,_,_,_,_,_,_,hz⟩:=hu
 simp only [SV.Is,SB.den] at hz
 obtain ⟨q,hq,rfl⟩:=hz
 cases hq
 exact he
theorem wf64 {z:Int} (h:(Lit.int .i64 z).wf=true):-9223372036854775808≤z∧z≤9223372036854775807:=by
 simp [Lit.wf,IntKind.min,IntKind.max,IntKind.signed,IntKind.bits] at h
 omega
theorem wfu64 {z:Int} (h:(Lit.int .u64 z).wf=true):0≤z∧z≤18446744073709551615:=by
 simp [Lit.wf,IntKind.min,IntKind.max,IntKind.signed,IntKind.bits] at h
 omega
end Go.Sx
