/- A symbolic executor: a contract, by the ways of the function's run between its loops' heads. -/
import Derived.Test.YtfgdpkceoadgjaaSxT
namespace Go.Sx
set_option linter.unusedSectionVars false
set_option linter.unusedVariables false
set_option linter.unusedSimpArgs false
open Go.RowKit
noncomputable def SI.vlt (na:Nat) (x:SI):Bool:=
 SI.rec (motive:=fun _=>Bool) (fun _=>true) (fun i=>Nat.blt i na) (fun _=>true) (fun _ _ _ a b=>bif a then b else false) (fun _ _ a=>a)
  (fun _ _ _ _ _ _ _ a b c d e g=>bif a then (bif b then (bif c then (bif d then (bif e then g else false) else false) else false) else false) else false) x
noncomputable def SB.vlt (na:Nat) (x:SB):Bool:=
 SB.rec (motive:=fun _=>Bool) (fun _=>true) (fun i=>Nat.blt i na) (fun x y=>bif x.vlt na then y.vlt na else false) (fun x y=>bif x.vlt na then y.vlt na else false) (fun x y=>bif x.vlt na then y.vlt na else false)
  (fun _ _=>true) (fun f a b c d e g=>(SI.ap f a b c d e g).vlt na) (fun _ a=>a) (fun _ _ a b=>bif a then b else false) (fun _ _ a b=>bif a then b else false) x
mutual
noncomputable def SV.vlt (na:Nat):SV→Bool
 | .it _ e=>e.vlt na
 | .bo p=>p.vlt na
 | .pt _ o=>o.vlt na
 | .sl _ o l c=>bif o.vlt na then (bif l.vlt na then c.vlt na else false) else false
 | .fn _ a c=>bif SV.vltL na a then SV.vltL na c else false
 | .fc _ x=>SV.vlt na x
 | .ag l=>SV.vltL na l
 | .tp l=>SV.vltL na l
 | _=>true
noncomputable def SV.vltL (na:Nat):List SV→Bool
 | []=>true
 | a::l=>bif SV.vlt na a then SV.vltL na l else false
end
noncomputable def Bk.vlt (na:Nat):Bk→Bool
 | .arr _ c n _ cp=>bif c.vlt na then (bif n.vlt na then cp.vlt na else false) else false
 | .cells l _=>SV.vltL na l
 | .row none l _ cp _=>bif SV.vltL na l then cp.vlt na else false
 | .mapc _ _ c=>c.vlt na
 | _=>false
section
variable {FI:FIx} {FB:FBx} {kv:Kv} {iv iv':Nat→Int} {bv bv':Nat→Bool} {na:Nat}
theorem SI.vlt_den (h:Agr na iv bv iv' bv') {ρ:Dyn}:∀ {x:SI},x.vlt na=true→x.den (sta FI FB kv iv' bv') ρ=x.den (sta FI FB kv iv bv) ρ:=by
 intro x
 induction x with
 | c n=>exact fun _=>rfl
 | v i=>
   intro hx
   have hlt:i < na:=by simpa [SI.vlt,Nat.blt_eq] using hx
   show some (iv' i)=some (iv i)
   rw [h.1 i hlt]
 | d i=>exact fun _=>rfl
 | op f a b ha hb=>
   intro hx
   have hx':(bif a.vlt na then b.vlt na else false)=true:=hx
   rw [cond_true_iff] at hx'
   simp only [SI.den,ha hx'.1,hb hx'.2]
 | wk k a ha=>intro hx;simp only [SI.den,ha hx]
 | ap f a0 a1 a2 a3 a4 a5 h0 h1 h2 h3 h4 h5=>
   intro hx
   have hx':(bif a0.vlt na then (bif a1.vlt na then (bif a2.vlt na then (bif a3.vlt na then (bif a4.vlt na then a5.vlt na else false) else false) else false) else false) else false)=true:=hx
   simp only [cond_true_iff] at hx'
   obtain ⟨q0,q1,q2,q3,q4,q5⟩:=hx'
   simp only [SI.den,h0 q0,h1 q1,h2 q2,h3 q3,h4 q4,h5 q5];rfl
theorem SB.vlt_den (h:Agr na iv bv iv' bv') {ρ:Dyn}:∀ {x:SB},x.vlt na=true→x.den (sta FI FB kv iv' bv') ρ=x.den (sta FI FB kv iv bv) ρ:=by
 intro x
 induction x with
 | c n=>exact fun _=>rfl
 | v i=>
   intro hx
   have hlt:i < na:=by simpa [SB.vlt,Nat.blt_eq] using hx
   show some (bv' i)=some (bv i)
   rw [h.2 i hlt]
 | seq a b=>intro _;cases a<;>cases b<;>rfl
 | lt a b=>
   intro hx
   have hx':(bif a.vlt na then b.vlt na else false)=true:=hx
   rw [cond_true_iff] at hx'
   simp only [SB.den,SI.vlt_den h hx'.1,SI.vlt_den h hx'.2]
 | le a b=>
   intro hx
   have hx':(bif a.vlt na then b.vlt na else false)=true:=hx
   rw [cond_true_iff] at hx'
   simp only [SB.den,SI.vlt_den h hx'.1,SI.vlt_den h hx'.2]
 | eq a b=>
   intro hx
   have hx':(bif a.vlt na then b.vlt na else false)=true:=hx
   rw [cond_true_iff] at hx'
   simp only [SB.den,SI.vlt_den h hx'.1,SI.vlt_den h hx'.2]
 | ap f a0 a1 a2 a3 a4 a5=>
   intro hx
   have hx':(bif a0.vlt na then (bif a1.vlt na then (bif a2.vlt na then (bif a3.vlt na then (bif a4.vlt na then a5.vlt na else false) else false) else false) else false) else false)=true:=hx
   simp only [cond_true_iff] at hx'
   obtain ⟨q0,q1,q2,q3,q4,q5⟩:=hx'
   simp only [SB.den,SI.vlt_den h q0,SI.vlt_den h q1,SI.vlt_den h q2,SI.vlt_den h q3,SI.vlt_den h q4,SI.vlt_den h q5];rfl
 | not p hp=>intro hx;simp only [SB.den,hp hx]
 | and p q hp hq=>
   intro hx
   have hx':(bif p.vlt na then q.vlt na else false)=true:=hx
   rw [cond_true_iff] at hx'
   simp only [SB.den,hp hx'.1,hq hx'.2]
 | or p q hp hq=>
   intro hx
   have hx':(bif p.vlt na then q.vlt na else false)=true:=hx
   rw [cond_true_iff] at hx'
   simp only [SB.den,hp hx'.1,hq hx'.2]
theorem SR.sta_den {r:SR} {ρ:Dyn}:r.den (sta FI FB kv iv' bv') ρ=r.den (sta FI FB kv iv bv) ρ:=by cases r<;>rfl
mutual
theorem SV.vlt_is (h:Agr na iv bv iv' bv') {ρ:Dyn}:∀ (x:SV) (u:Value),SV.vlt na x=true→(x.Is (sta FI FB kv iv' bv') ρ u↔x.Is (sta FI FB kv iv bv) ρ u)
 | .any,u,hx=>by simp only [SV.Is]
 | .it k e,u,hx=>by simp only [SV.Is,SI.vlt_den h (show e.vlt na=true by simpa only [SV.vlt] using hx)]
 | .bo p,u,hx=>by simp only [SV.Is,SB.vlt_den h (show p.vlt na=true by simpa only [SV.vlt] using hx)]
 | .st e,u,hx=>by cases e<;>(simp only [SV.Is];exact Iff.rfl)
 | .pt r o,u,hx=>by simp only [SV.Is,SI.vlt_den h (show o.vlt na=true by simpa only [SV.vlt] using hx),SR.sta_den (iv:=iv) (iv':=iv') (bv:=bv) (bv':=bv')]
 | .sl r o l c,u,hx=>by
   have hx':(bif o.vlt na then (bif l.vlt na then c.vlt na else false) else false)=true:=by simpa only [SV.vlt] using hx
   simp only [cond_true_iff] at hx'
   simp only [SV.Is,SI.vlt_den h hx'.1,SI.vlt_den h hx'.2.1,SI.vlt_den h hx'.2.2,SR.sta_den (iv:=iv) (iv':=iv') (bv:=bv) (bv':=bv')]
 | .mp r,u,hx=>by simp only [SV.Is,SR.sta_den (iv:=iv) (iv':=iv') (bv:=bv) (bv':=bv')]
 | .fn f a c,u,hx=>by
   have hx':(bif SV.vltL na a then SV.vltL na c else false)=true:=by simpa only [SV.vlt] using hx
   simp only [cond_true_iff] at hx'
   simp only [SV.Is,SV.vltL_is h a _ hx'.1,SV.vltL_is h c _ hx'.2]
 | .yl i,u,hx=>by simp only [SV.Is]
 | .fc t x,u,hx=>by simp only [SV.Is,SV.vlt_is h x _ (show SV.vlt na x=true by simpa only [SV.vlt] using hx)]
 | .ag l,u,hx=>by simp only [SV.Is,SV.vltL_is h l _ (show SV.vltL na l=true by simpa only [SV.vlt] using hx)]
 | .tp l,u,hx=>by simp only [SV.Is,SV.vltL_is h l _ (show SV.vltL na l=true by simpa only [SV.vlt] using hx)]
 | .va i,u,hx=>by simp only [SV.Is];exact Iff.rfl
 | .dv i,u,hx=>by simp only [SV.Is]
 | .sn,u,hx=>by simp only [SV.Is]
 | .pn,u,hx=>by simp only [SV.Is]
 | .mn,u,hx=>by simp only [SV.Is]
 | .fz,u,hx=>by simp only [SV.Is]
 | .fcn,u,hx=>by simp only [SV.Is]
theorem SV.vltL_is (h:Agr na iv bv iv' bv') {ρ:Dyn}:∀ (l:List SV) (us:List Value),SV.vltL na l=true→(SV.IsL (sta FI FB kv iv' bv') ρ l us↔SV.IsL (sta FI FB kv iv bv) ρ l us)
 | [],us,hx=>by simp only [SV.IsL]
 | a::l,us,hx=>by
   have hx':(bif SV.vlt na a then SV.vltL na l else false)=true:=by simpa only [SV.vltL] using hx
   simp only [cond_true_iff] at hx'
   simp only [SV.IsL,SV.vlt_is h a _ hx'.1,SV.vltL_is h l _ hx'.2]
end
theorem val_sta2 {κ:Kd} {c:Int} {j f:Nat}:κ.val (sta FI FB kv iv' bv') c j f=κ.val (sta FI FB kv iv bv) c j f:=by cases κ<;>rfl
theorem Bk.vlt_is (h:Agr na iv bv iv' bv') {ρ:Dyn} {bk:Bk} {o:Obj} (hx:bk.vlt na=true):bk.Is (sta FI FB kv iv' bv') ρ o↔bk.Is (sta FI FB kv iv bv) ρ o:=by
 unfold Bk.vlt at hx
 split at hx
 ·simp only [cond_true_iff] at hx
  simp only [Bk.Is,SI.vlt_den h hx.1,SI.vlt_den h hx.2.1,SI.vlt_den h hx.2.2,ArIs,val_sta2 (iv:=iv) (iv':=iv') (bv:=bv) (bv':=bv')]
 ·simp only [Bk.Is,SV.vltL_is h _ _ hx]
 ·simp only [cond_true_iff] at hx
  simp only [Bk.Is,SV.vltL_is h _ _ hx.1,SI.vlt_den h hx.2,preL]
 ·simp only [Bk.Is,SI.vlt_den h hx]
  exact Iff.rfl
 ·cases hx
noncomputable def Out.vlt (na:Nat) (o:Out):Bool:=
 bif lall (fun p=>p.1.vlt na) o.cs then (bif SV.vlt na o.z then (bif lall (fun p=>p.2.vlt na) o.hp then lall (fun p=>p.1.vlt na) o.fs else false) else false) else false
theorem Out.vlt_is (h:Agr na iv bv iv' bv') {w0 w':World} {u:Value} {o:Out} (hx:o.vlt na=true) (ho:OutIs (sta FI FB kv iv' bv') w0 w' u o):OutIs (sta FI FB kv iv bv) w0 w' u o:=by
 unfold Out.vlt at hx
 simp only [cond_true_iff] at hx
 obtain ⟨_,x2,x3,x4⟩:=hx
 obtain ⟨ρ,f1,f2,f3,f4,f5,f6,f7,f8⟩:=ho
 refine ⟨ρ,fun p hp=>?_,fun i bk hm=>?_,f3,f4,f5,f6,f7,?_⟩
 ·rw [← SB.vlt_den h (lall_iff.1 x4 p hp)];exact f1 p hp
 ·obtain ⟨g1,b,obj,g2,g3,g4⟩:=f2 i bk hm
  exact ⟨g1,b,obj,g2,g3,(Bk.vlt_is h (lall_iff.1 x3 _ hm)).1 g4⟩
 ·exact (SV.vlt_is h o.z u x2).1 f8
end
noncomputable def gvAr (l:List Gv):Nat→List (Nat×SR×SI×List Kd×SI×SI):=
 List.rec (motive:=fun _=>Nat→List (Nat×SR×SI×List Kd×SI×SI)) (fun _=>[]) (fun G _ ih j=>(j,.k G.a,G.o,G.lay,.v G.c,G.n)::ih (Nat.succ j)) l
theorem gvAr_mem:∀ {l:List Gv} {j0 j:Nat} {r:SR} {o:SI} {lay:List Kd} {c n:SI},(j,r,o,lay,c,n)∈gvAr l j0→∃ i G,l[i]? = some G∧j=j0+i∧r=.k G.a∧o=G.o∧lay=G.lay∧c=.v G.c∧n=G.n
 | [],j0,j,r,o,lay,c,n,h=>by cases h
 | G::l,j0,j,r,o,lay,c,n,h=>by
   have h':(j,r,o,lay,c,n)∈(j0,SR.k G.a,G.o,G.lay,SI.v G.c,G.n)::gvAr l (Nat.succ j0):=h
   rcases List.mem_cons.1 h' with e | h'
   ·cases e;exact ⟨0,G,rfl,rfl,rfl,rfl,rfl,rfl,rfl⟩
   ·obtain ⟨i,G',h1,h2,h3⟩:=gvAr_mem h'
    exact ⟨i+1,G',by simpa using h1,by rw [h2];simp only [Nat.succ_eq_add_one];omega,h3⟩
noncomputable def ccOf (P:Program) (BF:List (Nat×Int×Int)) (eqt:List TypeId) (c:Con):Cc:=⟨P,⟨[],BF⟩,[],eqt,gvAr c.G 1⟩
noncomputable def upTo (n:Nat):List Nat:=Nat.rec (motive:=fun _=>List Nat) [0] (fun i ih=>Nat.succ i::ih) n
noncomputable def tm0 (c:Con) (fn:Func) (body:Code):Tm:=
 ⟨enterF c.g fn body c.A,[],{ heap:=[],nb:=0,nd:=0,nv:=0,facts:=c.F,phis:=upTo (llen c.G),bd:=c.B },[]⟩
noncomputable def Con.chk (na:Nat) (c:Con):Bool:=
 bif lall (fun G=>bif G.o.vlt na then (bif G.n.vlt na then Nat.blt G.c na else false) else false) c.G then lall (fun o=>o.vlt na) c.os else false
def LsOk (cc:Cc) (E:Ents) (stop:Fr→List Fr→Bool) (N n d:Nat) (all:List Tm) (os:List Out):List Tm→List (List Lf)→Prop
 | [],[]=>True
 | T::Ts,l::L=>(ex cc E (dw cc E n d) stop N T.f T.fs T.H).lfs cc all os=some l∧LsOk cc E stop N n d all os Ts L
 | _,_=>False
theorem LsOk.get {cc:Cc} {E:Ents} {stop:Fr→List Fr→Bool} {N n d:Nat} {all:List Tm} {os:List Out}:∀ {Ts:List Tm} {L:List (List Lf)},LsOk cc E stop N n d all os Ts L→∀ (k:Nat) (T:Tm),Ts[k]? = some T→∃ l,L[k]? = some l∧(ex cc E (dw cc E n d) stop N T.f T.fs T.H).lfs cc all os=some l
 | [],[],_,k,T,h=>by simp at h
 | [],_::_,h,_,_,_=>h.elim
 | _::_,[],h,_,_,_=>h.elim
 | T0::Ts,l::L,⟨h1,h2⟩,k,T,h=>by
   cases k with
   | zero=>simp at h;subst h;exact ⟨l,rfl,h1⟩
   | succ k=>simp at h;obtain ⟨l',h3,h4⟩:=LsOk.get h2 k T h;exact ⟨l',by simpa using h3,h4⟩
noncomputable def atLoop (f:Fr):Bool:=
 match f.todo with
 | .inLoop _::_=>true
 | .code (.loop _)::_=>true
 | _=>false
noncomputable def stopX (l:List Nat) (f:Fr) (_:List Fr):Bool:=bif atLoop f then (bif lmem l f.fn then false else true) else false
def gvPhi (σ:Sta) (c:Con) (w:World) (j:Nat) (U:Nat→Obj→Prop):Prop:=
 (j=0→∀ b o,w.heap[b]? = some o→U b o)∧(∀ i G,j=1+i→c.G[i]? = some G→∀ on nv,G.o.den σ dyn0=some (Int.ofNat on)→G.n.den σ dyn0=some (Int.ofNat nv)→
   ∀ jj,jj < nv→∀ f κ,G.lay[f]? = some κ→∃ (A:Array Value) (t:TypeId) (fz:Nat×Nat),U (σ.kv G.a) (.cells A t fz)∧A[on+jj * G.lay.length+f]? = some (κ.val σ (σ.iv G.c) jj f))
theorem gvPhi_mono (σ:Sta) (c:Con) (w:World) (j:Nat) (U U':Nat→Obj→Prop) (h:∀ b o,U b o→U' b o) (k:gvPhi σ c w j U):gvPhi σ c w j U':=by
 obtain ⟨k1,k2⟩:=k
 refine ⟨fun hj b o hw=>h b o (k1 hj b o hw),fun i G hj hg on nv e1 e2 jj hjj f κ hκ=>?_⟩
 obtain ⟨A,t,fz,u1,u2⟩:=k2 i G hj hg on nv e1 e2 jj hjj f κ hκ
 exact ⟨A,t,fz,h _ _ u1,u2⟩
def gvX (FI:FIx) (FB:FBx) (kv:Kv) (iv0:Nat→Int) (bv0:Nat→Bool) (c:Con) (w:World):Cx:=
 { FI,FB,kv,phi:=gvPhi (sta FI FB kv iv0 bv0) c w,mono:=gvPhi_mono (sta FI FB kv iv0 bv0) c w }
theorem Con.of_cuts {P:Program} {eqt:List TypeId} {FI:FIx} {FB:FBx} {BF:List (Nat×Int×Int)} (hP:POk P eqt) (hFI:FiOk FI FB BF) {E:Cc→Ents} (hE:EntsFor P FI FB E) (c:Con) {fn:Func} {body:Code} (hfn:P.funcs[c.g]? = some fn) (hbd:fn.body=some body)
  (na:Nat) (Ts:List Tm) (hchk:(bif c.chk na then lall (fun T=>lall (fun i=>Nat.ble na i) T.vs) Ts else false)=true) {stop:Fr→List Fr→Bool} {N n d:Nat} (L:List (List Lf))
  (hL:LsOk (ccOf P BF eqt c) (E (ccOf P BF eqt c)) stop N n d (tm0 c fn body::Ts) c.os (tm0 c fn body::Ts) L)
  (Inv:(Nat→Int)→(Nat→Bool)→Nat→(Nat→Int)→(Nat→Bool)→Prop) (mu:(Nat→Int)→(Nat→Bool)→Nat→(Nat→Int)→(Nat→Bool)→Nat) (h0:∀ kv iv bv,InB c.B iv→(∀ p∈c.F,p.1.den (sta FI FB kv iv bv) dyn0=some p.2)→Inv iv bv 0 iv bv)
  (hO:∀ kv iv0 bv0,InB c.B iv0→(∀ p∈c.F,p.1.den (sta FI FB kv iv0 bv0) dyn0=some p.2)→∀ k l iv bv,L[k]? = some l→Agr na iv0 bv0 iv bv→Inv iv0 bv0 k iv bv→∀ lf∈l,LfOk (sta FI FB kv) (tm0 c fn body::Ts) c.os (Inv iv0 bv0) (mu iv0 bv0) k iv bv lf):c.Ok P FI FB:=by
 rw [cond_true_iff] at hchk
 obtain ⟨hck,hvs⟩:=hchk
 unfold Con.chk at hck
 rw [cond_true_iff] at hck
 obtain ⟨hckG,hckO⟩:=hck
 intro kv iv0 bv0 hin hF w hG us hus
 let X:Cx:=gvX FI FB kv iv0 bv0 c w
 have hbase:∀ U,X.phi 0 U↔∀ b o,w.heap[b]? = some o→U b o:=fun U=>⟨fun h=>h.1 rfl,fun h=>⟨fun _=>h,fun i G hj=>by omega⟩⟩
 have hGden:∀ G∈c.G,∀ iv bv,Agr na iv0 bv0 iv bv→G.o.den (sta FI FB kv iv bv) dyn0=G.o.den (sta FI FB kv iv0 bv0) dyn0∧G.n.den (sta FI FB kv iv bv) dyn0=G.n.den (sta FI FB kv iv0 bv0) dyn0∧iv G.c=iv0 G.c:=by
  intro G hGm iv bv ha
  have:=lall_iff.1 hckG G hGm
  simp only [cond_true_iff] at this
  exact ⟨SI.vlt_den ha this.1,SI.vlt_den ha this.2.1,ha.1 _ (by simpa [Nat.blt_eq] using this.2.2)⟩
 have hcc:∀ iv bv,Agr na iv0 bv0 iv bv→(ccOf P BF eqt c).Ok (X.ct iv bv):=by
  intro iv bv ha
  refine ⟨⟨(fun _ _ _ h=>by cases h),hFI.bf⟩,(fun _ _ _ _ hm=>by cases hm),hP.eqt,hP.names,hP.ov,hP.mixed,hFI.al kv iv bv,?_⟩
  intro j r o lay cd n hm ρ U hphi
  obtain ⟨i,G,h1,rfl,rfl,rfl,rfl,rfl,rfl⟩:=gvAr_mem hm
  have hGm:=List.mem_of_getElem? h1
  obtain ⟨on,nv,e1,e2,_⟩:=hG G hGm
  obtain ⟨d1,d2,d3⟩:=hGden G hGm iv bv ha
  have o1:G.o.den (sta FI FB kv iv bv) ρ=some (Int.ofNat on):=SI.den_mono (ρ:=dyn0) ⟨(fun _ _ h=>by cases h),(fun _ _ h=>by cases h),(fun _ _ h=>by cases h)⟩ _ _ (by rw [d1];exact e1)
  have n1:G.n.den (sta FI FB kv iv bv) ρ=some (Int.ofNat nv):=SI.den_mono (ρ:=dyn0) ⟨(fun _ _ h=>by cases h),(fun _ _ h=>by cases h),(fun _ _ h=>by cases h)⟩ _ _ (by rw [d2];exact e2)
  refine ⟨kv.n G.a,on,iv G.c,nv,rfl,o1,rfl,n1,fun jj hjj f κ hκ=>?_⟩
  obtain ⟨A,t,fz,u1,u2⟩:=hphi.2 i G rfl h1 on nv e1 e2 jj hjj f κ hκ
  refine ⟨A,t,fz,u1,?_⟩
  rw [u2,d3];rfl
 have hE':∀ iv bv,Agr na iv0 bv0 iv bv→EntsOk (ccOf P BF eqt c) (X.ct iv bv) (E (ccOf P BF eqt c)):=fun iv bv ha=>hE _ _ (hcc iv bv ha) rfl ⟨kv,iv,bv,rfl⟩
 intro cs
 have henter:Sat (X.ct iv0 bv0) (fun _=>none) w cs dyn0 (tm0 c fn body).f (tm0 c fn body).fs (tm0 c fn body).H (lone (Frame.enter P c.g us.toArray .normal) cs w):=by
  refine ⟨_,[],w,rfl,enterF_ok hfn hbd hus,rfl,?_⟩
  refine ⟨(fun _ _ h=>by cases h),(fun _ _ _ _ _ h=>by cases h),(fun _ _=>rfl),(fun _ _=>rfl),(fun _ _=>rfl),(fun _ _ h=>by cases h),(fun _ _ h=>by cases h),(fun _ _ h=>by cases h),?_,hF,hin,fun j hj=>?_,rfl,rfl,rfl,Nat.le_refl _⟩
  ·rintro b ⟨id,bk,h,_⟩;cases h
  ·have hU:∀ b o,w.heap[b]? = some o→Un (fun _=>none) dyn0 ([]:List (Nat×Bk)) w b o:=fun b o h=>⟨h,rfl,by rintro ⟨id,bk,h,_⟩;cases h⟩
   refine ⟨fun _ b o h=>hU b o h,fun i G hji hg on nv e1 e2 jj hjj f κ hκ=>?_⟩
   obtain ⟨on',nv',e1',e2',hcell⟩:=hG G (List.mem_of_getElem? hg)
   rw [e1] at e1';rw [e2] at e2'
   have q1:on=on':=by injection e1' with h;injection h
   have q2:nv=nv':=by injection e2' with h;injection h
   subst q1 q2
   have hc:=hcell jj hjj f κ hκ
   simp only [World.cell?] at hc
   split at hc
   ·rename_i A t fz hA
    exact ⟨A,t,fz,hU _ _ hA,by simpa using hc⟩
   ·cases hc
 have hfin:=cuts_ok (na:=na) (iv0:=iv0) (bv0:=bv0) (X:=X) (cc:=ccOf P BF eqt c) (E:=E (ccOf P BF eqt c)) (Ts:=tm0 c fn body::Ts) (os:=c.os) (Inv:=Inv iv0 bv0) (mu:=mu iv0 bv0) (w0:=w) (hc:=fun _=>none) (cs:=cs) (bot:=(c.g,true))
  (R:=fun u w'=>Below w.heap.size w w'∧∀ o∈c.os,(∀ p∈o.cs,p.1.den (sta FI FB kv iv0 bv0) dyn0=some p.2)→OutIs (sta FI FB kv iv0 bv0) w w' u o)
  hbase (fun T hT i hi=>?_) hcc hE' (stop:=stop) (N:=N) (n:=n) (d:=d) (L:=fun k=>(L[k]?).getD []) (fun k T hT=>?_) (fun k T iv bv hT ha hi lf hlf=>?_) (fun k iv bv j o u w' ha hi hj hout hbel hoth=>?_)
  (mu iv0 bv0 0 iv0 bv0+1) 0 (tm0 c fn body) iv0 bv0 rfl (Nat.lt_succ_self _) ⟨fun _ _=>rfl,fun _ _=>rfl⟩ (h0 kv iv0 bv0 hin hF) dyn0 _ henter rfl
 ·obtain ⟨u,w',hends,hr1,hr2⟩:=hfin
  obtain ⟨fr,h1,h2,h3⟩:=hends.ret rfl
  exact ⟨.returned u,w',fr,⟨u,rfl,hr1,hr2⟩,h1,h2,h3⟩
 ·rcases List.mem_cons.1 hT with rfl | hT
  ·cases hi
  ·exact Nat.le_of_ble_eq_true (lall_iff.1 (lall_iff.1 hvs T hT) i hi)
 ·obtain ⟨l,h1,h2⟩:=hL.get k T hT
  rw [h2,h1];rfl
 ·obtain ⟨l,h1,h2⟩:=hL.get k T hT
  rw [h1] at hlf
  exact hO kv iv0 bv0 hin hF k l iv bv h1 ha hi lf hlf
 ·refine ⟨hbel,fun o' ho' hcs=>?_⟩
  obtain ⟨i,hio⟩:=List.getElem?_of_mem ho'
  have hv:=lall_iff.1 hckO o' ho'
  have hcs':∀ p∈o'.cs,p.1.den (sta FI FB kv iv bv) dyn0=some p.2:=by
   intro p hp
   have hv':=hv
   unfold Out.vlt at hv'
   rw [cond_true_iff] at hv'
   rw [SB.vlt_den ha (lall_iff.1 hv'.1 p hp)];exact hcs p hp
  by_cases hij:i=j
  ·subst hij
   rw [hj] at hio;cases hio
   exact Out.vlt_is ha hv hout
  ·exact (hoth i o' hio hij hcs').elim
end Go.Sx
