/- A symbolic executor: calls by contract: handed plain values and arrays; what comes back may lie in blocks of its own. -/
import Derived.Test.YtfgdpkceoadgjaaSxZa
namespace Go.Sx
set_option linter.unusedSectionVars false
set_option linter.unusedVariables false
set_option linter.unusedSimpArgs false
open Go.RowKit
noncomputable def eqtOk (P:Program) (t:TypeId):Bool:=
 bif P.stoodInHeld t then false else bif P.eqGuardType P.depth t then false else match P.underlying t with | some (.struct fs)=>lall (fun f=>!(f.name == "_")) fs.toList | _=>true
structure POk (P:Program) (eqt:List TypeId):Prop where
 eqt:∀ t∈eqt,P.stoodInHeld t=false∧P.eqGuardType P.depth t=false∧∀ fs,P.underlying t=some (.struct fs)→∀ f∈fs.toList,f.name ≠ "_"
 names:∀ (f:Nat) (fn:Func),P.funcs[f]? = some fn→(fn.name == "runtime.NumGoroutine")=false
 ov:∀ (f:Nat) (fn:Func),P.funcs[f]? = some fn→ovOk fn=true
 mixed:P.follows .mixedOrders=true
theorem POk.of {P:Program} {eqt:List TypeId} (h1:lall (fun fn=>bif fn.name == "runtime.NumGoroutine" then false else ovOk fn) P.funcs.toList=true) (h2:P.follows .mixedOrders=true) (h3:lall (eqtOk P) eqt=true):POk P eqt:=by
 have key:∀ (f:Nat) (fn:Func),P.funcs[f]? = some fn→(fn.name == "runtime.NumGoroutine")=false∧ovOk fn=true:=fun f fn hf=>by
  have hm:fn∈P.funcs.toList:=by
   have:=Array.mem_of_getElem? hf
   exact Array.mem_toList_iff.2 this
  have:=lall_iff.1 h1 fn hm
  cases hn:(fn.name == "runtime.NumGoroutine") with
  | true=>rw [hn] at this;cases this
  | false=>rw [hn] at this;exact ⟨rfl,this⟩
 refine ⟨fun t ht=>?_,fun f fn hf=>(key f fn hf).1,fun f fn hf=>(key f fn hf).2,h2⟩
 ·have:=lall_iff.1 h3 t ht
  unfold eqtOk at this
  cases e1:P.stoodInHeld t with
  | true=>rw [e1] at this;cases this
  | false=>
    rw [e1,cond_false] at this
    cases e2:P.eqGuardType P.depth t with
    | true=>rw [e2] at this;cases this
    | false=>
      rw [e2,cond_false] at this
      refine ⟨rfl,rfl,fun fs hfs f hf he=>?_⟩
      rw [hfs] at this
      have:=lall_iff.1 this f hf
      rw [he] at this
      simp at this
structure FiOk (FI:FIx) (FB:FBx) (BF:List (Nat×Int×Int)):Prop where
 bf:∀ i a b,(i,a,b)∈BF→∀ x0 x1 x2 x3 x4 x5,a≤FI i x0 x1 x2 x3 x4 x5∧FI i x0 x1 x2 x3 x4 x5≤b
 al:∀ kv iv bv,ArrLaw (sta FI FB kv iv bv)
structure Gv where
 a:Nat
 o:SI
 lay:List Kd
 c:Nat
 n:SI
structure Con where
 g:FuncId
 vs:List Nat
 A:List SV
 G:List Gv
 B:List (Nat×Int×Int)
 F:List (SB×Bool)
 os:List Out
def InB (B:List (Nat×Int×Int)) (iv:Nat→Int):Prop:=∀ i a b,(i,a,b)∈B→a≤iv i∧iv i≤(if a≤b then b else iv i)
def GvIs (σ:Sta) (w:World) (G:Gv):Prop:=
 ∃ on nv,G.o.den σ dyn0=some (Int.ofNat on)∧G.n.den σ dyn0=some (Int.ofNat nv)∧∀ j,j < nv→∀ f κ,G.lay[f]? = some κ→w.cell? ⟨σ.kv G.a,on+j * G.lay.length+f,none⟩=some (κ.val σ (σ.iv G.c) j f)
def Con.Post (c:Con) (σ:Sta) (w:World) (e:Ending) (w':World):Prop:=
 ∃ u,e=.returned u∧Below w.heap.size w w'∧∀ o∈c.os,(∀ p∈o.cs,p.1.den σ dyn0=some p.2)→OutIs σ w w' u o
def Con.Ok (P:Program) (FI:FIx) (FB:FBx) (c:Con):Prop:=
 ∀ kv iv bv,InB c.B iv→(∀ p∈c.F,p.1.den (sta FI FB kv iv bv) dyn0=some p.2)→∀ w,(∀ G∈c.G,GvIs (sta FI FB kv iv bv) w G)→
   ∀ us,SV.IsL (sta FI FB kv iv bv) dyn0 c.A us→Calls P c.g us.toArray w (c.Post (sta FI FB kv iv bv) w)
inductive GvR where
 | ok (I:In)
 | ask (p:SB)
 | no
noncomputable def gvsM (cc:Cc) (H:Hp) (l:List Gv):In→GvR:=
 List.rec (motive:=fun _=>In→GvR) (fun I=>.ok I) (fun G _ ih I=>
  match (match get I.km G.a with | some r=>r | none=>SR.k G.a),G.o.ins I,G.n.ins I with
  | r,some o,some n=>match viewA cc H G.lay (.sl r o n (.c 0)) with
    | .ok c j m=>match get I.s.i G.c with
      | none=>bif Nat.blt 0 (llen G.lay) && (m.beq n) then ih ⟨⟨(G.c,baseC c j m)::I.s.i,I.s.b⟩,I.bm,I.dm,I.km⟩ else .no
      | some _=>.no
    | .ask p=>.ask p
    | .no=>.no
  | _,_,_=>.no) l
noncomputable def gvC (cc:Cc) (H:Hp) (I:In) (G:Gv):Bool:=
 match G.o.ins I,G.n.ins I,get I.s.i G.c with
 | some o,some n,some e=>bif nonneg (bdOf cc H) o then (bif nonneg (bdOf cc H) n then (bif Nat.blt 0 (llen G.lay) then (match viewA cc H G.lay (.sl (match get I.km G.a with | some r=>r | none=>SR.k G.a) o n (.c 0)) with
   | .ok c j m=>bif e.beq (baseC c j m) then m.beq n else false
   | _=>false) else false) else false) else false
 | _,_,_=>false
inductive CkR where
 | yes
 | ask (p:SB)
 | no
noncomputable def factsM (cc:Cc) (H:Hp) (I:In) (F:List (SB×Bool)):CkR:=
 List.rec (motive:=fun _=>CkR) .yes (fun p _ ih=>match p.1.ins I with
  | some q=>match dec (bdOf cc H) H.facts q with
    | .yes b=>bif (bif b then p.2 else !p.2) then ih else .no
    | .ask q=>.ask q
  | none=>.no) F
noncomputable def idMap (k:Nat) (n:Nat):List (Nat×Nat):=Nat.rec (motive:=fun _=>List (Nat×Nat)) [] (fun i ih=>(i,Nat.add k i)::ih) n
noncomputable def ddMap (k:Nat) (n:Nat):List (Nat×SI):=Nat.rec (motive:=fun _=>List (Nat×SI)) [] (fun i ih=>(i,.d (Nat.add k i))::ih) n
noncomputable def bksIns (I:In) (k:Nat) (l:List (Nat×Bk)):Option (List (Nat×Bk)):=
 List.rec (motive:=fun _=>Option (List (Nat×Bk))) (some []) (fun p _ ih=>match p.2.ins I,ih with | some bk,some r=>some ((Nat.add k p.1,bk)::r) | _,_=>none) l
noncomputable def fcsIns (I:In) (l:List (SB×Bool)):Option (List (SB×Bool)):=
 List.rec (motive:=fun _=>Option (List (SB×Bool))) (some []) (fun p _ ih=>match p.1.ins I,ih with | some q,some r=>some ((q,p.2)::r) | _,_=>none) l
noncomputable def outI (H:Hp) (I:In) (o:Out):In:=⟨I.s,idMap H.nb o.nb,ddMap H.nd o.nd,I.km⟩
noncomputable def lrnF (fs:List (SB×Bool)) (l:List (Nat×Int×Int)):List (Nat×Int×Int):=List.rec (motive:=fun _=>List (Nat×Int×Int)) l (fun f _ ih=>lrn ih f.1 f.2) fs
theorem lrnF_ok {σ:Sta} {ρ:Dyn} {l:List (Nat×Int×Int)} (h:∀ i a b,(i,a,b)∈l→InR a b (σ.iv i)):∀ {fs:List (SB×Bool)},(∀ f∈fs,f.1.den σ ρ=some f.2)→∀ i a b,(i,a,b)∈lrnF fs l→InR a b (σ.iv i)
 | [],_=>h
 | f::fs,hf=>lrn_ok (lrnF_ok h (fs:=fs) fun g hg=>hf g (List.mem_cons_of_mem _ hg)) (hf f (List.mem_cons_self ..))
noncomputable def outM (cc:Cc) (H:Hp) (I:In) (l:List Out):Ap:=
 List.rec (motive:=fun _=>Ap) .no (fun o _ ih=>match factsM cc H I o.cs with
  | .yes=>match SV.ins (outI H I o) o.z,bksIns (outI H I o) H.nb o.hp,fcsIns (outI H I o) o.fs with
    | some z,some hp,some fs=>bif ltAll o.nb (keys o.hp) then .ok z { heap:=lapp hp H.heap,nb:=Nat.add H.nb o.nb,nd:=Nat.add H.nd o.nd,nv:=H.nv,facts:=lapp fs H.facts,phis:=H.phis,bd:=lrnF fs H.bd } else .no
    | _,_,_=>.no
  | .ask p=>.ask p
  | .no=>ih) l
noncomputable def Con.app (cc:Cc) (c:Con) (H:Hp) (args:List SV):Ap:=
 match gvsM cc H c.G (mVL c.vs c.A args ⟨⟨[],[]⟩,[],[],[]⟩) with
 | .ok I=>bif lall (gvC cc H I) c.G then (bif I.chk cc H then (bif isEm I.bm then (bif isEm I.dm then (match SV.insL I c.A with
   | some A'=>match SV.cmpL A' args with
     | some []=>bif isEm (bdOb cc H I c.B) then (match factsM cc H I c.F with
       | .yes=>outM cc H I c.os
       | .ask p=>.ask p
       | .no=>.no) else .no
     | _=>.no
   | none=>.no) else .no) else .no) else .no) else .no
 | .ask p=>bif p.stat then .ask p else .no
 | .no=>.no
noncomputable def Con.ent (c:Con) (cc:Cc):Nat×(Hp→List SV→Ap):=(c.g,Con.app cc c)
section
variable {cc:Cc} {C:Ct} {hc:Nat→Option Obj} {w0:World} {ρ:Dyn} {H:Hp} {w:World} {I:In}
theorem factsM_ok (hcc:cc.Ok C) (h:HpRel C hc w0 ρ H w) (hI:I.Def C.σ ρ):∀ {F:List (SB×Bool)},(factsM cc H I F=.yes→∀ p∈F,p.1.den (I.sta C.σ ρ) (I.dyn C.σ ρ)=some p.2)∧∀ q,factsM cc H I F=.ask q→∃ b,q.den C.σ ρ=some b
 | []=>⟨(fun _ p hp=>by cases hp),(fun q hq=>by cases hq)⟩
 | p::F=>by
   have ih:=factsM_ok hcc h hI (F:=F)
   have e:factsM cc H I (p::F)=(match p.1.ins I with
    | some q=>match dec (bdOf cc H) H.facts q with
      | .yes b=>bif (bif b then p.2 else !p.2) then factsM cc H I F else .no
      | .ask q=>.ask q
    | none=>.no):=rfl
   rw [e]
   cases hq:p.1.ins I with
   | none=>exact ⟨(fun h=>by cases h),(fun q h=>by cases h)⟩
   | some q=>
     obtain ⟨v,v1,v2⟩:=SB.ins_ok hI hq
     dsimp only
     cases hd:dec (bdOf cc H) H.facts q with
     | ask r=>
       refine ⟨(fun h=>by cases h),fun r' hr=>?_⟩
       cases hr
       exact ask_den (bdOf_ok hcc h) h.facts v1 hd
     | yes b=>
       have:=dec_ok (bdOf_ok hcc h) h.facts v1 hd
       subst this
       dsimp only
       cases hb:(bif b then p.2 else !p.2) with
       | false=>exact ⟨(fun h=>by cases h),(fun q h=>by cases h)⟩
       | true=>
         simp only [cond_true]
         refine ⟨fun hy r hr=>?_,ih.2⟩
         rcases List.mem_cons.1 hr with rfl | hr
         ·rw [v2]
          cases b<;>cases hr2:r.2<;>simp_all
         ·exact ih.1 hy r hr
theorem dyn_nil (h1:isEm I.bm=true) (h2:isEm I.dm=true) (σ:Sta) (ρ:Dyn):I.dyn σ ρ=dyn0:=by
 obtain ⟨s,bm,dm,km⟩:=I
 cases bm with
 | cons=>cases h1
 | nil=>
   cases dm with
   | cons=>cases h2
   | nil=>rfl
theorem gvC_ok (hcc:cc.Ok C) (h:HpRel C hc w0 ρ H w) (hI:I.Def C.σ ρ) (hd:I.dyn C.σ ρ=dyn0) {G:Gv} (hg:gvC cc H I G=true):GvIs (I.sta C.σ ρ) w G:=by
 unfold gvC at hg
 split at hg
 ·rename_i o n e ho hn he
  simp only [cond_true_iff] at hg
  obtain ⟨g1,g2,g3,g4⟩:=hg
  obtain ⟨ov,o1,o2⟩:=SI.ins_ok hI ho
  obtain ⟨nv,n1,n2⟩:=SI.ins_ok hI hn
  obtain ⟨on,rfl⟩:=nonneg_ok (bdOf_ok hcc h) g1 o1
  obtain ⟨nn,rfl⟩:=nonneg_ok (bdOf_ok hcc h) g2 n1
  have hlay:0 < G.lay.length:=by rw [llen_eq] at g3;simpa [Nat.blt_eq] using g3
  have hr:∃ b,(match get I.km G.a with | some r=>r | none=>SR.k G.a).den C.σ ρ=some b∧(I.sta C.σ ρ).kv G.a=b:=by
   show ∃ b,_∧I.kv C.σ ρ G.a=b
   unfold In.kv
   cases hk:get I.km G.a with
   | none=>exact ⟨_,rfl,rfl⟩
   | some r=>
     obtain ⟨b,hb⟩:=hI.k _ _ hk
     exact ⟨b,hb,by simp [hb]⟩
  obtain ⟨b,hb,hkv⟩:=hr
  generalize (match get I.km G.a with | some r=>r | none=>SR.k G.a)=r at hb g4
  have hx:(SV.sl r o n (.c 0)).Is C.σ ρ (.slice (some ⟨b,on,none⟩) nn 0):=by
   simp only [SV.Is]
   exact ⟨b,on,nn,0,hb,o1,n1,rfl,rfl⟩
  have hv:=viewA_ok hcc h hlay hx
  split at g4
  ·rename_i c j m hvw
   rw [hvw] at hv
   simp only [cond_true_iff] at g4
   have hm:=SI.beq_eq g4.2
   subst hm
   have he':=SI.beq_eq g4.1
   subst he'
   obtain ⟨a,cap,mv,cv,jv,us,hu,h1,h2,h3,h4,h5,h6,h7⟩:=hv
   injection hu with hu1 hu2 hu3
   subst hu1 hu2 hu3
   obtain ⟨bv,b1,b2⟩:=baseC_ok hcc h1 h2 h3
   refine ⟨on,nn,by rw [← hd];exact o2,by rw [← hd];exact n2,fun i hi f κ hκ=>?_⟩
   have hval:(I.sta C.σ ρ).iv G.c=bv:=by
    show I.iv C.σ ρ G.c=bv
    unfold In.iv
    rw [he];simp [b1]
   rw [hkv,hval,val_sta,b2 i hi κ f]
   have:=h6 _ rfl _ _ (h5 i hi f κ hκ)
   rw [addr_add] at this
   rw [Nat.add_assoc];exact this
  ·cases g4
 ·cases hg
theorem idMap_get (k n i:Nat):get (idMap k n) i=if i < n then some (k+i) else none:=by
 induction n with
 | zero=>rfl
 | succ n ih=>
   show get ((n,Nat.add k n)::idMap k n) i=_
   rw [get_cons,ih]
   by_cases h:n=i
   ·subst h;simp
   ·rw [if_neg h]
    by_cases h2:i < n
    ·rw [if_pos h2,if_pos (by omega)]
    ·rw [if_neg h2,if_neg (by omega)]
theorem ddMap_get (k n i:Nat):get (ddMap k n) i=if i < n then some (.d (k+i)) else none:=by
 induction n with
 | zero=>rfl
 | succ n ih=>
   show get ((n,SI.d (Nat.add k n))::ddMap k n) i=_
   rw [get_cons,ih]
   by_cases h:n=i
   ·subst h;simp
   ·rw [if_neg h]
    by_cases h2:i < n
    ·rw [if_pos h2,if_pos (by omega)]
    ·rw [if_neg h2,if_neg (by omega)]
theorem bksIns_mem {k:Nat}:∀ {l l':List (Nat×Bk)},bksIns I k l=some l'→∀ i bk',get l' i=some bk'→∃ i0 bk,i=k+i0∧(i0,bk)∈l∧bk.ins I=some bk'
 | [],l',h,i,bk',hg=>by cases h;cases hg
 | p::l,l',h,i,bk',hg=>by
   have h':(match p.2.ins I,bksIns I k l with | some bk,some r=>some ((Nat.add k p.1,bk)::r) | _,_=>none)=some l':=h
   split at h'
   ·rename_i bk r hb hr
    cases h'
    rw [get_cons] at hg
    split at hg
    ·rename_i hi
     cases hg
     exact ⟨p.1,p.2,hi.symm,by simp,hb⟩
    ·obtain ⟨i0,b0,h1,h2,h3⟩:=bksIns_mem hr i bk' hg
     exact ⟨i0,b0,h1,List.mem_cons_of_mem _ h2,h3⟩
   ·cases h'
theorem fcsIns_mem:∀ {l l':List (SB×Bool)},fcsIns I l=some l'→∀ p'∈l',∃ p∈l,p.1.ins I=some p'.1∧p.2=p'.2
 | [],l',h,p',hp=>by cases h;cases hp
 | p::l,l',h,p',hp=>by
   have h':(match p.1.ins I,fcsIns I l with | some q,some r=>some ((q,p.2)::r) | _,_=>none)=some l':=h
   split at h'
   ·rename_i q r hq hr
    cases h'
    rcases List.mem_cons.1 hp with rfl | hp
    ·exact ⟨p,by simp,hq,rfl⟩
    ·obtain ⟨p0,h1,h2⟩:=fcsIns_mem hr p' hp
     exact ⟨p0,List.mem_cons_of_mem _ h1,h2⟩
   ·cases h'
theorem out_rel (hcc:cc.Ok C) (h:HpRel C hc w0 ρ H w) (hI:I.Def C.σ ρ) {o:Out} {w':World} {u:Value} (hb:Below w.heap.size w w') (ho:OutIs (I.sta C.σ ρ) w w' u o) {z:SV} {hp:List (Nat×Bk)} {fs:List (SB×Bool)}
  (h1:SV.ins (outI H I o) o.z=some z) (h2:bksIns (outI H I o) H.nb o.hp=some hp) (h3:fcsIns (outI H I o) o.fs=some fs) (h4:ltAll o.nb (keys o.hp)=true) :
  ∃ ρ',Tn ρ H w ρ' { heap:=lapp hp H.heap,nb:=Nat.add H.nb o.nb,nd:=Nat.add H.nd o.nd,nv:=H.nv,facts:=lapp fs H.facts,phis:=H.phis,bd:=lrnF fs H.bd } w'∧z.Is C.σ ρ' u∧
    HpRel C hc w0 ρ' { heap:=lapp hp H.heap,nb:=Nat.add H.nb o.nb,nd:=Nat.add H.nd o.nd,nv:=H.nv,facts:=lapp fs H.facts,phis:=H.phis,bd:=lrnF fs H.bd } w':=by
 obtain ⟨ρo,f1,f2,f3,f4,f5,f6,f7,f8⟩:=ho
 obtain ⟨ρ',hρ'⟩:∃ ρ':Dyn,ρ'={ bl:=fun i=>if i < H.nb then ρ.bl i else if i < H.nb+o.nb then ρo.bl (i - H.nb) else none,di:=fun i=>if i < H.nd then ρ.di i else if i < H.nd+o.nd then ρo.di (i - H.nd) else none,dv:=ρ.dv }:=⟨_,rfl⟩
 have bl1:∀ i,i < H.nb→ρ'.bl i=ρ.bl i:=fun i hi=>by rw [hρ'];simp only;rw [if_pos hi]
 have bl2:∀ i,i < o.nb→ρ'.bl (H.nb+i)=ρo.bl i:=fun i hi=>by
  rw [hρ'];simp only;rw [if_neg (by omega),if_pos (by omega)];congr 1;omega
 have bl3:∀ i,H.nb+o.nb≤i→ρ'.bl i=none:=fun i hi=>by rw [hρ'];simp only;rw [if_neg (by omega),if_neg (by omega)]
 have di1:∀ i,i < H.nd→ρ'.di i=ρ.di i:=fun i hi=>by rw [hρ'];simp only;rw [if_pos hi]
 have di2:∀ i,i < o.nd→ρ'.di (H.nd+i)=ρo.di i:=fun i hi=>by
  rw [hρ'];simp only;rw [if_neg (by omega),if_pos (by omega)];congr 1;omega
 have di3:∀ i,H.nd+o.nd≤i→ρ'.di i=none:=fun i hi=>by rw [hρ'];simp only;rw [if_neg (by omega),if_neg (by omega)]
 have hag:Dyn.Ag H ρ ρ':=⟨bl1,di1,fun i _=>by rw [hρ']⟩
 have hle:ρ.Le ρ':=Dyn.Ag.le h hag
 have hI2:(outI H I o).Def C.σ ρ':=by
  refine ⟨fun j e he=>?_,fun j e he=>?_,fun j e he=>?_,fun j r he=>?_⟩
  ·obtain ⟨x,hx⟩:=hI.i j e he;exact ⟨x,SI.den_mono hle _ _ hx⟩
  ·obtain ⟨x,hx⟩:=hI.b j e he;exact ⟨x,SB.den_mono hle _ _ hx⟩
  ·have he':get (ddMap H.nd o.nd) j=some e:=he
   rw [ddMap_get] at he'
   split at he'
   ·rename_i hj
    cases he'
    obtain ⟨n,hn⟩:=f6 j hj
    exact ⟨n,by simp only [SI.den];rw [di2 j hj,hn];rfl⟩
   ·cases he'
  ·obtain ⟨x,hx⟩:=hI.k j r he;exact ⟨x,SR.den_mono hle _ _ hx⟩
 have hsta:(outI H I o).sta C.σ ρ'=I.sta C.σ ρ:=by
  have e1:(outI H I o).iv C.σ ρ'=I.iv C.σ ρ:=by
   funext j
   show (match get I.s.i j with | some e=>(e.den C.σ ρ').getD 0 | none=>C.σ.iv j)=(match get I.s.i j with | some e=>(e.den C.σ ρ).getD 0 | none=>C.σ.iv j)
   cases hg:get I.s.i j with
   | none=>rfl
   | some e=>obtain ⟨x,hx⟩:=hI.i j e hg;simp [hx,SI.den_mono hle _ _ hx]
  have e2:(outI H I o).bv C.σ ρ'=I.bv C.σ ρ:=by
   funext j
   show (match get I.s.b j with | some e=>(e.den C.σ ρ').getD false | none=>C.σ.bv j)=(match get I.s.b j with | some e=>(e.den C.σ ρ).getD false | none=>C.σ.bv j)
   cases hg:get I.s.b j with
   | none=>rfl
   | some e=>obtain ⟨x,hx⟩:=hI.b j e hg;simp [hx,SB.den_mono hle _ _ hx]
  have e3:(outI H I o).kv C.σ ρ'=I.kv C.σ ρ:=by
   funext j
   show (match get I.km j with | some r=>(r.den C.σ ρ').getD 0 | none=>C.σ.kv j)=(match get I.km j with | some r=>(r.den C.σ ρ).getD 0 | none=>C.σ.kv j)
   cases hg:get I.km j with
   | none=>rfl
   | some r=>obtain ⟨x,hx⟩:=hI.k j r hg;simp [hx,SR.den_mono hle _ _ hx]
  unfold In.sta
  rw [e1,e2,e3]
 have hdyn:(outI H I o).dyn C.σ ρ'=ρo:=by
  have e1:(fun i=>(get (idMap H.nb o.nb) i).bind ρ'.bl)=ρo.bl:=by
   funext i
   rw [idMap_get]
   by_cases hi:i < o.nb
   ·rw [if_pos hi];exact bl2 i hi
   ·rw [if_neg hi]
    cases hb:ρo.bl i with
    | none=>rfl
    | some b=>exact absurd (f4 i b hb).1 hi
  have e2:(fun i=>(get (ddMap H.nd o.nd) i).bind fun e=>(e.den C.σ ρ').bind toN)=ρo.di:=by
   funext i
   rw [ddMap_get]
   by_cases hi:i < o.nd
   ·rw [if_pos hi]
    simp only [Option.bind_some,SI.den]
    rw [di2 i hi]
    cases ρo.di i<;>rfl
   ·rw [if_neg hi]
    cases hb:ρo.di i with
    | none=>rfl
    | some b=>exact absurd (f5 i b hb) hi
  have e3:(fun _=>none)=ρo.dv:=by funext i;exact (f7 i).symm
  show Dyn.mk (fun i=>(get (idMap H.nb o.nb) i).bind ρ'.bl) (fun i=>(get (ddMap H.nd o.nd) i).bind fun e=>(e.den C.σ ρ').bind toN) (fun _=>none)=ρo
  rw [e1,e2,e3]
 have hz:z.Is C.σ ρ' u:=by
  have:=(SV.ins_is hI2 o.z z u h1).2
  rw [hsta,hdyn] at this
  exact this f8
 have hhp:∀ i bk',get hp i=some bk'→∃ i0 bk b obj,i=H.nb+i0∧i0 < o.nb∧(i0,bk)∈o.hp∧bk'.live=true∧ρ'.bl i=some b∧w.heap.size≤b∧w'.heap[b]? = some obj∧bk'.Is C.σ ρ' obj:=by
  intro i bk' hg
  obtain ⟨i0,bk,rfl,m1,m2⟩:=bksIns_mem h2 i bk' hg
  obtain ⟨q1,b,obj,q2,q3,q4⟩:=f2 i0 bk m1
  obtain ⟨r1,r2⟩:=Bk.ins_is (o:=obj) hI2 m2
  rw [hsta,hdyn] at r1
  have hlt:=(f4 i0 b q2).1
  exact ⟨i0,bk,b,obj,rfl,hlt,m1,by rw [r2];exact q1,by rw [bl2 i0 hlt];exact q2,(f4 i0 b q2).2.1,q3,r1.2 q4⟩
 have hown:∀ b,Own ρ' (lapp hp H.heap) b→(Own ρ H.heap b)∨(w.heap.size≤b):=by
  rintro b ⟨i,bk,e1,e2,e3⟩
  rw [lapp_eq,get_append] at e1
  cases hg:get hp i with
  | some bk'=>
    obtain ⟨i0,bk0,b',obj,_,_,_,_,q1,q2,_⟩:=hhp i bk' hg
    rw [e3] at q1;cases q1
    exact .inr q2
  | none=>
    rw [hg] at e1
    have hlt:=h.hb i bk e1
    rw [bl1 i hlt] at e3
    exact .inl ⟨i,bk,e1,e2,e3⟩
 have hfs:∀ p∈fs,p.1.den C.σ ρ'=some p.2:=fun p hp=>by
  obtain ⟨p0,m1,m2,m3⟩:=fcsIns_mem h3 p hp
  have:=SB.ins_den hI2 m2
  rw [hsta,hdyn] at this
  rw [this,← m3]
  exact f1 p0 m1
 refine ⟨ρ',⟨hag,⟨⟨hp,by simp only [lapp_eq]⟩,Nat.le_add_right _ _,Nat.le_add_right _ _,Nat.le_refl _,⟨fs,by simp only [lapp_eq]⟩,⟨[],rfl⟩⟩,hb.size,fun l hl i b e=>?_,fun l hl b hlt _=>hb.block b hlt⟩,hz,⟨fun i bk e1 e2=>?_,fun i i' bk bk' b e1 e2 e3 e4 e5 e6=>?_,fun i hi=>bl3 i hi,fun i hi=>di3 i hi,fun i hi=>?_,fun i b e=>?_,fun i bk e=>?_,fun b ob e=>?_,fun b hbw=>?_,fun p hp=>?_,lrnF_ok h.bd hfs,fun j hj=>?_,hb.os.trans h.os,hb.tape.trans h.tape,hb.output.trans h.output,Nat.le_trans h.size hb.size⟩⟩
 ·rcases Nat.lt_or_ge i H.nb with hi | hi
  ·rw [bl1 i hi] at e;exact .inl e
  ·rcases Nat.lt_or_ge i (H.nb+o.nb) with hi2 | hi2
   ·have:i=H.nb+(i - H.nb):=by omega
    rw [this,bl2 _ (by omega)] at e
    exact .inr (.inl (f4 _ b e).2.1)
   ·rw [bl3 i hi2] at e;cases e
 ·rw [lapp_eq,get_append] at e1
  cases hg:get hp i with
  | some bk'=>
    rw [hg] at e1;cases e1
    obtain ⟨i0,bk0,b,obj,_,_,_,_,q1,_,q3,q4⟩:=hhp i _ hg
    exact ⟨b,obj,q1,q3,q4⟩
  | none=>
    rw [hg] at e1
    obtain ⟨b,obj,q1,q2,q3⟩:=h.blk i bk e1 e2
    exact ⟨b,obj,hle.bl _ _ q1,by rw [hb.block b (h.lt i b q1)];exact q2,Bk.is_mono hle q3⟩
 ·rw [lapp_eq,get_append] at e1 e3
  cases hg:get hp i with
  | some b1=>
    obtain ⟨i0,bk0,b0,obj0,j1,j2,j3,_,q1,q2,_⟩:=hhp i _ hg
    rw [e5] at q1;cases q1
    cases hg':get hp i' with
    | some b2=>
      obtain ⟨i0',bk0',b0',obj0',j1',j2',j3',_,q1',q2',_⟩:=hhp i' _ hg'
      rw [e6] at q1';cases q1'
      subst j1 j1'
      rw [bl2 _ j2] at e5
      rw [bl2 _ j2'] at e6
      rw [f3 i0 i0' bk0 bk0' b j3 j3' e5 e6]
    | none=>
      rw [hg'] at e3
      have hlt:=h.hb i' bk' e3
      rw [bl1 i' hlt] at e6
      have:=h.lt i' b e6
      omega
  | none=>
    rw [hg] at e1
    have hlt:=h.hb i bk e1
    rw [bl1 i hlt] at e5
    cases hg':get hp i' with
    | some b2=>
      obtain ⟨i0',bk0',b0',obj0',j1',j2',j3',_,q1',q2',_⟩:=hhp i' _ hg'
      rw [e6] at q1';cases q1'
      have:=h.lt i b e5
      omega
    | none=>
      rw [hg'] at e3
      have hlt':=h.hb i' bk' e3
      rw [bl1 i' hlt'] at e6
      exact h.inj i i' bk bk' b e1 e2 e3 e4 e5 e6
 ·rw [hρ'];exact h.fv i hi
 ·rcases Nat.lt_or_ge i H.nb with hi | hi
  ·rw [bl1 i hi] at e;exact Nat.lt_of_lt_of_le (h.lt i b e) hb.size
  ·rcases Nat.lt_or_ge i (H.nb+o.nb) with hi2 | hi2
   ·have:i=H.nb+(i - H.nb):=by omega
    rw [this,bl2 _ (by omega)] at e
    exact (f4 _ b e).2.2
   ·rw [bl3 i hi2] at e;cases e
 ·rw [lapp_eq,get_append] at e
  cases hg:get hp i with
  | some bk'=>
    obtain ⟨i0,bk0,b0,obj0,j1,j2,_⟩:=hhp i _ hg
    show i < H.nb+o.nb
    omega
  | none=>
    rw [hg] at e
    have:=h.hb i bk e
    show i < H.nb+o.nb
    omega
 ·have:=h.hid b ob e
  rw [hb.block b (Array.getElem?_eq_some_iff.1 this).1];exact this
 ·rcases hown b hbw with hw | hw
  ·exact h.nh b hw
  ·exact h.hc_lt hw
 ·have hp:p∈fs++H.facts:=by simpa only [lapp_eq] using hp
  rcases List.mem_append.1 hp with hp | hp
  ·exact hfs p hp
  ·exact SB.den_mono hle _ _ (h.facts p hp)
 ·refine C.mono j ρ _ _ _ hle ?_ (h.phis j hj)
  rintro b ob ⟨u1,u2,u3⟩
  have hlt:=(Array.getElem?_eq_some_iff.1 u1).1
  refine ⟨by rw [hb.block b hlt];exact u1,u2,fun hw=>?_⟩
  rcases hown b hw with hw | hw
  ·exact u3 hw
  ·omega
theorem outM_ok (hcc:cc.Ok C) (h:HpRel C hc w0 ρ H w) (hI:I.Def C.σ ρ) (hd:I.dyn C.σ ρ=dyn0):∀ {l:List Out},(∀ z H',outM cc H I l=.ok z H'→∃ o∈l,(∀ p∈o.cs,p.1.den (I.sta C.σ ρ) dyn0=some p.2)∧∃ hp fs,SV.ins (outI H I o) o.z=some z∧bksIns (outI H I o) H.nb o.hp=some hp∧fcsIns (outI H I o) o.fs=some fs∧ltAll o.nb (keys o.hp)=true∧
   H'={ heap:=lapp hp H.heap,nb:=Nat.add H.nb o.nb,nd:=Nat.add H.nd o.nd,nv:=H.nv,facts:=lapp fs H.facts,phis:=H.phis,bd:=lrnF fs H.bd })∧∀ q,outM cc H I l=.ask q→∃ b,q.den C.σ ρ=some b
 | []=>⟨(fun z H' hh=>by cases hh),(fun q hh=>by cases hh)⟩
 | o::l=>by
   have ih:=outM_ok hcc h hI hd (l:=l)
   have e:outM cc H I (o::l)=(match factsM cc H I o.cs with
    | .yes=>match SV.ins (outI H I o) o.z,bksIns (outI H I o) H.nb o.hp,fcsIns (outI H I o) o.fs with
      | some z,some hp,some fs=>bif ltAll o.nb (keys o.hp) then .ok z { heap:=lapp hp H.heap,nb:=Nat.add H.nb o.nb,nd:=Nat.add H.nd o.nd,nv:=H.nv,facts:=lapp fs H.facts,phis:=H.phis,bd:=lrnF fs H.bd } else .no
      | _,_,_=>.no
    | .ask p=>.ask p
    | .no=>outM cc H I l):=rfl
   rw [e]
   have hf:=factsM_ok hcc h hI (F:=o.cs)
   cases hfm:factsM cc H I o.cs with
   | no=>exact ⟨fun z H' hh=>by
     obtain ⟨o',m,r⟩:=ih.1 z H' hh
     exact ⟨o',List.mem_cons_of_mem _ m,r⟩,ih.2⟩
   | ask p=>exact ⟨(fun z H' hh=>by cases hh),fun q hh=>by cases hh;exact hf.2 p hfm⟩
   | yes=>
     have hcs:=hf.1 hfm
     rw [hd] at hcs
     dsimp only
     refine ⟨fun z H' hh=>?_,fun q hh=>?_⟩
     ·split at hh
      ·rename_i z' hp fs e1 e2 e3
       cases hl:ltAll o.nb (keys o.hp) with
       | false=>rw [hl] at hh;cases hh
       | true=>rw [hl] at hh;cases hh;exact ⟨o,by simp,hcs,hp,fs,e1,e2,e3,hl,rfl⟩
      ·cases hh
     ·split at hh
      ·cases hl:ltAll o.nb (keys o.hp)<;>(rw [hl] at hh;cases hh)
      ·cases hh
theorem Con.callOk {P:Program} {FI:FIx} {FB:FBx} {c:Con} (hok:c.Ok P FI FB) (hcc:cc.Ok C) (hP:cc.P=P) (hσ:∃ kv iv bv,C.σ=sta FI FB kv iv bv):CallOk cc C (c.ent cc).1 (c.ent cc).2:=by
 intro hc w0 ρ H w args us hh ha
 obtain ⟨kv0,iv0,bv0,hσ⟩:=hσ
 show (∀ z H',Con.app cc c H args=.ok z H'→_)∧(∀ p,Con.app cc c H args=.ask p→_)
 unfold Con.app
 cases hg:gvsM cc H c.G (mVL c.vs c.A args ⟨⟨[],[]⟩,[],[],[]⟩) with
 | no=>exact ⟨(fun z H' h=>by cases h),(fun q h=>by cases h)⟩
 | ask p=>
   refine ⟨(fun z H' h=>by cases hs:p.stat<;>simp [hs] at h),fun q h=>?_⟩
   cases hs:p.stat with
   | false=>simp [hs] at h
   | true=>
     simp only [hs,cond_true,Ap.ask.injEq] at h
     subst h
     exact SB.stat_den hs
 | ok I=>
   dsimp only
   cases h0:lall (gvC cc H I) c.G with
   | false=>exact ⟨(fun z H' h=>by cases h),(fun q h=>by cases h)⟩
   | true=>
   cases h1:I.chk cc H with
   | false=>exact ⟨(fun z H' h=>by cases h),(fun q h=>by cases h)⟩
   | true=>
   cases h2:isEm I.bm with
   | false=>exact ⟨(fun z H' h=>by cases h),(fun q h=>by cases h)⟩
   | true=>
   cases h3:isEm I.dm with
   | false=>exact ⟨(fun z H' h=>by cases h),(fun q h=>by cases h)⟩
   | true=>
   simp only [cond_true]
   cases h4:SV.insL I c.A with
   | none=>exact ⟨(fun z H' h=>by cases h),(fun q h=>by cases h)⟩
   | some A'=>
     dsimp only
     cases h5:SV.cmpL A' args with
     | none=>exact ⟨(fun z H' h=>by cases h),(fun q h=>by cases h)⟩
     | some L=>
       cases L with
       | cons=>exact ⟨(fun z H' h=>by cases h),(fun q h=>by cases h)⟩
       | nil=>
         dsimp only
         cases h6:isEm (bdOb cc H I c.B) with
         | false=>exact ⟨(fun z H' h=>by cases h),(fun q h=>by cases h)⟩
         | true=>
           simp only [cond_true]
           have hI:=In.chk_ok hcc hh h1
           have hd:=dyn_nil h2 h3 C.σ ρ
           have hf:=factsM_ok hcc hh hI (F:=c.F)
           cases h7:factsM cc H I c.F with
           | no=>exact ⟨(fun z H' h=>by cases h),(fun q h=>by cases h)⟩
           | ask p=>exact ⟨(fun z H' h=>by cases h),fun q h=>by cases h;exact hf.2 p h7⟩
           | yes=>
             dsimp only
             have hF:=hf.1 h7
             rw [hd] at hF
             have hout:=outM_ok hcc hh hI hd (l:=c.os)
             refine ⟨fun z H' h=>?_,hout.2⟩
             obtain ⟨o,m1,m2,hp,fs,m3,m4,m5,m6,rfl⟩:=hout.1 z H' h
             have hsta:I.sta C.σ ρ=sta FI FB ⟨I.kv C.σ ρ,kv0.s⟩ (I.iv C.σ ρ) (I.bv C.σ ρ):=by
              unfold In.sta
              rw [hσ];rfl
             have hA:SV.IsL (I.sta C.σ ρ) dyn0 c.A us:=by
              have:=SV.cmpL_ok A' args [] us h5 (fun _ h=>by cases h) ha
              have:=(SV.insL_is hI c.A A' us h4).1 this
              rwa [hd] at this
             have hB:InB c.B (I.iv C.σ ρ):=bdOb_ok hcc hh hI (by
              have:bdOb cc H I c.B=[]:=by
               cases hb:bdOb cc H I c.B with
               | nil=>rfl
               | cons=>rw [hb] at h6;cases h6
              rw [this];exact fun _ h=>by cases h)
             have hG:∀ G∈c.G,GvIs (I.sta C.σ ρ) w G:=fun G hG=>gvC_ok hcc hh hI hd (lall_iff.1 h0 G hG)
             have hcall:=hok ⟨I.kv C.σ ρ,kv0.s⟩ (I.iv C.σ ρ) (I.bv C.σ ρ) hB (by rw [← hsta];exact hF) w (by rw [← hsta];exact hG) us (by rw [← hsta];exact hA)
             rw [← hP,← hsta] at hcall
             intro cs
             obtain ⟨e,w',fr,⟨u,rfl,hbl,hos⟩,k1,k2,k3⟩:=hcall cs
             obtain ⟨ρ',g1,g2,g3⟩:=out_rel hcc hh hI hbl (hos o m1 m2) m3 m4 m5 m6
             exact ⟨.returned u,w',fr,⟨ρ',u,rfl,g1,g2,g3⟩,k1,k2,k3⟩
end
def EntsFor (P:Program) (FI:FIx) (FB:FBx) (E:Cc→Ents):Prop:=
 ∀ (cc:Cc) (C:Ct),cc.Ok C→cc.P=P→(∃ kv iv bv,C.σ=sta FI FB kv iv bv)→EntsOk cc C (E cc)
theorem EntsFor.nil {P:Program} {FI:FIx} {FB:FBx}:EntsFor P FI FB (fun _=>[]):=fun _ _ _ _ _ _ _ h=>by cases h
theorem EntsFor.cons {P:Program} {FI:FIx} {FB:FBx} {E:Cc→Ents} {c:Con} (h:c.Ok P FI FB) (hE:EntsFor P FI FB E):EntsFor P FI FB (fun cc=>c.ent cc::E cc):=by
 intro cc C hcc hP hσ f app hm
 rcases List.mem_cons.1 hm with e | hm
 ·cases e;exact c.callOk h hcc hP hσ
 ·exact hE cc C hcc hP hσ f app hm
end Go.Sx
