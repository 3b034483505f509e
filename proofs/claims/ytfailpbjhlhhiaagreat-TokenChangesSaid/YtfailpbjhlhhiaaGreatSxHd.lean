/- A symbolic executor: contracts that write into blocks that are handed over. -/
import Derived.Test.YtfailpbjhlhhiaaGreatSxSt
import Derived.Test.YtfailpbjhlhhiaaGreatSxT
namespace Go.Sx
noncomputable section
set_option linter.unusedVariables false
set_option linter.unusedSimpArgs false
open Go.RowKit
structure Com where
 g:FuncId
 vs:List Nat
 A:List SV
 M:List (Nat×Bk)
 m:Nat
 B:List (Nat×Int×Int)
 F:List (SB×Bool)
 os:List Out
 rk:SI
 ow:List TypeId
def dynM (m:Nat) (bl:Nat→Nat) (F:Nat→Option Obj):Dyn:=⟨fun i=>if i < m then some (bl i) else none,fun _=>none,fun _=>none,F⟩
def Among (m:Nat) (bl:Nat→Nat) (b:Nat):Prop:=∃ i,i < m∧bl i=b
structure BelowX (X:Nat→Prop) (w w':World):Prop where
 os:w'.os=w.os
 tape:w'.tape=w.tape
 output:w'.output=w.output
 size:w.heap.size≤w'.heap.size
 block:∀ b,b < w.heap.size→¬ X b→w'.heap[b]? = w.heap[b]?
def OutM (σ:Sta) (F:Nat→Option Obj) (m:Nat) (bl:Nat→Nat) (w0 w':World) (u:Value) (o:Out):Prop:=
 ∃ ρ:Dyn,(∀ p∈o.fs,p.1.den σ ρ=some p.2)∧(∀ i bk,(i,bk)∈o.hp→bk.live=true∧∃ b obj,ρ.bl i=some b∧w'.heap[b]? = some obj∧bk.Is σ ρ obj)∧
   (∀ i i' bk bk' b,(i,bk)∈o.hp→(i',bk')∈o.hp→ρ.bl i=some b→ρ.bl i'=some b→i=i')∧
   (∀ i b,ρ.bl i=some b→i < o.nb∧b < w'.heap.size∧(m≤i→w0.heap.size≤b∨∃ k,k < m∧k ∉ keys o.hp∧bl k=b))∧(∀ i,i < m→ρ.bl i=if i∈keys o.hp then some (bl i) else none)∧(∀ i n,ρ.di i=some n→i < o.nd)∧(∀ i,i < o.nd→∃ n,ρ.di i=some n)∧(∀ i,ρ.dv i=none)∧
   (∀ b ob,ρ.fz b=some ob→w'.heap[b]? = some ob∧(F b=some ob∨w0.heap.size≤b∨∃ k,k < m∧k ∉ keys o.hp∧bl k=b)∧∀ i bk,(i,bk)∈o.hp→ρ.bl i≠some b)∧o.z.Is σ ρ u
def Com.Post (c:Com) (σ:Sta) (F:Nat→Option Obj) (bl:Nat→Nat) (w:World) (e:Ending) (w':World):Prop:=
 ∃ u,e=.returned u∧BelowX (Among c.m bl) w w'∧∀ o∈c.os,(∀ p∈o.cs,p.1.den σ dyn0=some p.2)→OutM σ F c.m bl w w' u o
def Com.OkI (P:Program) (FI:FIx) (FB:FBx) (c:Com) (kv:Kv) (iv:Nat→Int) (bv:Nat→Bool):Prop:=
 InB c.B iv→(∀ p∈c.F,p.1.den (sta FI FB kv iv bv) dyn0=some p.2)→∀ w bl F,(∀ b o,F b=some o→w.heap[b]? = some o∧¬ Among c.m bl b)→(∀ i bk,(i,bk)∈c.M→∃ o,w.heap[bl i]? = some o∧bk.Is (sta FI FB kv iv bv) (dynM c.m bl F) o)→(∀ i j,i < c.m→j < c.m→bl i=bl j→i=j)→
  ∀ us,SV.IsL (sta FI FB kv iv bv) (dynM c.m bl F) c.A us→Calls P c.g us.toArray w (c.Post (sta FI FB kv iv bv) F bl w)
def Com.Ok (P:Program) (FI:FIx) (FB:FBx) (c:Com):Prop:=∀ kv iv bv,c.OkI P FI FB kv iv bv
def comI (c:Com) (H:Hp) (args:List SV):In:=mH c.vs H c.M c.m (mVL c.vs c.A args ⟨⟨[],[]⟩,[],[],[]⟩)
def noCode (l:List (Nat×Bk)):Bool:=lall (fun p=>p.2.code.isNone) l
def comK (cc:Cc) (H:Hp) (c:Com) (I:In):Bool:=
 bif I.chk cc H then (bif isEm I.dm then (bif isEm I.km then (bif ltAll c.m (keys I.bm) then (bif ltAll c.m (keys c.M) then (bif allLt c.m (fun i=>lmem (keys c.M) i) then (bif nodup (bmL I c.M) then noCode c.M else false) else false) else false) else false) else false) else false) else false
def idMapM (k m n:Nat):List (Nat×Nat):=Nat.rec (motive:=fun _=>List (Nat×Nat)) [] (fun i ih=>(Nat.add m i,Nat.add k i)::ih) n
def bmKeep (ks:List Nat) (l:List (Nat×Nat)):List (Nat×Nat):=List.rec (motive:=fun _=>List (Nat×Nat)) [] (fun p _ ih=>bif lmem ks p.1 then p::ih else ih) l
def goneM (m:Nat) (ks:List Nat) (bm:List (Nat×Nat)):List (Nat×Bk):=Nat.rec (motive:=fun _=>List (Nat×Bk)) [] (fun i ih=>bif lmem ks i then ih else (match get bm i with | some j=>(j,.gone)::ih | none=>ih)) m
def outIm (H:Hp) (I:In) (m:Nat) (o:Out):In:=⟨I.s,lapp (bmKeep (keys o.hp) I.bm) (idMapM H.nb m (Nat.sub o.nb m)),ddMap H.nd o.nd,I.km⟩
def bksInsM (I:In) (l:List (Nat×Bk)):Option (List (Nat×Bk)):=
 List.rec (motive:=fun _=>Option (List (Nat×Bk))) (some []) (fun p _ ih=>match get I.bm p.1,p.2.ins I,ih with | some j,some bk,some r=>some ((j,bk)::r) | _,_,_=>none) l
def comH (H:Hp) (I:In) (m:Nat) (o:Out) (hp:List (Nat×Bk)) (fs:List (SB×Bool)):Hp:=
 { heap:=lapp hp (lapp (goneM m (keys o.hp) I.bm) H.heap),nb:=Nat.add H.nb (Nat.sub o.nb m),nd:=Nat.add H.nd o.nd,nv:=H.nv,facts:=lapp fs H.facts,phis:=H.phis,bd:=lrnF fs H.bd }
def outMm (cc:Cc) (H:Hp) (I:In) (m:Nat) (l:List Out):Ap:=
 List.rec (motive:=fun _=>Ap) .no (fun o _ ih=>match factsM cc H I o.cs with
  | .yes=>match SV.ins (outIm H I m o) o.z,bksInsM (outIm H I m o) o.hp,fcsIns (outIm H I m o) o.fs with
    | some z,some hp,some fs=>bif ltAll o.nb (keys o.hp) then (bif Nat.ble m o.nb then .ok z (comH H I m o hp fs) else .no) else .no
    | _,_,_=>.no
  | .ask p=>.ask p
  | .no=>ih) l
def Com.app0 (cc:Cc) (c:Com) (x:Hp→In→Bool) (H:Hp) (args:List SV):Ap:=
 bif comK cc H c (comI c H args) then (bif x H (comI c H args) then (match SV.insL (comI c H args) c.A,hpCmp cc H (comI c H args) c.M with
  | some A',some []=>match SV.cmpL A' args with
    | some []=>bif bdFk cc H (comI c H args) c.B then (match factsM cc H (comI c H args) c.F with
      | .yes=>outMm cc H (comI c H args) c.m c.os
      | .ask p=>.ask p
      | .no=>.bad) else .no
    | _=>.no
  | _,_=>.no) else .no) else .no
def Com.appG (cc:Cc) (c:Com) (x:Hp→In→Bool):Hp→List SV→Ap:=frzA cc c.A (Com.app0 cc c x)
def Com.ent (c:Com) (cc:Cc):Nat×(Hp→List SV→Ap):=(c.g,Com.appG cc c (fun _ _=>true))
section
variable {cc:Cc} {C:Ct} {hc:Nat→Option Obj} {w0:World} {ρ:Dyn} {H:Hp} {w:World} {I:In}
theorem mem_keys {l:List (Nat×Bk)} {i:Nat} (h:i∈keys l):∃ bk,(i,bk)∈l:=by
 unfold keys at h
 rw [lmap_eq] at h
 obtain ⟨⟨i',bk⟩,hm,he⟩:=List.mem_map.1 h
 cases he
 exact ⟨bk,hm⟩
end
end
end Go.Sx
namespace Go.Sx
noncomputable section
set_option linter.unusedVariables false
set_option linter.unusedSimpArgs false
open Go.RowKit
def bmIs (I:In) (i:Nat):Bool:=match get I.bm i with | some j=>Nat.beq j i | none=>false
theorem bmIs_ok {I:In} {i:Nat} (h:bmIs I i=true):get I.bm i=some i:=by
 unfold bmIs at h
 split at h
 ·rename_i j hj;rw [hj,Nat.eq_of_beq_eq_true h]
 ·cases h
def keptL (m:Nat) (os:List Out):List Nat:=Nat.rec (motive:=fun _=>List Nat) [] (fun i ih=>bif lall (fun o=>lmem (keys o.hp) i) os then i::ih else ih) m
def finIM (m:Nat) (o:Out) (z:SV) (H:Hp):In:=mH [] H o.hp (llen o.hp) (mV [] o.z z ⟨⟨[],[]⟩,bmKeep (keys o.hp) (idMap 0 m),[],[]⟩)
def finOfM (m:Nat) (ks:List Nat) (cc:Cc) (o:Out) (z:SV) (H:Hp) (I:In):Option (List Ob):=
 bif allLt m (fun i=>bif lmem (keys o.hp) i then (bif lmem ks i then bmIs I i else false) else true) then finOf cc o z H I else none
def finMcM (m:Nat) (ks:List Nat) (ck:Bool) (cc:Cc) (z:SV) (H:Hp) (os:List Out):Nat→Option Lf:=
 List.rec (motive:=fun _=>Nat→Option Lf) (fun _=>none) (fun o _ ih k=>match (bif (bif ck then SV.clash o.z z else false) then none else bif outNo cc H o.cs then none else finOfM m ks cc o (frzT cc o.z z H).1 (frzT cc o.z z H).2 (finIM m o (frzT cc o.z z H).1 (frzT cc o.z z H).2)) with
  | some L=>some (.fin H.facts k (finIM m o (frzT cc o.z z H).1 (frzT cc o.z z H).2) L (lmap (fun p=>cdA (frzT cc o.z z H).2 (finIM m o (frzT cc o.z z H).1 (frzT cc o.z z H).2) p.1) o.hp))
  | none=>ih (Nat.succ k)) os
def finMM (m:Nat) (cc:Cc) (z:SV) (H:Hp) (os:List Out) (k:Nat):Option Lf:=
 match finMcM m (keptL m os) true cc z H os k with
 | some l=>some l
 | none=>finMcM m (keptL m os) false cc z H os k
def Tr.lfsM (m:Nat) (cc:Cc) (Ts:List Tm) (os:List Out) (t:Tr):Option (List Lf):=
 Tr.rec (motive:=fun _=>Option (List Lf)) (fun z H=>match finMM m cc z H os 0 with | some l=>some [l] | none=>none) (fun f fs H=>match cutM cc f fs H Ts 0 with | some l=>some [l] | none=>none)
  (fun _ _ _ a b=>match a,b with | some x,some y=>some (lapp x y) | _,_=>none) (fun _ _ _ H=>some [.bad H.facts]) t
theorem finMcM_ok {m:Nat} {ks:List Nat} {ck:Bool} {cc:Cc} {z:SV} {H:Hp}:∀ {os:List Out} {k:Nat} {l:Lf},finMcM m ks ck cc z H os k=some l→∃ j o L,os[j]? = some o∧l=.fin H.facts (k+j) (finIM m o (frzT cc o.z z H).1 (frzT cc o.z z H).2) L (lmap (fun p=>cdA (frzT cc o.z z H).2 (finIM m o (frzT cc o.z z H).1 (frzT cc o.z z H).2) p.1) o.hp)∧finOfM m ks cc o (frzT cc o.z z H).1 (frzT cc o.z z H).2 (finIM m o (frzT cc o.z z H).1 (frzT cc o.z z H).2)=some L
 | [],k,l,h=>by cases h
 | o::os,k,l,h=>by
   have h':(match (bif (bif ck then SV.clash o.z z else false) then none else bif outNo cc H o.cs then none else finOfM m ks cc o (frzT cc o.z z H).1 (frzT cc o.z z H).2 (finIM m o (frzT cc o.z z H).1 (frzT cc o.z z H).2)) with
    | some L=>some (.fin H.facts k (finIM m o (frzT cc o.z z H).1 (frzT cc o.z z H).2) L (lmap (fun p=>cdA (frzT cc o.z z H).2 (finIM m o (frzT cc o.z z H).1 (frzT cc o.z z H).2) p.1) o.hp))
    | none=>finMcM m ks ck cc z H os (Nat.succ k))=some l:=h
   split at h'
   ·rename_i L hL
    cases h'
    refine ⟨0,o,L,rfl,rfl,?_⟩
    cases hq:(bif ck then SV.clash o.z z else false) with
    | true=>rw [hq] at hL;cases hL
    | false=>
    rw [hq,cond_false] at hL
    cases hn:outNo cc H o.cs with
    | true=>rw [hn] at hL;cases hL
    | false=>rw [hn] at hL;exact hL
   ·obtain ⟨j,o',L,h1,h2,h3⟩:=finMcM_ok h'
    exact ⟨j+1,o',L,by simpa using h1,by rw [h2];congr 1;simp only [Nat.succ_eq_add_one];omega,h3⟩
theorem finMM_ok {m:Nat} {cc:Cc} {z:SV} {H:Hp} {os:List Out} {k:Nat} {l:Lf} (h:finMM m cc z H os k=some l):∃ j o L,os[j]? = some o∧l=.fin H.facts (k+j) (finIM m o (frzT cc o.z z H).1 (frzT cc o.z z H).2) L (lmap (fun p=>cdA (frzT cc o.z z H).2 (finIM m o (frzT cc o.z z H).1 (frzT cc o.z z H).2) p.1) o.hp)∧finOfM m (keptL m os) cc o (frzT cc o.z z H).1 (frzT cc o.z z H).2 (finIM m o (frzT cc o.z z H).1 (frzT cc o.z z H).2)=some L:=by
 unfold finMM at h
 split at h
 ·rename_i l' hl;cases h;exact finMcM_ok hl
 ·exact finMcM_ok h
section
variable {cc:Cc} {C:Ct} {hc:Nat→Option Obj} {w0:World} {cs:List Frame} {ρ:Dyn} {f:Fr} {fs:List Fr} {H:Hp} {w:World} {I:In}
theorem fin_okM {m:Nat} {ks:List Nat} {bl:Nat→Nat} (hcc:cc.Ok C) (hb:∀ ρ U,C.phi 0 ρ U↔∀ b o,w0.heap[b]? = some o→¬ Among m bl b→U b o) (hM:∀ i,i < m→i∈ks→ρ.bl i=some (bl i)) (hX:∀ b,C.X b→Among m bl b) {o:Out} {z:SV} {u:Value} {L:List Ob} (h:finOfM m ks cc o z H I=some L) (hcd:lmap (fun p=>cdA H I p.1) o.hp=lmap (fun p=>p.2.code) o.hp) (hh:HpRel C hc w0 ρ H w) (hz:z.Is C.σ ρ u) :
  I.Def C.σ ρ∧(Obs C.σ ρ L→OutM C.σ C.F0 m bl w0 w u o∧BelowX (Among m bl) w0 w):=by
 unfold finOfM at h
 cases hq1:allLt m (fun i=>bif lmem (keys o.hp) i then (bif lmem ks i then bmIs I i else false) else true) with
 | false=>rw [hq1] at h;cases h
 | true=>
 rw [hq1] at h
 simp only [cond_true] at h
 have hq:∀ i,i < m→i∈keys o.hp→i∈ks∧get I.bm i=some i:=fun i hi hk=>by
  have:=allLt_ok hq1 i hi
  try dsimp only at this
  rw [lmem_iff.2 hk,cond_true,cond_true_iff] at this
  exact ⟨lmem_iff.1 this.1,bmIs_ok this.2⟩
 unfold finOf at h
 cases hk:finK cc o H I with
 | false=>rw [hk] at h;cases h
 | true=>
   rw [hk] at h
   simp only [cond_true] at h
   unfold finK at hk
   simp only [cond_true_iff] at hk
   obtain ⟨k0,n1,n2,n3,k1,k2,k3,k4,k6,k5⟩:=hk
   have hI:=In.chk_ok hcc hh k0
   refine ⟨hI,fun hL=>?_⟩
   have hσ:=sta_nil n1 n2 n3 C.σ ρ
   obtain ⟨L1,L',e1,h,o1,hL⟩:=oapp_ok h hL
   obtain ⟨L2,L3,e2,e3,o2,o3⟩:=oapp_ok h hL
   simp only [lmap_eq] at hcd
   have hhp:=hpCmp_ok hcc hh hI e2 o2 hcd.symm
   have bl_of:∀ i b,(I.dyn C.σ ρ).bl i=some b→∃ j,get I.bm i=some j∧ρ.bl j=some b:=by
    intro i b e
    have e':(get I.bm i).bind ρ.bl=some b:=e
    exact Option.bind_eq_some_iff.1 e'
   have h0:=lmem_iff.1 k5
   have hbmi:∀ i,i < m→i∈keys o.hp→get I.bm i=some i:=fun i hi hk=>(hq i hi hk).2
   have hphi:=(hb ρ _).1 (hh.phis 0 h0)
   have amo:∀ b,Among m bl b→(∃ k z,k < m∧k∈keys o.hp∧get H.heap k=some z∧z.live=true∧ρ.bl k=some b)∨∃ k,k < m∧k ∉ keys o.hp∧bl k=b:=by
    rintro b ⟨k,hk,rfl⟩
    by_cases hkk:k∈keys o.hp
    ·obtain ⟨bk,hm⟩:=mem_keys hkk
     obtain ⟨_,j,zz,bb,ob,r1,r2,r3,r4,_⟩:=hhp k bk hm
     rw [hbmi k hk hkk] at r1;cases r1
     exact .inl ⟨k,zz,hk,hkk,r2,r3,hM k hk (hq k hk hkk).1⟩
    ·exact .inr ⟨k,hk,hkk,rfl⟩
   refine ⟨⟨I.dyn C.σ ρ,fun p hp=>?_,fun i bk hm=>?_,fun i i' bk bk' b m1 m2 b1 b2=>?_,fun i b e=>?_,fun i hi=>?_,fun i n e=>?_,fun i hi=>?_,fun _=>rfl,fun b ob e=>?_,?_⟩,⟨hh.os,hh.tape,hh.output,hh.size,fun b hlt hno=>?_⟩⟩
   ·have:=fcOb_ok hcc hh hI e3 o3 p hp
    rwa [hσ] at this
   ·obtain ⟨q1,j,zz,b,ob,r1,r2,r3,r4,r5,r6⟩:=hhp i bk hm
    rw [hσ] at r6
    exact ⟨q1,b,ob,by show (get I.bm i).bind ρ.bl=some b;rw [r1];exact r4,r5,r6⟩
   ·obtain ⟨_,j,zz,bb,ob,r1,r2,r3,r4,r5,r6⟩:=hhp i bk m1
    obtain ⟨_,j',zz',bb',ob',r1',r2',r3',r4',r5',r6'⟩:=hhp i' bk' m2
    obtain ⟨k,t1,t2⟩:=bl_of i b b1
    rw [r1] at t1;cases t1
    obtain ⟨k',t1',t2'⟩:=bl_of i' b b2
    rw [r1'] at t1';cases t1'
    have:=hh.inj j j' zz zz' b r2 r3 r2' r3' t2 t2'
    subst this
    exact bm_inj k4 i i' bk bk' j m1 m2 r1 r1'
   ·obtain ⟨j,t1,t2⟩:=bl_of i b e
    have hkey:=lmem_iff.1 (lall_iff.1 k2 i (get_key t1))
    have hmem:∃ bk,(i,bk)∈o.hp:=by
     unfold keys at hkey
     rw [lmap_eq] at hkey
     obtain ⟨⟨i',bk⟩,hm,he⟩:=List.mem_map.1 hkey
     cases he
     exact ⟨bk,hm⟩
    obtain ⟨bk,hm⟩:=hmem
    obtain ⟨_,j',zz,bb,ob,r1,r2,r3,r4,r5,r6⟩:=hhp i bk hm
    rw [t1] at r1;cases r1
    refine ⟨ltAll_ok k1 i hkey,hh.lt _ b t2,fun hmi=>?_⟩
    rcases Nat.lt_or_ge b w0.heap.size with hlt | hge
    ·by_cases ha:Among m bl b
     ·rcases amo b ha with ⟨k,z',a1,a0,a2,a3,a4⟩ | ⟨k,a1,a2,a3⟩
      ·have:=hh.inj j k zz z' b r2 r3 a2 a3 t2 a4
       subst this
       obtain ⟨bk',hm'⟩:=mem_keys a0
       have:=bm_inj k4 i j bk bk' j hm hm' t1 (hbmi j a1 a0)
       omega
      ·exact .inr ⟨k,a1,a2,a3⟩
     ·have hp0:=hphi b _ (Array.getElem?_eq_getElem hlt) ha
      exact absurd ⟨j,zz,r2,r3,t2⟩ hp0.2.2
    ·exact .inl hge
   ·show (get I.bm i).bind ρ.bl=if i∈keys o.hp then some (bl i) else none
    by_cases hk:i∈keys o.hp
    ·rw [if_pos hk,hbmi i hi hk];exact hM i hi (hq i hi hk).1
    ·rw [if_neg hk]
     cases hg:get I.bm i with
     | none=>rfl
     | some j=>exact absurd (lmem_iff.1 (lall_iff.1 k2 i (get_key hg))) hk
   ·have e':(get I.dm i).bind (fun e=>(e.den C.σ ρ).bind toN)=some n:=e
    obtain ⟨x,hx,_⟩:=Option.bind_eq_some_iff.1 e'
    exact ltAll_ok k3 i (get_key hx)
   ·have hkey:=lmem_iff.1 (allLt_ok k6 i hi)
    have hget:∃ e,get I.dm i=some e:=by
     cases hg:get I.dm i with
     | some e=>exact ⟨e,rfl⟩
     | none=>
       have:∀ l:List (Nat×SI),i∈keys l→get l i≠none:=by
        intro l
        induction l with
        | nil=>intro hm;cases hm
        | cons p l ih=>
          intro hm
          rw [get_cons]
          split
          ·simp
          ·rename_i hne
           refine ih ?_
           have hm':i∈p.1::keys l:=hm
           rcases List.mem_cons.1 hm' with e | hm'
           ·exact absurd e.symm hne
           ·exact hm'
       exact absurd hg (this _ hkey)
    obtain ⟨e,he⟩:=hget
    obtain ⟨n,hn⟩:=hI.d i e he
    refine ⟨n,?_⟩
    show (get I.dm i).bind (fun e=>(e.den C.σ ρ).bind toN)=some n
    rw [he];simp [hn,toN]
   ·obtain ⟨⟨u1,u2,u3⟩,u4⟩:=hh.fz b ob e
    refine ⟨u1,u4.imp id (fun h=>h.elim .inl fun h=>by
     rcases amo b (hX b h) with ⟨k,z',_,_,a2,a3,a4⟩ | h
     ·exact absurd ⟨k,z',a2,a3,a4⟩ u3
     ·exact .inr h),fun i bk hm hbl=>?_⟩
    obtain ⟨_,j,zz,b',ob',r1,r2,r3,r4,r5,r6⟩:=hhp i bk hm
    obtain ⟨j',t1,t2⟩:=bl_of i b hbl
    rw [r1] at t1;cases t1
    exact u3 ⟨j,zz,r2,r3,t2⟩
   ·split at e1
    ·rename_i z' hz'
     have:=SV.cmp_ok z' z L1 u e1 o1 hz
     have:=(SV.ins_is hI o.z z' u hz').1 this
     rwa [hσ] at this
    ·cases e1
   ·have:=hphi b _ (Array.getElem?_eq_getElem hlt) hno
    rw [this.1,Array.getElem?_eq_getElem hlt]
end
def bmAll (m:Nat) (os:List Out) (lf:Lf):Bool:=match lf with | .cut _ _ I _ _=>allLt m (fun i=>bif lmem (keptL m os) i then bmIs I i else true) | _=>true
theorem cuts_okM {m0:Nat} {bl:Nat→Nat} {na:Nat} {iv0:Nat→Int} {bv0:Nat→Bool} {X:Cx} {cc:Cc} {E:Ents} {Ts:List Tm} {os:List Out} {Inv:Nat→(Nat→Int)→(Nat→Bool)→Prop} {mu:Nat→(Nat→Int)→(Nat→Bool)→Nat} {w0:World} {hc:Nat→Option Obj} {cs:List Frame} {bot:FuncId×Bool} {R:Value→World→Prop}
  (hbase:∀ U,X.phi 0 U↔∀ b o,w0.heap[b]? = some o→¬ Among m0 bl b→U b o) (hX:∀ b,X.X b→Among m0 bl b) (hnb:∀ T∈Ts,m0≤T.H.nb)
  (hvs:∀ T∈Ts,∀ i∈T.vs,na≤i) (hcc:∀ iv bv,Agr na iv0 bv0 iv bv→cc.Ok (X.ct iv bv)) (hE:∀ iv bv,Agr na iv0 bv0 iv bv→EntsOk cc (X.ct iv bv) E)
  {stop:Fr→List Fr→Bool} {N n d:Nat} {L:Nat→List Lf}
  (hL:∀ k T,Ts[k]? = some T→(ex cc E (dw cc E n d) stop N T.f T.fs T.H).lfsM m0 cc Ts os=some (L k))
  (hO:∀ k T iv bv,Ts[k]? = some T→Agr na iv0 bv0 iv bv→Inv k iv bv→∀ lf∈L k,LfOk (fun iv bv=>(X.ct iv bv).σ) Ts os Inv mu k iv bv lf∧bmAll m0 os lf=true)
  (hR:∀ (k:Nat) (iv:Nat→Int) (bv:Nat→Bool) (j:Nat) (o:Out) (u:Value) (w':World),Agr na iv0 bv0 iv bv→Inv k iv bv→os[j]? = some o→OutM (X.ct iv bv).σ X.F0 m0 bl w0 w' u o→BelowX (Among m0 bl) w0 w'→(∀ (i:Nat) (o':Out),os[i]? = some o'→i≠j→(∀ p∈o'.cs,p.1.den (X.ct iv bv).σ dyn0=some p.2)→False)→R u w') :
  ∀ (q k:Nat) (T:Tm) (iv:Nat→Int) (bv:Nat→Bool),Ts[k]? = some T→mu k iv bv < q→Agr na iv0 bv0 iv bv→Inv k iv bv→∀ ρ m,(∀ i,i < m0→i∈keptL m0 os→ρ.bl i=some (bl i))→Sat (X.ct iv bv) hc w0 cs ρ T.f T.fs T.H m→botOf T.f T.fs=bot→Fin cc.P m cs bot R:=by
 intro q
 induction q with
 | zero=>intro k T iv bv _ h;omega
 | succ q ih=>
   intro k T iv bv hT hmu hagr hinv ρ m hM hm hbot
   have hcc':=hcc iv bv hagr
   have hE':=hE iv bv hagr
   have hOk:=hO k T iv bv hT hagr hinv
   have hb:∀ ρ U,(X.ct iv bv).phi 0 ρ U↔∀ b o,w0.heap[b]? = some o→¬ Among m0 bl b→U b o:=fun _ U=>hbase U
   have hnT:=hnb T (List.mem_of_getElem? hT)
   have hall:∀ (t:Tr) (l:List Lf),t.lfsM m0 cc Ts os=some l→(∀ lf∈l,LfOk (fun iv bv=>(X.ct iv bv).σ) Ts os Inv mu k iv bv lf∧bmAll m0 os lf=true)→
     t.All (X.ct iv bv) hc w0 (fun z H=>∃ l,finMM m0 cc z H os 0=some l∧LfOk (fun iv bv=>(X.ct iv bv).σ) Ts os Inv mu k iv bv l∧bmAll m0 os l=true) (fun f fs H=>∃ l,cutM cc f fs H Ts 0=some l∧LfOk (fun iv bv=>(X.ct iv bv).σ) Ts os Inv mu k iv bv l∧bmAll m0 os l=true):=by
    intro t
    induction t with
    | leaf z H=>
      intro l hl hok
      have hl':(match finMM m0 cc z H os 0 with | some l=>some [l] | none=>none)=some l:=hl
      split at hl'
      ·rename_i x hx;cases hl';exact ⟨x,hx,hok x (by simp)⟩
      ·cases hl'
    | cut f fs H=>
      intro l hl hok
      have hl':(match cutM cc f fs H Ts 0 with | some l=>some [l] | none=>none)=some l:=hl
      split at hl'
      ·rename_i x hx;cases hl';exact ⟨x,hx,hok x (by simp)⟩
      ·cases hl'
    | fork p a b ha hb=>
      intro l hl hok
      have hl':(match a.lfsM m0 cc Ts os,b.lfsM m0 cc Ts os with | some x,some y=>some (lapp x y) | _,_=>none)=some l:=hl
      split at hl'
      ·rename_i x y hx hy
       cases hl'
       rw [lapp_eq] at hok
       exact ⟨ha x hx fun lf h=>hok lf (List.mem_append_left _ h),hb y hy fun lf h=>hok lf (List.mem_append_right _ h)⟩
      ·cases hl'
    | bad why f fs H=>
      intro l hl hok
      cases hl
      intro ρ w hh
      exact (hok (.bad H.facts) (by simp)).1 ρ hh.facts
   refine ex_ok hcc' hE' (dw_ok hcc' hE' n d) (R:=R) (ρ0:=ρ) (H0:=T.H) (W0:=m.world) ?_ ?_ N T.f T.fs T.H ρ m hm (Tn.refl _ _ _) hbot (hall _ _ (hL k T hT) hOk)
   ·rintro z H ρ' u w' ⟨l,hl,hok,_⟩ hz hh ht
    have hM':∀ i,i < m0→i∈keptL m0 os→ρ'.bl i=some (bl i):=fun i hi hk=>by rw [ht.ag.bl i (by omega)];exact hM i hi hk
    obtain ⟨j,o,Lo,h1,rfl,h3⟩:=finMM_ok hl
    obtain ⟨⟨o',h4,h5⟩,h6⟩:=hok
    have hj:0+j=j:=by omega
    rw [hj] at h4
    rw [h1] at h4;cases h4
    obtain ⟨ρ2,k1,k2⟩:=frzT_ok hcc' o.z z hh hz
    obtain ⟨g1,g2⟩:=fin_okM hcc' hb (fun i hi hk=>k1.le.bl _ _ (hM' i hi hk)) hX h3 h5 k1.hp k2
    obtain ⟨g3,g4⟩:=h6 ρ2 (by have:=k1.hp.facts;rw [k1.facts] at this;exact this) g1
    obtain ⟨g5,g6⟩:=g2 g3
    exact hR k iv bv j o u w' hagr hinv h1 g5 g6 (by rw [hj] at g4;exact g4)
   ·rintro f fs H ρ' m' ⟨l,hl,hok,hbmA⟩ hsat ht hbot'
    have hM':∀ i,i < m0→i∈keptL m0 os→ρ'.bl i=some (bl i):=fun i hi hk=>by rw [ht.ag.bl i (by omega)];exact hM i hi hk
    obtain ⟨j,T',Lo,h1,rfl,h3⟩:=cutM_ok hl
    obtain ⟨⟨T2,h4,h5⟩,h6⟩:=hok
    have hj:0+j=j:=by omega
    rw [hj] at h4
    rw [h1] at h4;cases h4
    have hk:instK cc T' H (mTm T' f fs H)=true:=by
     cases hk:instK cc T' H (mTm T' f fs H) with
     | true=>rfl
     | false=>unfold instOf at h3;rw [hk] at h3;cases h3
    have hdef:(mTm T' f fs H).Def (X.ct iv bv).σ ρ':=by
     obtain ⟨fr,frs,w,_,_,_,hh⟩:=hsat
     exact instK_def hcc' hh hk
    have hfacts:Known (X.ct iv bv).σ ρ' H.facts:=by
     obtain ⟨fr,frs,w,_,_,_,hh⟩:=hsat
     exact hh.facts
    obtain ⟨g1,g2,g3⟩:=h6 ρ' hfacts hdef
    have hk2:=hk
    unfold instK at hk2
    simp only [cond_true_iff] at hk2
    obtain ⟨_,_,_,_,_,_,g0,v1,v2⟩:=hk2
    rw [hj] at g2 g3
    dsimp only at g2 g3
    have hsta:(X.ct ((mTm T' f fs H).iv (X.ct iv bv).σ ρ') ((mTm T' f fs H).bv (X.ct iv bv).σ ρ')).σ=(mTm T' f fs H).sta (X.ct iv bv).σ ρ':=by
     have hkv:(mTm T' f fs H).kv (X.ct iv bv).σ ρ'=X.kv.n:=by
      generalize mTm T' f fs H=I at g0
      obtain ⟨s,bm,dm,km⟩:=I
      cases km with
      | cons=>cases g0
      | nil=>rfl
     show sta X.FI X.FB X.kv _ _=In.sta _ _ _
     unfold In.sta
     rw [hkv];rfl
    obtain ⟨g4,g5⟩:=inst_ok (C':=X.ct ((mTm T' f fs H).iv (X.ct iv bv).σ ρ') ((mTm T' f fs H).bv (X.ct iv bv).σ ρ')) hcc' hsta rfl rfl (fun j _ U U' hU h=>X.mono j U U' hU h) h3 h5 hsat g1
    have hagr':Agr na iv0 bv0 ((mTm T' f fs H).iv (X.ct iv bv).σ ρ') ((mTm T' f fs H).bv (X.ct iv bv).σ ρ'):=by
     have hm':=List.mem_of_getElem? h1
     refine ⟨fun i hi=>?_,fun i hi=>?_⟩
     ·rw [← hagr.1 i hi]
      unfold In.iv
      cases hg:get (mTm T' f fs H).s.i i with
      | none=>rfl
      | some e=>
        have:=hvs T' hm' i (lmem_iff.1 (lall_iff.1 v1 _ (get_mem hg)))
        omega
     ·rw [← hagr.2 i hi]
      unfold In.bv
      cases hg:get (mTm T' f fs H).s.b i with
      | none=>rfl
      | some e=>
        have:=hvs T' hm' i (lmem_iff.1 (lall_iff.1 v2 _ (get_mem hg)))
        omega
    exact ih j T' _ _ h1 (by omega) hagr' g2 _ _ (fun i hi hk=>by
     show (get (mTm T' f fs H).bm i).bind ρ'.bl=some (bl i)
     have hb0:=allLt_ok hbmA i hi
     try dsimp only at hb0
     rw [lmem_iff.2 hk,cond_true] at hb0
     rw [bmIs_ok hb0];exact hM' i hi hk) g4 (g5.trans hbot')
def ccM (P:Program) (BF:List (Nat×Int×Int)) (eqt ow:List TypeId):Cc:=⟨P,⟨[],BF⟩,[],eqt,[],ow⟩
def seedB (F:List (SB×Bool)):List (Nat×Int×Int):=
 List.rec (motive:=fun _=>List (Nat×Int×Int)) [] (fun p _ ih=>match p.1,p.2 with | .le (.c a) (.v i),true=>(i,a,a - 1)::ih | _,_=>ih) F
theorem seedB_ok {σ:Sta} {ρ:Dyn}:∀ {F:List (SB×Bool)},(∀ f∈F,f.1.den σ ρ=some f.2)→∀ i a b,(i,a,b)∈seedB F→InR a b (σ.iv i)
 | [],_,_,_,_,h=>by cases h
 | p::F,hF,i,a,b,h=>by
   have ih:=seedB_ok (F:=F) fun f hf=>hF f (List.mem_cons_of_mem _ hf)
   have h':(i,a,b)∈(match p.1,p.2 with | .le (.c a) (.v i),true=>(i,a,a - 1)::seedB F | _,_=>seedB F):=h
   have h0:=hF p (List.mem_cons_self ..)
   split at h'
   ·rename_i a' i' e1 e2
    rcases List.mem_cons.1 h' with e | h'
    ·cases e
     rw [e1,e2] at h0
     simp only [SB.den,SI.den,Option.bind_some,Option.some.injEq,decide_eq_true_eq] at h0
     exact ⟨h0,by split<;>omega⟩
    ·exact ih i a b h'
   ·exact ih i a b h'
def tmM (c:Com) (fn:Func) (body:Code):Tm:=
 ⟨enterF c.g fn body c.A,[],{ heap:=c.M,nb:=c.m,nd:=0,nv:=0,facts:=c.F,phis:=[0],bd:=lrnF c.F (lapp c.B (seedB c.F)) },[]⟩
def Com.chk (na:Nat) (c:Com):Bool:=
 bif ltAll c.m (keys c.M) then (bif allLt c.m (fun i=>lmem (keys c.M) i) then (bif (bif c.rk.vlt na then c.rk.okd [] else false) then lall (fun o=>o.vlt na) c.os else false) else false) else false
def tmOk (na m:Nat) (T:Tm):Bool:=bif lall (fun i=>Nat.ble na i) T.vs then Nat.ble m T.H.nb else false
def LsOkM (m:Nat) (cc:Cc) (E:Ents) (stop:Fr→List Fr→Bool) (N n d:Nat) (all:List Tm) (os:List Out):List Tm→List (List Lf)→Prop
 | [],[]=>True
 | T::Ts,l::L=>(ex cc E (dw cc E n d) stop N T.f T.fs T.H).lfsM m cc all os=some l∧LsOkM m cc E stop N n d all os Ts L
 | _,_=>False
theorem LsOkM.get {m:Nat} {cc:Cc} {E:Ents} {stop:Fr→List Fr→Bool} {N n d:Nat} {all:List Tm} {os:List Out}:∀ {Ts:List Tm} {L:List (List Lf)},LsOkM m cc E stop N n d all os Ts L→∀ (k:Nat) (T:Tm),Ts[k]? = some T→∃ l,L[k]? = some l∧(ex cc E (dw cc E n d) stop N T.f T.fs T.H).lfsM m cc all os=some l
 | [],[],_,k,T,h=>by simp at h
 | [],_::_,h,_,_,_=>h.elim
 | _::_,[],h,_,_,_=>h.elim
 | T0::Ts,l::L,⟨h1,h2⟩,k,T,h=>by
   cases k with
   | zero=>simp at h;subst h;exact ⟨l,rfl,h1⟩
   | succ k=>simp at h;obtain ⟨l',h3,h4⟩:=LsOkM.get h2 k T h;exact ⟨l',by simpa using h3,h4⟩
def LsCM (m:Nat) (Ts:List Tm) (os:List Out):List (List Lf)→Prop
 | []=>True
 | l::L=>(∀ lf∈l,LfC Ts os lf∧bmAll m os lf=true)∧LsCM m Ts os L
theorem LsCM.get {m:Nat} {Ts:List Tm} {os:List Out}:∀ {L:List (List Lf)},LsCM m Ts os L→∀ (k:Nat) (l:List Lf),L[k]? = some l→∀ lf∈l,LfC Ts os lf∧bmAll m os lf=true
 | [],_,k,l,h=>by simp at h
 | l0::L,h,k,l,hk=>by
   cases k with
   | zero=>simp at hk;subst hk;exact h.1
   | succ k=>simp at hk;exact LsCM.get h.2 k l hk
def memPhi (m:Nat) (bl:Nat→Nat) (w:World) (j:Nat) (U:Nat→Obj→Prop):Prop:=j=0→∀ b o,w.heap[b]? = some o→¬ Among m bl b→U b o
theorem Com.okI_of {P:Program} {eqt:List TypeId} {FI:FIx} {FB:FBx} {BF:List (Nat×Int×Int)} (hP:POk P eqt) (hFI:FiOk FI FB BF) (c:Com) {fn:Func} {body:Code} (hfn:P.funcs[c.g]? = some fn) (hbd:fn.body=some body)
  (na:Nat) (Ts:List Tm) (hchk:(bif c.chk na then lall (tmOk na c.m) Ts else false)=true) {E:Ents} {stop:Fr→List Fr→Bool} {N n d:Nat} (L:List (List Lf))
  (hL:LsOkM c.m (ccM P BF eqt c.ow) E stop N n d (tmM c fn body::Ts) c.os (tmM c fn body::Ts) L) (hC:LsCM c.m (tmM c fn body::Ts) c.os L)
  (Inv:(Nat→Int)→(Nat→Bool)→Nat→(Nat→Int)→(Nat→Bool)→Prop) (mu:(Nat→Int)→(Nat→Bool)→Nat→(Nat→Int)→(Nat→Bool)→Nat)
  (kv:Kv) (iv0:Nat→Int) (bv0:Nat→Bool) (h0:InB c.B iv0→Inv iv0 bv0 0 iv0 bv0)
  (hE:∀ (C:Ct) iv bv,C.σ=sta FI FB kv iv bv→Agr na iv0 bv0 iv bv→(ccM P BF eqt c.ow).Ok C→EntsOk (ccM P BF eqt c.ow) C E)
  (hO:InB c.B iv0→FT (sta FI FB kv iv0 bv0) (dlt dyn0) c.F→∀ k l iv bv,L[k]? = some l→Agr na iv0 bv0 iv bv→Inv iv0 bv0 k iv bv→∀ lf∈l,LfT (sta FI FB kv) c.os (Inv iv0 bv0) (mu iv0 bv0) k iv bv lf):c.OkI P FI FB kv iv0 bv0:=by
 rw [cond_true_iff] at hchk
 obtain ⟨hck,hvs⟩:=hchk
 unfold Com.chk at hck
 simp only [cond_true_iff] at hck
 obtain ⟨ck1,ck2,_,hckO⟩:=hck
 intro hin hF w bl F0 hF0 hM hblj us hus
 let X:Cx:={ FI,FB,kv,F0,X:=Among c.m bl,phi:=memPhi c.m bl w,mono:=fun j U U' h k hj b o e1 e2=>h b o (k hj b o e1 e2) }
 have hbase:∀ U,X.phi 0 U↔∀ b o,w.heap[b]? = some o→¬ Among c.m bl b→U b o:=fun U=>⟨fun h=>h rfl,fun h _=>h⟩
 have hcc:∀ iv bv,Agr na iv0 bv0 iv bv→(ccM P BF eqt c.ow).Ok (X.ct iv bv):=by
  intro iv bv ha
  exact ⟨⟨(fun _ _ _ h=>by cases h),hFI.bf⟩,(fun _ _ _ _ hm=>by cases hm),hP.eqt,hP.names,hP.ov,hP.mixed,hFI.al kv iv bv,(fun _ _ _ _ _ _ hm=>by cases hm)⟩
 intro cs
 have hT:∀ T∈tmM c fn body::Ts,(∀ i∈T.vs,na≤i)∧c.m≤T.H.nb:=by
  intro T hT
  rcases List.mem_cons.1 hT with rfl | hT
  ·exact ⟨(fun i hi=>by cases hi),Nat.le_refl _⟩
  ·have:=lall_iff.1 hvs T hT
   unfold tmOk at this
   rw [cond_true_iff] at this
   exact ⟨fun i hi=>Nat.le_of_ble_eq_true (lall_iff.1 this.1 i hi),Nat.le_of_ble_eq_true this.2⟩
 have key:∀ i bk,get c.M i=some bk→i < c.m:=fun i bk hg=>ltAll_ok ck1 i (get_key hg)
 have hown:∀ b,Own (dynM c.m bl F0) c.M b→Among c.m bl b:=by
  rintro b ⟨i,bk,e1,_,e3⟩
  have hi:=key i bk e1
  have e3':(if i < c.m then some (bl i) else none)=some b:=e3
  rw [if_pos hi] at e3'
  exact ⟨i,hi,Option.some.inj e3'⟩
 have henter:Sat (X.ct iv0 bv0) (fun _=>none) w cs (dynM c.m bl F0) (tmM c fn body).f (tmM c fn body).fs (tmM c fn body).H (lone (Frame.enter P c.g us.toArray .normal) cs w):=by
  refine ⟨_,[],w,rfl,enterF_ok hfn hbd hus,rfl,?_⟩
  refine ⟨fun i bk hg hl=>?_,fun i i' bk bk' b e1 _ e3 _ e5 e6=>?_,fun i hi=>?_,(fun _ _=>rfl),(fun _ _=>rfl),fun i b e=>?_,fun i bk hg=>key i bk hg,(fun _ _ h=>by cases h),(fun b hw=>⟨rfl,.inr (hown b hw)⟩),fun p hp=>?_,lrnF_ok (σ:=sta FI FB kv iv0 bv0) (ρ:=dyn0) (fun i a b hm=>by
   rw [lapp_eq] at hm
   rcases List.mem_append.1 hm with hm | hm
   ·exact hin i a b hm
   ·exact seedB_ok (ρ:=dyn0) hF i a b hm) hF,fun j hj=>?_,(fun b o e=>⟨⟨(hF0 b o e).1,rfl,fun hw=>(hF0 b o e).2 (hown b hw)⟩,.inl e⟩),rfl,rfl,rfl,Nat.le_refl _⟩
  ·obtain ⟨o,h1,h2⟩:=hM i bk (get_mem hg)
   exact ⟨bl i,o,if_pos (key i bk hg),h1,h2⟩
  ·have k1:=key i bk e1
   have k2:=key i' bk' e3
   have q1:(if i < c.m then some (bl i) else none)=some b:=e5
   have q2:(if i' < c.m then some (bl i') else none)=some b:=e6
   rw [if_pos k1] at q1;rw [if_pos k2] at q2
   exact hblj i i' k1 k2 (Option.some.inj (q1.trans q2.symm))
  ·have hi':c.m≤i:=hi
   exact if_neg (by omega)
  ·have e':(if i < c.m then some (bl i) else none)=some b:=e
   split at e'
   ·rename_i hi
    obtain ⟨bk,hm⟩:=mem_keys (lmem_iff.1 (allLt_ok ck2 i hi))
    cases e'
    obtain ⟨o,h1,_⟩:=hM i _ hm
    exact (Array.getElem?_eq_some_iff.1 h1).1
   ·cases e'
  ·have:=hF p hp
   exact SB.den_mono ⟨(fun _ _ h=>by cases h),(fun _ _ h=>by cases h),(fun _ _ h=>by cases h),(fun _ _ h=>by cases h)⟩ _ _ this
  ·have hj':j∈([0]:List Nat):=hj
   simp only [List.mem_singleton] at hj'
   subst hj'
   exact fun _ b o e1 e2=>⟨e1,rfl,fun hw=>e2 (hown b hw)⟩
 have hfin:=cuts_okM (m0:=c.m) (bl:=bl) (na:=na) (iv0:=iv0) (bv0:=bv0) (X:=X) (cc:=ccM P BF eqt c.ow) (E:=E) (Ts:=tmM c fn body::Ts) (os:=c.os) (Inv:=Inv iv0 bv0) (mu:=mu iv0 bv0) (w0:=w) (hc:=fun _=>none) (cs:=cs) (bot:=(c.g,true))
  (R:=fun u w'=>BelowX (Among c.m bl) w w'∧∀ o∈c.os,(∀ p∈o.cs,p.1.den (sta FI FB kv iv0 bv0) dyn0=some p.2)→OutM (sta FI FB kv iv0 bv0) F0 c.m bl w w' u o)
  hbase (fun _ h=>h) (fun T hT'=>(hT T hT').2) (fun T hT'=>(hT T hT').1) hcc (fun iv bv ha=>hE _ iv bv rfl ha (hcc iv bv ha)) (stop:=stop) (N:=N) (n:=n) (d:=d) (L:=fun k=>(L[k]?).getD []) (fun k T hT'=>?_) (fun k T iv bv hT' ha hi lf hlf=>?_) (fun k iv bv j o u w' ha hi hj hout hbel hoth=>?_)
  (mu iv0 bv0 0 iv0 bv0+1) 0 (tmM c fn body) iv0 bv0 rfl (Nat.lt_succ_self _) ⟨fun _ _=>rfl,fun _ _=>rfl⟩ (h0 hin) (dynM c.m bl F0) _ (fun i hi _=>if_pos hi) henter rfl
 ·obtain ⟨u,w',hends,hr1,hr2⟩:=hfin
  obtain ⟨fr,h1,h2,h3⟩:=hends.ret rfl
  exact ⟨.returned u,w',fr,⟨u,rfl,hr1,hr2⟩,h1,h2,h3⟩
 ·obtain ⟨l,h1,h2⟩:=hL.get k T hT'
  rw [h2,h1];rfl
 ·obtain ⟨l,h1,h2⟩:=hL.get k T hT'
  rw [h1] at hlf
  have hlf':lf∈l:=hlf
  exact ⟨LfOk.of_plain (hC.get k l h1 lf hlf').1 (hO hin (FT_of hF) k l iv bv h1 ha hi lf hlf'),(hC.get k l h1 lf hlf').2⟩
 ·refine ⟨hbel,fun o' ho' hcs=>?_⟩
  obtain ⟨i,hio⟩:=List.getElem?_of_mem ho'
  have hv:=lall_iff.1 hckO o' ho'
  have hcs':∀ p∈o'.cs,p.1.den (sta FI FB kv iv bv) dyn0=some p.2:=by
   intro p hp
   have hv':=hv
   unfold Out.vlt at hv'
   rw [cond_true_iff] at hv'
   rw [SB.vlt_den ha (lall_iff.1 hv'.1 p hp)];exact hcs p hp
  by_cases hij:i=j
  ·subst hij
   rw [hj] at hio;cases hio
   unfold Out.vlt at hv
   simp only [cond_true_iff] at hv
   obtain ⟨_,x2,x3,x4⟩:=hv
   obtain ⟨ρ,f1,f2,f3,f4,f4m,f5,f6,f7,f9,f8⟩:=hout
   refine ⟨ρ,fun p hp=>?_,fun i bk hm=>?_,f3,f4,f4m,f5,f6,f7,f9,?_⟩
   ·rw [← SB.vlt_den ha (lall_iff.1 x4 p hp)];exact f1 p hp
   ·obtain ⟨g1,b,obj,g2,g3,g4⟩:=f2 i bk hm
    exact ⟨g1,b,obj,g2,g3,(Bk.vlt_is ha (lall_iff.1 x3 _ hm)).1 g4⟩
   ·exact (SV.vlt_is ha _ u x2).1 f8
  ·exact (hoth i o' hio hij hcs').elim
theorem Com.of_plain {P:Program} {eqt:List TypeId} {FI:FIx} {FB:FBx} {BF:List (Nat×Int×Int)} (hP:POk P eqt) (hFI:FiOk FI FB BF) {E:Cc→Ents} (hE:EntsFor P FI FB E) (c:Com) {fn:Func} {body:Code} (hfn:P.funcs[c.g]? = some fn) (hbd:fn.body=some body)
  (na:Nat) (Ts:List Tm) (hchk:(bif c.chk na then lall (tmOk na c.m) Ts else false)=true) {stop:Fr→List Fr→Bool} {N n d:Nat} (L:List (List Lf))
  (hL:LsOkM c.m (ccM P BF eqt c.ow) (E (ccM P BF eqt c.ow)) stop N n d (tmM c fn body::Ts) c.os (tmM c fn body::Ts) L) (hC:LsCM c.m (tmM c fn body::Ts) c.os L)
  (Inv:(Nat→Int)→(Nat→Bool)→Nat→(Nat→Int)→(Nat→Bool)→Prop) (mu:(Nat→Int)→(Nat→Bool)→Nat→(Nat→Int)→(Nat→Bool)→Nat) (h0:∀ iv bv,InB c.B iv→Inv iv bv 0 iv bv)
  (hO:∀ kv iv0 bv0,InB c.B iv0→FT (sta FI FB kv iv0 bv0) (dlt dyn0) c.F→∀ k l iv bv,L[k]? = some l→Agr na iv0 bv0 iv bv→Inv iv0 bv0 k iv bv→∀ lf∈l,LfT (sta FI FB kv) c.os (Inv iv0 bv0) (mu iv0 bv0) k iv bv lf):c.Ok P FI FB:=
 fun kv iv0 bv0=>Com.okI_of hP hFI c hfn hbd na Ts hchk L hL hC Inv mu kv iv0 bv0 (h0 iv0 bv0) (fun C iv bv hσ _ hcc=>hE _ C hcc rfl ⟨kv,iv,bv,hσ⟩) (hO kv iv0 bv0)
end
end Go.Sx
namespace Go.Sx
set_option linter.unusedVariables false
set_option linter.unusedSimpArgs false
noncomputable def hardA (app:Hp→List SV→Ap) (H:Hp) (args:List SV):Ap:=match app H args with | .no=>.bad | r=>r
noncomputable def Con.entH (c:Con) (cc:Cc):Nat×(Hp→List SV→Ap):=(c.g,hardA (Con.app cc c))
theorem CallOk.hard {cc:Cc} {C:Ct} {f:FuncId} {app:Hp→List SV→Ap} (h:CallOk cc C f app):CallOk cc C f (hardA app):=by
 intro hc w0 ρ H w args us hh ha
 obtain ⟨h1,h2⟩:=h hc w0 ρ H w args us hh ha
 refine ⟨fun z H' e=>h1 z H' ?_,fun p e=>h2 p ?_⟩
 ·unfold hardA at e
  split at e
  ·cases e
  ·exact e
 ·unfold hardA at e
  split at e
  ·cases e
  ·exact e
theorem EntsFor.consH {P:Program} {FI:FIx} {FB:FBx} {E:Cc→Ents} {c:Con} (h:c.Ok P FI FB) (hE:EntsFor P FI FB E):EntsFor P FI FB (fun cc=>c.entH cc::E cc):=by
 intro cc C hcc hP hσ f app hm
 rcases List.mem_cons.1 hm with e | hm
 ·cases e
  exact CallOk.hard (Con.callOk h hcc hP hσ)
 ·exact hE cc C hcc hP hσ f app hm
end Go.Sx
