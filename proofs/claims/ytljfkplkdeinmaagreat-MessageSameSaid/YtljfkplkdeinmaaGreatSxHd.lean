/- A symbolic executor: contracts that write into blocks that are handed over. -/
import Derived.Test.YtljfkplkdeinmaaGreatSxSt
namespace Go.Sx
noncomputable section
set_option linter.unusedVariables false
set_option linter.unusedSimpArgs false
open Go.RowKit
structure Com where
 g:FuncId
 vs:List Nat
 A:List SV
 M:List (Nat×Bk)
 m:Nat
 B:List (Nat×Int×Int)
 F:List (SB×Bool)
 os:List Out
 rk:SI
 ow:List TypeId
def dynM (m:Nat) (bl:Nat→Nat) (F:Nat→Option Obj):Dyn:=⟨fun i=>if i < m then some (bl i) else none,fun _=>none,fun _=>none,F⟩
def Among (m:Nat) (bl:Nat→Nat) (b:Nat):Prop:=∃ i,i < m∧bl i=b
structure BelowX (X:Nat→Prop) (w w':World):Prop where
 os:w'.os=w.os
 tape:w'.tape=w.tape
 output:w'.output=w.output
 size:w.heap.size≤w'.heap.size
 block:∀ b,b < w.heap.size→¬ X b→w'.heap[b]? = w.heap[b]?
def OutM (σ:Sta) (F:Nat→Option Obj) (m:Nat) (bl:Nat→Nat) (w0 w':World) (u:Value) (o:Out):Prop:=
 ∃ ρ:Dyn,(∀ p∈o.fs,p.1.den σ ρ=some p.2)∧(∀ i bk,(i,bk)∈o.hp→bk.live=true∧∃ b obj,ρ.bl i=some b∧w'.heap[b]? = some obj∧bk.Is σ ρ obj)∧
   (∀ i i' bk bk' b,(i,bk)∈o.hp→(i',bk')∈o.hp→ρ.bl i=some b→ρ.bl i'=some b→i=i')∧
   (∀ i b,ρ.bl i=some b→i < o.nb∧b < w'.heap.size∧(m≤i→w0.heap.size≤b∨∃ k,k < m∧k ∉ keys o.hp∧bl k=b))∧(∀ i,i < m→ρ.bl i=if i∈keys o.hp then some (bl i) else none)∧(∀ i n,ρ.di i=some n→i < o.nd)∧(∀ i,i < o.nd→∃ n,ρ.di i=some n)∧(∀ i,ρ.dv i=none)∧
   (∀ b ob,ρ.fz b=some ob→w'.heap[b]? = some ob∧(F b=some ob∨w0.heap.size≤b∨∃ k,k < m∧k ∉ keys o.hp∧bl k=b)∧∀ i bk,(i,bk)∈o.hp→ρ.bl i≠some b)∧o.z.Is σ ρ u
def Com.Post (c:Com) (σ:Sta) (F:Nat→Option Obj) (bl:Nat→Nat) (w:World) (e:Ending) (w':World):Prop:=
 ∃ u,e=.returned u∧BelowX (Among c.m bl) w w'∧∀ o∈c.os,(∀ p∈o.cs,p.1.den σ dyn0=some p.2)→OutM σ F c.m bl w w' u o
def Com.OkI (P:Program) (FI:FIx) (FB:FBx) (c:Com) (kv:Kv) (iv:Nat→Int) (bv:Nat→Bool):Prop:=
 InB c.B iv→(∀ p∈c.F,p.1.den (sta FI FB kv iv bv) dyn0=some p.2)→∀ w bl F,(∀ b o,F b=some o→w.heap[b]? = some o∧¬ Among c.m bl b)→(∀ i bk,(i,bk)∈c.M→∃ o,w.heap[bl i]? = some o∧bk.Is (sta FI FB kv iv bv) (dynM c.m bl F) o)→(∀ i j,i < c.m→j < c.m→bl i=bl j→i=j)→
  ∀ us,SV.IsL (sta FI FB kv iv bv) (dynM c.m bl F) c.A us→Calls P c.g us.toArray w (c.Post (sta FI FB kv iv bv) F bl w)
def Com.Ok (P:Program) (FI:FIx) (FB:FBx) (c:Com):Prop:=∀ kv iv bv,c.OkI P FI FB kv iv bv
def comI (c:Com) (H:Hp) (args:List SV):In:=mH c.vs H c.M c.m (mVL c.vs c.A args ⟨⟨[],[]⟩,[],[],[]⟩)
def noCode (l:List (Nat×Bk)):Bool:=lall (fun p=>p.2.code.isNone) l
def comK (cc:Cc) (H:Hp) (c:Com) (I:In):Bool:=
 bif I.chk cc H then (bif isEm I.dm then (bif isEm I.km then (bif ltAll c.m (keys I.bm) then (bif ltAll c.m (keys c.M) then (bif allLt c.m (fun i=>lmem (keys c.M) i) then (bif nodup (bmL I c.M) then noCode c.M else false) else false) else false) else false) else false) else false) else false
def idMapM (k m n:Nat):List (Nat×Nat):=Nat.rec (motive:=fun _=>List (Nat×Nat)) [] (fun i ih=>(Nat.add m i,Nat.add k i)::ih) n
def bmKeep (ks:List Nat) (l:List (Nat×Nat)):List (Nat×Nat):=List.rec (motive:=fun _=>List (Nat×Nat)) [] (fun p _ ih=>bif lmem ks p.1 then p::ih else ih) l
def goneM (m:Nat) (ks:List Nat) (bm:List (Nat×Nat)):List (Nat×Bk):=Nat.rec (motive:=fun _=>List (Nat×Bk)) [] (fun i ih=>bif lmem ks i then ih else (match get bm i with | some j=>(j,.gone)::ih | none=>ih)) m
def outIm (H:Hp) (I:In) (m:Nat) (o:Out):In:=⟨I.s,lapp (bmKeep (keys o.hp) I.bm) (idMapM H.nb m (Nat.sub o.nb m)),ddMap H.nd o.nd,I.km⟩
def bksInsM (I:In) (l:List (Nat×Bk)):Option (List (Nat×Bk)):=
 List.rec (motive:=fun _=>Option (List (Nat×Bk))) (some []) (fun p _ ih=>match get I.bm p.1,p.2.ins I,ih with | some j,some bk,some r=>some ((j,bk)::r) | _,_,_=>none) l
def comH (H:Hp) (I:In) (m:Nat) (o:Out) (hp:List (Nat×Bk)) (fs:List (SB×Bool)):Hp:=
 { heap:=lapp hp (lapp (goneM m (keys o.hp) I.bm) H.heap),nb:=Nat.add H.nb (Nat.sub o.nb m),nd:=Nat.add H.nd o.nd,nv:=H.nv,facts:=lapp fs H.facts,phis:=H.phis,bd:=lrnF fs H.bd }
def outMm (cc:Cc) (H:Hp) (I:In) (m:Nat) (l:List Out):Ap:=
 List.rec (motive:=fun _=>Ap) .no (fun o _ ih=>match factsM cc H I o.cs with
  | .yes=>match SV.ins (outIm H I m o) o.z,bksInsM (outIm H I m o) o.hp,fcsIns (outIm H I m o) o.fs with
    | some z,some hp,some fs=>bif ltAll o.nb (keys o.hp) then (bif Nat.ble m o.nb then .ok z (comH H I m o hp fs) else .no) else .no
    | _,_,_=>.no
  | .ask p=>.ask p
  | .no=>ih) l
def Com.app0 (cc:Cc) (c:Com) (x:Hp→In→Bool) (H:Hp) (args:List SV):Ap:=
 bif comK cc H c (comI c H args) then (bif x H (comI c H args) then (match SV.insL (comI c H args) c.A,hpCmp cc H (comI c H args) c.M with
  | some A',some []=>match SV.cmpL A' args with
    | some []=>bif bdFk cc H (comI c H args) c.B then (match factsM cc H (comI c H args) c.F with
      | .yes=>outMm cc H (comI c H args) c.m c.os
      | .ask p=>.ask p
      | .no=>.bad) else .no
    | _=>.no
  | _,_=>.no) else .no) else .no
def Com.appG (cc:Cc) (c:Com) (x:Hp→In→Bool):Hp→List SV→Ap:=frzA cc c.A (Com.app0 cc c x)
def Com.ent (c:Com) (cc:Cc):Nat×(Hp→List SV→Ap):=(c.g,Com.appG cc c (fun _ _=>true))
section
variable {cc:Cc} {C:Ct} {hc:Nat→Option Obj} {w0:World} {ρ:Dyn} {H:Hp} {w:World} {I:In}
theorem idMapM_get (k m n i:Nat):get (idMapM k m n) i=if m≤i∧i < m+n then some (k+(i - m)) else none:=by
 induction n with
 | zero=>rw [if_neg (by omega)];rfl
 | succ n ih=>
   show get ((Nat.add m n,Nat.add k n)::idMapM k m n) i=_
   rw [get_cons,ih]
   by_cases h:Nat.add m n=i
   ·have h':m+n=i:=h
    rw [if_pos h,if_pos (by omega)]
    congr 1
    show k+n=_
    omega
   ·have h':¬ m+n=i:=h
    rw [if_neg h]
    by_cases h2:m≤i∧i < m+n
    ·rw [if_pos h2,if_pos (by omega)]
    ·rw [if_neg h2,if_neg (by omega)]
theorem bksInsM_mem:∀ {l l':List (Nat×Bk)},bksInsM I l=some l'→(∀ j bk',get l' j=some bk'→∃ i bk,get I.bm i=some j∧(i,bk)∈l∧bk.ins I=some bk')∧∀ i,i∈keys l→∃ j,get I.bm i=some j∧get l' j≠none
 | [],l',h=>by cases h;exact ⟨(fun j bk' h=>by cases h),fun i h=>by cases h⟩
 | p::l,l',h=>by
   have h':(match get I.bm p.1,p.2.ins I,bksInsM I l with | some j,some bk,some r=>some ((j,bk)::r) | _,_,_=>none)=some l':=h
   split at h'
   ·rename_i j bk r hj hb hr
    cases h'
    obtain ⟨i1,i2⟩:=bksInsM_mem hr
    refine ⟨fun j' bk' hg=>?_,fun i hi=>?_⟩
    ·rw [get_cons] at hg
     split at hg
     ·rename_i e
      cases hg;subst e
      exact ⟨p.1,p.2,hj,by simp,hb⟩
     ·obtain ⟨i,b,a1,a2,a3⟩:=i1 j' bk' hg
      exact ⟨i,b,a1,List.mem_cons_of_mem _ a2,a3⟩
    ·have hi':i∈p.1::keys l:=hi
     rcases List.mem_cons.1 hi' with e | hi'
     ·subst e
      exact ⟨j,hj,by rw [get_cons,if_pos rfl];simp⟩
     ·obtain ⟨j',a1,a2⟩:=i2 i hi'
      refine ⟨j',a1,?_⟩
      rw [get_cons]
      split
      ·simp
      ·exact a2
   ·cases h'
theorem mem_keys {l:List (Nat×Bk)} {i:Nat} (h:i∈keys l):∃ bk,(i,bk)∈l:=by
 unfold keys at h
 rw [lmap_eq] at h
 obtain ⟨⟨i',bk⟩,hm,he⟩:=List.mem_map.1 h
 cases he
 exact ⟨bk,hm⟩
theorem get_lapp {α:Type} (l l':List (Nat×α)) (i:Nat):get (lapp l l') i=(match get l i with | some a=>some a | none=>get l' i):=by
 rw [lapp_eq,get_append];cases get l i<;>rfl
theorem Bk.cmp_code {y z:Bk} {L:List Ob} (h:Bk.cmp y z=some L) (hy:y.code=none):z.code=none:=by
 unfold Bk.cmp at h
 split at h<;>first | rfl | (cases h;done) | (cases hy;done)
theorem hpCmp_code:∀ {l:List (Nat×Bk)} {L:List Ob},hpCmp cc H I l=some L→noCode l=true→l.map (fun p=>p.2.code)=l.map (fun p=>cdA H I p.1)
 | [],_,_,_=>rfl
 | p::l,L,h,hn=>by
   have h':oapp (bkCmp cc H I p.1 p.2) (hpCmp cc H I l)=some L:=h
   have h1:=lall_iff.1 hn p (List.mem_cons_self ..)
   have h2:noCode l=true:=lall_iff.2 fun q hq=>lall_iff.1 hn q (List.mem_cons_of_mem _ hq)
   unfold oapp at h'
   split at h'
   ·rename_i x y e1 e2
    rw [List.map_cons,List.map_cons,hpCmp_code e2 h2]
    congr 1
    have hc:p.2.code=none:=by simpa using h1
    rw [hc]
    unfold bkCmp at e1
    cases hl:p.2.live with
    | false=>rw [hl] at e1;cases e1
    | true=>
      rw [hl] at e1
      simp only [cond_true] at e1
      split at e1
      ·rename_i j bk' hj hins
       split at e1
       ·rename_i z hz
        cases hzl:z.live with
        | false=>rw [hzl] at e1;cases e1
        | true=>
          rw [hzl] at e1
          simp only [cond_true] at e1
          simp only [cdA,hj,hz]
          cases hcm:Bk.cmp bk' z with
          | none=>rw [hcm] at e1;cases e1
          | some L0=>exact (Bk.cmp_code hcm (by rw [Bk.ins_code hins];exact hc)).symm
       ·cases e1
      ·cases e1
   ·cases h'
theorem bmKeep_get (ks:List Nat):∀ (l:List (Nat×Nat)) (i:Nat),get (bmKeep ks l) i=if i∈ks then get l i else none
 | [],i=>by simp [bmKeep,get_nil]
 | p::l,i=>by
   have e:bmKeep ks (p::l)=(bif lmem ks p.1 then p::bmKeep ks l else bmKeep ks l):=rfl
   have ih:=bmKeep_get ks l i
   rw [e]
   cases hp:lmem ks p.1 with
   | true=>
     simp only [cond_true,get_cons]
     by_cases h:p.1=i
     ·subst h;rw [if_pos rfl,if_pos (lmem_iff.1 hp),if_pos rfl]
     ·rw [if_neg h,if_neg h];exact ih
   | false=>
     simp only [cond_false,get_cons]
     rw [ih]
     by_cases hi:i∈ks
     ·rw [if_pos hi,if_pos hi,if_neg]
      intro h;subst h
      rw [lmem_iff.2 hi] at hp;cases hp
     ·rw [if_neg hi,if_neg hi]
theorem goneM_get {ks:List Nat} {bm:List (Nat×Nat)} {j:Nat} {bk:Bk}:∀ {m:Nat},get (goneM m ks bm) j=some bk→bk=.gone∧∃ i,i < m∧i ∉ ks∧get bm i=some j
 | 0,h=>by cases h
 | m+1,h=>by
   have h':get (bif lmem ks m then goneM m ks bm else (match get bm m with | some j=>(j,.gone)::goneM m ks bm | none=>goneM m ks bm)) j=some bk:=h
   have up:get (goneM m ks bm) j=some bk→bk=.gone∧∃ i,i < m+1∧i ∉ ks∧get bm i=some j:=fun g=>by
    obtain ⟨e,i,h1,h2⟩:=goneM_get g
    exact ⟨e,i,by omega,h2⟩
   cases hk:lmem ks m with
   | true=>rw [hk] at h';exact up h'
   | false=>
     rw [hk,cond_false] at h'
     have hn:m ∉ ks:=fun hm=>by rw [lmem_iff.2 hm] at hk;cases hk
     cases hg:get bm m with
     | none=>rw [hg] at h';exact up h'
     | some j'=>
       rw [hg] at h'
       rw [get_cons] at h'
       split at h'
       ·rename_i e
        have e:j'=j:=e
        subst e
        cases h'
        exact ⟨rfl,m,by omega,hn,hg⟩
       ·exact up h'
theorem goneM_mem {ks:List Nat} {bm:List (Nat×Nat)} {i j:Nat} (hn:i ∉ ks) (hg:get bm i=some j):∀ {m:Nat},i < m→get (goneM m ks bm) j≠none
 | 0,h=>by omega
 | m+1,h=>by
   have e:goneM (m+1) ks bm=(bif lmem ks m then goneM m ks bm else (match get bm m with | some j=>(j,.gone)::goneM m ks bm | none=>goneM m ks bm)):=rfl
   rw [e]
   by_cases him:i=m
   ·subst him
    have hk:lmem ks i=false:=by
     cases hk:lmem ks i with
     | false=>rfl
     | true=>exact absurd (lmem_iff.1 hk) hn
    rw [hk,hg]
    simp only [cond_false,get_cons,if_true]
    simp
   ·have ih:=goneM_mem hn hg (m:=m) (by omega)
    cases hk:lmem ks m with
    | true=>exact ih
    | false=>
      simp only [cond_false]
      cases hg2:get bm m with
      | none=>exact ih
      | some j'=>
        simp only [get_cons]
        split
        ·simp
        ·exact ih
theorem outM_rel (hcc:cc.Ok C) (h:HpRel C hc w0 ρ H w) (hI:I.Def C.σ ρ) (hdm:isEm I.dm=true) {m:Nat} {bl:Nat→Nat} (hbm:∀ i,i < m→∃ j z,get I.bm i=some j∧get H.heap j=some z∧z.live=true∧ρ.bl j=some (bl i)) (hlt:∀ i j,get I.bm i=some j→i < m)
  (hinj:∀ i i' j,get I.bm i=some j→get I.bm i'=some j→i=i')
  {o:Out} {w':World} {u:Value} (hb:BelowX (Among m bl) w w') (ho:OutM (I.sta C.σ ρ) ρ.fz m bl w w' u o) {z:SV} {hp:List (Nat×Bk)} {fs:List (SB×Bool)}
  (h1:SV.ins (outIm H I m o) o.z=some z) (h2:bksInsM (outIm H I m o) o.hp=some hp) (h3:fcsIns (outIm H I m o) o.fs=some fs) (h4:ltAll o.nb (keys o.hp)=true) (h6:m≤o.nb) :
  ∃ ρ',Tn ρ H w ρ' (comH H I m o hp fs) w'∧z.Is C.σ ρ' u∧HpRel C hc w0 ρ' (comH H I m o hp fs) w':=by
 obtain ⟨ρo,f1,f2,f3,f4,f4m,f5,f6,f7,f9,f8⟩:=ho
 have jlt:∀ i,i < m→∀ j,get I.bm i=some j→j < H.nb:=fun i hi j hj=>by
  obtain ⟨j',z',e1,e2,_⟩:=hbm i hi
  rw [hj] at e1;cases e1
  exact h.hb j z' e2
 obtain ⟨ρ',hρ'⟩:∃ ρ':Dyn,ρ'={ bl:=fun i=>if i < H.nb then ρ.bl i else if i < H.nb+(o.nb - m) then ρo.bl (m+(i - H.nb)) else none,di:=fun i=>if i < H.nd then ρ.di i else if i < H.nd+o.nd then ρo.di (i - H.nd) else none,dv:=ρ.dv,fz:=fun b=>match ρ.fz b with | some o=>some o | none=>ρo.fz b }:=⟨_,rfl⟩
 have bl1:∀ i,i < H.nb→ρ'.bl i=ρ.bl i:=fun i hi=>by rw [hρ'];simp only;rw [if_pos hi]
 have bl2:∀ i,m≤i→i < o.nb→ρ'.bl (H.nb+(i - m))=ρo.bl i:=fun i hi hi2=>by
  rw [hρ'];simp only;rw [if_neg (by omega),if_pos (by omega)];congr 1;omega
 have bl3:∀ i,H.nb+(o.nb - m)≤i→ρ'.bl i=none:=fun i hi=>by rw [hρ'];simp only;rw [if_neg (by omega),if_neg (by omega)]
 have di1:∀ i,i < H.nd→ρ'.di i=ρ.di i:=fun i hi=>by rw [hρ'];simp only;rw [if_pos hi]
 have di2:∀ i,i < o.nd→ρ'.di (H.nd+i)=ρo.di i:=fun i hi=>by
  rw [hρ'];simp only;rw [if_neg (by omega),if_pos (by omega)];congr 1;omega
 have di3:∀ i,H.nd+o.nd≤i→ρ'.di i=none:=fun i hi=>by rw [hρ'];simp only;rw [if_neg (by omega),if_neg (by omega)]
 have fzw:∀ b ob,ρ.fz b=some ob→w'.heap[b]? = some ob∧¬ Among m bl b:=fun b ob e=>by
  obtain ⟨⟨q1,q2,q3⟩,_⟩:=h.fz b ob e
  have hn:¬ Among m bl b:=by
   rintro ⟨i,hi,rfl⟩
   obtain ⟨j,z,e1,e2,e3,e4⟩:=hbm i hi
   exact q3 ⟨j,z,e2,e3,e4⟩
  exact ⟨by rw [hb.block b (Array.getElem?_eq_some_iff.1 q1).1 hn];exact q1,hn⟩
 have fz1:∀ b ob,ρ.fz b=some ob→ρ'.fz b=some ob:=fun b ob e=>by rw [hρ'];simp only;rw [e]
 have fz2:∀ b ob,ρo.fz b=some ob→ρ'.fz b=some ob:=fun b ob e=>by
  rw [hρ'];simp only
  cases h1:ρ.fz b with
  | none=>exact e
  | some o1=>
    have q2:=(fzw b o1 h1).1
    rw [(f9 b ob e).1] at q2
    exact q2.symm
 have fz3:∀ b ob,ρ'.fz b=some ob→ρ.fz b=some ob∨(ρ.fz b=none∧ρo.fz b=some ob):=fun b ob e=>by
  rw [hρ'] at e;simp only at e
  cases h1:ρ.fz b with
  | none=>rw [h1] at e;exact .inr ⟨rfl,e⟩
  | some o1=>rw [h1] at e;exact .inl e
 have hag:Dyn.Ag H ρ ρ':=⟨bl1,di1,fun i _=>by rw [hρ'],fz1⟩
 have hle:ρ.Le ρ':=Dyn.Ag.le h hag
 have hI2:(outIm H I m o).Def C.σ ρ':=by
  refine ⟨fun j e he=>?_,fun j e he=>?_,fun j e he=>?_,fun j r he=>?_⟩
  ·obtain ⟨x,hx⟩:=hI.i j e he;exact ⟨x,SI.den_mono hle _ _ hx⟩
  ·obtain ⟨x,hx⟩:=hI.b j e he;exact ⟨x,SB.den_mono hle _ _ hx⟩
  ·have he':get (ddMap H.nd o.nd) j=some e:=he
   rw [ddMap_get] at he'
   split at he'
   ·rename_i hj
    cases he'
    obtain ⟨n,hn⟩:=f6 j hj
    exact ⟨n,by simp only [SI.den];rw [di2 j hj,hn];rfl⟩
   ·cases he'
  ·obtain ⟨x,hx⟩:=hI.k j r he;exact ⟨x,SR.den_mono hle _ _ hx⟩
 have hsta:(outIm H I m o).sta C.σ ρ'=I.sta C.σ ρ:=by
  have e1:(outIm H I m o).iv C.σ ρ'=I.iv C.σ ρ:=by
   funext j
   show (match get I.s.i j with | some e=>(e.den C.σ ρ').getD 0 | none=>C.σ.iv j)=(match get I.s.i j with | some e=>(e.den C.σ ρ).getD 0 | none=>C.σ.iv j)
   cases hg:get I.s.i j with
   | none=>rfl
   | some e=>obtain ⟨x,hx⟩:=hI.i j e hg;simp [hx,SI.den_mono hle _ _ hx]
  have e2:(outIm H I m o).bv C.σ ρ'=I.bv C.σ ρ:=by
   funext j
   show (match get I.s.b j with | some e=>(e.den C.σ ρ').getD false | none=>C.σ.bv j)=(match get I.s.b j with | some e=>(e.den C.σ ρ).getD false | none=>C.σ.bv j)
   cases hg:get I.s.b j with
   | none=>rfl
   | some e=>obtain ⟨x,hx⟩:=hI.b j e hg;simp [hx,SB.den_mono hle _ _ hx]
  have e3:(outIm H I m o).kv C.σ ρ'=I.kv C.σ ρ:=by
   funext j
   show (match get I.km j with | some r=>(r.den C.σ ρ').getD 0 | none=>C.σ.kv j)=(match get I.km j with | some r=>(r.den C.σ ρ).getD 0 | none=>C.σ.kv j)
   cases hg:get I.km j with
   | none=>rfl
   | some r=>obtain ⟨x,hx⟩:=hI.k j r hg;simp [hx,SR.den_mono hle _ _ hx]
  unfold In.sta
  rw [e1,e2,e3]
 have bmo:∀ i,get (outIm H I m o).bm i=if i < m then (if i∈keys o.hp then get I.bm i else none) else if i < o.nb then some (H.nb+(i - m)) else none:=by
  intro i
  show get (lapp (bmKeep (keys o.hp) I.bm) (idMapM H.nb m (Nat.sub o.nb m))) i=_
  rw [get_lapp,idMapM_get,bmKeep_get]
  have hs:Nat.sub o.nb m=o.nb - m:=rfl
  rw [hs]
  by_cases hi:i < m
  ·rw [if_pos hi]
   have e:(if m≤i∧i < m+(o.nb - m) then some (H.nb+(i - m)) else none)=none:=if_neg (by omega)
   rw [e]
   cases (if i∈keys o.hp then get I.bm i else none)<;>rfl
  ·rw [if_neg hi]
   have e:(if i∈keys o.hp then get I.bm i else none)=none:=by
    split
    ·cases hg:get I.bm i with
     | none=>rfl
     | some j=>exact absurd (hlt i j hg) hi
    ·rfl
   rw [e]
   by_cases hi2:i < o.nb
   ·rw [if_pos hi2];simp only;rw [if_pos (by omega)]
   ·rw [if_neg hi2];simp only;rw [if_neg (by omega)]
 have hbl:∀ i j,get (outIm H I m o).bm i=some j→ρ'.bl j=ρo.bl i∧(i < m→j < H.nb)∧(m≤i→H.nb≤j∧j < H.nb+(o.nb - m)∧i < o.nb):=by
  intro i j hj
  rw [bmo i] at hj
  by_cases hi:i < m
  ·rw [if_pos hi] at hj
   split at hj
   ·rename_i hik
    obtain ⟨j',z',e1,e2,e3,e4⟩:=hbm i hi
    rw [hj] at e1;cases e1
    have:=h.hb j z' e2
    exact ⟨by rw [bl1 j this,e4,f4m i hi,if_pos hik],fun _=>this,fun h=>by omega⟩
   ·cases hj
  ·rw [if_neg hi] at hj
   by_cases hi2:i < o.nb
   ·rw [if_pos hi2] at hj
    cases hj
    exact ⟨bl2 i (by omega) hi2,fun h=>by omega,fun _=>⟨by omega,by omega,hi2⟩⟩
   ·rw [if_neg hi2] at hj;cases hj
 have hdyn:(outIm H I m o).dyn C.σ ρ'={ ρo with fz:=ρ'.fz }:=by
  have e1:(fun i=>(get (outIm H I m o).bm i).bind ρ'.bl)=ρo.bl:=by
   funext i
   cases hg:get (outIm H I m o).bm i with
   | some j=>exact (hbl i j hg).1
   | none=>
     rw [bmo i] at hg
     by_cases hi:i < m
     ·rw [if_pos hi] at hg
      split at hg
      ·obtain ⟨j,_,e1,_⟩:=hbm i hi
       rw [e1] at hg;cases hg
      ·rename_i hik
       rw [f4m i hi,if_neg hik];rfl
     ·rw [if_neg hi] at hg
      by_cases hi2:i < o.nb
      ·rw [if_pos hi2] at hg;cases hg
      ·cases hb:ρo.bl i with
       | none=>rfl
       | some b=>exact absurd (f4 i b hb).1 hi2
  have e2:(fun i=>(get (ddMap H.nd o.nd) i).bind fun e=>(e.den C.σ ρ').bind toN)=ρo.di:=by
   funext i
   rw [ddMap_get]
   by_cases hi:i < o.nd
   ·rw [if_pos hi]
    simp only [Option.bind_some,SI.den]
    rw [di2 i hi]
    cases ρo.di i<;>rfl
   ·rw [if_neg hi]
    cases hb:ρo.di i with
    | none=>rfl
    | some b=>exact absurd (f5 i b hb) hi
  have e3:(fun _=>none)=ρo.dv:=by funext i;exact (f7 i).symm
  show Dyn.mk (fun i=>(get (outIm H I m o).bm i).bind ρ'.bl) (fun i=>(get (ddMap H.nd o.nd) i).bind fun e=>(e.den C.σ ρ').bind toN) (fun _=>none) ρ'.fz={ ρo with fz:=ρ'.fz }
  rw [e1,e2,e3]
 have hlo:ρo.Le { ρo with fz:=ρ'.fz }:=⟨fun _ _ h=>h,fun _ _ h=>h,fun _ _ h=>h,fz2⟩
 have hz:z.Is C.σ ρ' u:=by
  have:=(SV.ins_is hI2 o.z z u h1).2
  rw [hsta,hdyn] at this
  exact this (SV.is_mono hlo _ _ f8)
 obtain ⟨hm1,hm2⟩:=bksInsM_mem h2
 have hhp:∀ j bk',get hp j=some bk'→∃ i bk b obj,get (outIm H I m o).bm i=some j∧(i,bk)∈o.hp∧bk'.live=true∧ρ'.bl j=some b∧ρo.bl i=some b∧w'.heap[b]? = some obj∧bk'.Is C.σ ρ' obj:=by
  intro j bk' hg
  obtain ⟨i,bk,a1,a2,a3⟩:=hm1 j bk' hg
  obtain ⟨q1,b,obj,q2,q3,q4⟩:=f2 i bk a2
  obtain ⟨r1,r2⟩:=Bk.ins_is (o:=obj) hI2 a3
  rw [hsta,hdyn] at r1
  exact ⟨i,bk,b,obj,a1,a2,by rw [r2];exact q1,by rw [(hbl i j a1).1];exact q2,q2,q3,r1.2 (Bk.is_mono hlo q4)⟩
 have old:∀ b,b < w.heap.size→¬ Among m bl b→w'.heap[b]? = w.heap[b]? := hb.block
 obtain ⟨gl,hgl⟩:∃ gl,gl=goneM m (keys o.hp) I.bm:=⟨_,rfl⟩
 have hgl1:∀ j bk,get gl j=some bk→bk=.gone∧∃ i,i < m∧i ∉ keys o.hp∧get I.bm i=some j:=fun j bk e=>goneM_get (by rw [← hgl];exact e)
 have hgl2:∀ i j,i < m→i ∉ keys o.hp→get I.bm i=some j→get gl j≠none:=fun i j hi hn hg=>by rw [hgl];exact goneM_mem hn hg hi
 have hhe:(comH H I m o hp fs).heap=lapp hp (lapp gl H.heap):=by rw [hgl];rfl
 have gnew:∀ i,get (lapp hp (lapp gl H.heap)) i=(match get hp i with | some a=>some a | none=>match get gl i with | some a=>some a | none=>get H.heap i):=fun i=>by rw [get_lapp,get_lapp];cases get hp i<;>cases get gl i<;>rfl
 have amo:∀ b,Among m bl b→∃ j z,get H.heap j=some z∧z.live=true∧ρ.bl j=some b∧(get hp j≠none∨get gl j≠none):=by
  rintro b ⟨i,hi,rfl⟩
  obtain ⟨j,z,e1,e2,e3,e4⟩:=hbm i hi
  by_cases hk:i∈keys o.hp
  ·obtain ⟨j',a1,a2⟩:=hm2 i hk
   rw [bmo i,if_pos hi,if_pos hk,e1] at a1;cases a1
   exact ⟨j,z,e2,e3,e4,.inl a2⟩
  ·exact ⟨j,z,e2,e3,e4,.inr (hgl2 i j hi hk e1)⟩
 have noG:∀ k,k < m→k ∉ keys o.hp→∃ j z,get H.heap j=some z∧z.live=true∧ρ.bl j=some (bl k)∧∀ bk,get (lapp hp (lapp gl H.heap)) j=some bk→bk.live=false:=by
  intro k hk hn
  obtain ⟨j,z,e1,e2,e3,e4⟩:=hbm k hk
  refine ⟨j,z,e2,e3,e4,fun bk hg=>?_⟩
  rw [gnew] at hg
  cases hh:get hp j with
  | some a=>
    obtain ⟨i,bk0,b,obj,a1,_⟩:=hhp j a hh
    rw [bmo i] at a1
    by_cases hi:i < m
    ·rw [if_pos hi] at a1
     split at a1
     ·rename_i hik
      exact absurd (hinj i k j a1 e1 ▸ hik) hn
     ·cases a1
    ·rw [if_neg hi] at a1
     split at a1
     ·cases a1
      have:=h.hb _ z e2
      omega
     ·cases a1
  | none=>
    rw [hh] at hg
    cases hg2:get gl j with
    | some a=>
      have ea:=(hgl1 j a hg2).1
      subst ea
      rw [hg2] at hg;cases hg;rfl
    | none=>exact absurd hg2 (hgl2 k j hk hn e1)
 have known:∀ id bk,get (lapp hp (lapp gl H.heap)) id=some bk→bk.live=true→(id < H.nb∧∃ z,get H.heap id=some z∧z.live=true)∨(H.nb≤id∧∃ i bk0 b,(i,bk0)∈o.hp∧m≤i∧i < o.nb∧id=H.nb+(i - m)∧ρo.bl i=some b∧(w.heap.size≤b∨∃ k,k < m∧k ∉ keys o.hp∧bl k=b)):=by
  intro id bk hg hl
  rw [gnew] at hg
  cases hh:get hp id with
  | some bk'=>
    obtain ⟨i,bk0,b,obj,a1,a2,a3,a4,a5,_⟩:=hhp id bk' hh
    rw [bmo i] at a1
    by_cases hi:i < m
    ·rw [if_pos hi] at a1
     split at a1
     ·obtain ⟨j',z',e1,e2,e3,e4⟩:=hbm i hi
      rw [a1] at e1;cases e1
      exact .inl ⟨h.hb _ _ e2,z',e2,e3⟩
     ·cases a1
    ·rw [if_neg hi] at a1
     by_cases hi2:i < o.nb
     ·rw [if_pos hi2] at a1
      cases a1
      exact .inr ⟨by omega,i,bk0,b,a2,by omega,hi2,rfl,a5,(f4 i b a5).2.2 (by omega)⟩
     ·rw [if_neg hi2] at a1;cases a1
  | none=>
    rw [hh] at hg
    cases hg2:get gl id with
    | some a=>
      have ea:=(hgl1 id a hg2).1
      subst ea
      rw [hg2] at hg;cases hg;cases hl
    | none=>
      rw [hg2] at hg
      exact .inl ⟨h.hb id bk hg,bk,hg,hl⟩
 have hown:∀ b,Own ρ' (lapp hp (lapp gl H.heap)) b→(Own ρ H.heap b)∨(w.heap.size≤b):=by
  rintro b ⟨i,bk,e1,e2,e3⟩
  rcases known i bk e1 e2 with ⟨k1,z,k2,k3⟩ | ⟨k1,i0,bk0,b0,k2,k3,k4,k5,k6,k7⟩
  ·rw [bl1 i k1] at e3
   exact .inl ⟨i,z,k2,k3,e3⟩
  ·rw [k5,bl2 i0 k3 k4,k6] at e3
   cases e3
   rcases k7 with k7 | ⟨k,q1,q2,rfl⟩
   ·exact .inr k7
   ·obtain ⟨j,z,r1,r2,r3,_⟩:=noG k q1 q2
    exact .inl ⟨j,z,r1,r2,r3⟩
 have hfs:∀ p∈fs,p.1.den C.σ ρ'=some p.2:=fun p hp=>by
  obtain ⟨p0,m1,m2,m3⟩:=fcsIns_mem h3 p hp
  have:=SB.ins_den hI2 m2
  rw [hsta,hdyn] at this
  rw [this,← m3]
  exact SB.den_mono hlo _ _ (f1 p0 m1)
 refine ⟨ρ',⟨hag,⟨⟨hp++gl,by rw [hhe];simp only [lapp_eq,List.append_assoc]⟩,Nat.le_add_right _ _,Nat.le_add_right _ _,Nat.le_refl _,⟨fs,by simp only [comH,lapp_eq]⟩,⟨[],rfl⟩⟩,hb.size,fun l hl i b e=>?_,fun l hl b hlt' hno=>?_⟩,hz,⟨fun i bk e1 e2=>?_,fun i i' bk bk' b e1 e2 e3 e4 e5 e6=>?_,fun i hi=>bl3 i hi,fun i hi=>di3 i hi,fun i hi=>?_,fun i b e=>?_,fun i bk e=>?_,fun b ob e=>?_,fun b hbw=>?_,fun p hp=>?_,lrnF_ok h.bd hfs,fun j hj=>?_,fun b ob e=>?_,hb.os.trans h.os,hb.tape.trans h.tape,hb.output.trans h.output,Nat.le_trans h.size hb.size⟩⟩
 ·rcases Nat.lt_or_ge i H.nb with hi | hi
  ·rw [bl1 i hi] at e;exact .inl e
  ·rcases Nat.lt_or_ge i (H.nb+(o.nb - m)) with hi2 | hi2
   ·have:i=H.nb+((m+(i - H.nb)) - m):=by omega
    rw [this,bl2 _ (by omega) (by omega)] at e
    rcases (f4 _ b e).2.2 (by omega) with q | ⟨k,q1,q2,rfl⟩
    ·exact .inr (.inl q)
    ·obtain ⟨j,z,r1,r2,r3,a4⟩:=amo _ ⟨k,q1,rfl⟩
     refine .inr (.inr ⟨j,r3,?_⟩)
     have hl':(hp++gl)++H.heap=l++H.heap:=by rw [hhe] at hl;simpa only [lapp_eq,List.append_assoc] using hl
     have:=List.append_cancel_right hl'
     subst this
     rw [get_append]
     rcases a4 with a4 | a4
     ·cases hq:get hp j with
      | none=>exact absurd hq a4
      | some x=>simp
     ·cases hq:get hp j with
      | none=>exact a4
      | some x=>simp
   ·rw [bl3 i hi2] at e;cases e
 ·have hl':(hp++gl)++H.heap=l++H.heap:=by rw [hhe] at hl;simpa only [lapp_eq,List.append_assoc] using hl
  have:=List.append_cancel_right hl'
  subst this
  refine old b hlt' fun ha=>?_
  obtain ⟨j,z,_,_,a3,a4⟩:=amo b ha
  have hn:=hno j a3
  rw [get_append] at hn
  rcases a4 with a4 | a4
  ·cases hq:get hp j with
   | none=>exact a4 hq
   | some x=>rw [hq] at hn;cases hn
  ·cases hq:get hp j with
   | none=>rw [hq] at hn;exact a4 hn
   | some x=>rw [hq] at hn;cases hn
 ·have e1':get (lapp hp (lapp gl H.heap)) i=some bk:=by rw [← hhe];exact e1
  rw [gnew] at e1'
  cases hg:get hp i with
  | some bk'=>
    rw [hg] at e1';cases e1'
    obtain ⟨i0,bk0,b,obj,_,_,_,q1,_,q3,q4⟩:=hhp i _ hg
    exact ⟨b,obj,q1,q3,q4⟩
  | none=>
    rw [hg] at e1'
    cases hg2:get gl i with
    | some a=>
      have ea:=(hgl1 i a hg2).1
      subst ea
      rw [hg2] at e1';cases e1';cases e2
    | none=>
    rw [hg2] at e1'
    obtain ⟨b,obj,q1,q2,q3⟩:=h.blk i bk e1' e2
    refine ⟨b,obj,hle.bl _ _ q1,?_,Bk.is_mono hle q3⟩
    rw [old b (h.lt i b q1)]
    ·exact q2
    ·intro ha
     obtain ⟨j,z,a1,a2,a3,a4⟩:=amo b ha
     have:=h.inj i j bk z b e1' e2 a1 a2 q1 a3
     subst this
     rcases a4 with a4 | a4
     ·exact a4 hg
     ·exact a4 hg2
 ·rw [hhe] at e1 e3
  rcases known i bk e1 e2 with ⟨k1,z1,k2,k3⟩ | ⟨k1,i0,bk0,b0,k2,k3,k4,k5,k6,k7⟩
  ·rw [bl1 i k1] at e5
   rcases known i' bk' e3 e4 with ⟨k1',z2,k2',k3'⟩ | ⟨k1',i0',bk0',b0',k2',k3',k4',k5',k6',k7'⟩
   ·rw [bl1 i' k1'] at e6
    exact h.inj i i' z1 z2 b k2 k3 k2' k3' e5 e6
   ·rw [k5',bl2 i0' k3' k4',k6'] at e6
    cases e6
    rcases k7' with k7' | ⟨k,q1,q2,rfl⟩
    ·have:=h.lt i _ e5
     omega
    ·obtain ⟨j,z,r1,r2,r3,r4⟩:=noG k q1 q2
     have:=h.inj i j z1 z _ k2 k3 r1 r2 e5 r3
     subst this
     rw [r4 bk e1] at e2;cases e2
  ·rw [k5,bl2 i0 k3 k4,k6] at e5
   cases e5
   rcases known i' bk' e3 e4 with ⟨k1',z2,k2',k3'⟩ | ⟨k1',i0',bk0',b0',k2',k3',k4',k5',k6',k7'⟩
   ·rw [bl1 i' k1'] at e6
    rcases k7 with k7 | ⟨k,q1,q2,rfl⟩
    ·have:=h.lt i' _ e6
     omega
    ·obtain ⟨j,z,r1,r2,r3,r4⟩:=noG k q1 q2
     have:=h.inj i' j z2 z _ k2' k3' r1 r2 e6 r3
     subst this
     rw [r4 bk' e3] at e4;cases e4
   ·rw [k5',bl2 i0' k3' k4',k6'] at e6
    cases e6
    have:=f3 i0 i0' bk0 bk0' b k2 k2' k6 k6'
    subst this
    rw [k5,k5']
 ·rw [hρ'];exact h.fv i hi
 ·rcases Nat.lt_or_ge i H.nb with hi | hi
  ·rw [bl1 i hi] at e;exact Nat.lt_of_lt_of_le (h.lt i b e) hb.size
  ·rcases Nat.lt_or_ge i (H.nb+(o.nb - m)) with hi2 | hi2
   ·have:i=H.nb+((m+(i - H.nb)) - m):=by omega
    rw [this,bl2 _ (by omega) (by omega)] at e
    exact (f4 _ b e).2.1
   ·rw [bl3 i hi2] at e;cases e
 ·have e':get (lapp hp (lapp gl H.heap)) i=some bk:=by rw [← hhe];exact e
  rw [gnew] at e'
  cases hg:get hp i with
  | some bk'=>
    obtain ⟨i0,bk0,b0,obj0,a1,_⟩:=hhp i _ hg
    have q:=(hbl i0 i a1).2
    show i < H.nb+(o.nb - m)
    rcases Nat.lt_or_ge i0 m with hi | hi
    ·have:=q.1 hi;omega
    ·exact (q.2 hi).2.1
  | none=>
    rw [hg] at e'
    show i < H.nb+(o.nb - m)
    cases hg2:get gl i with
    | some a=>
      obtain ⟨_,k,q1,_,q3⟩:=hgl1 i a hg2
      have:=jlt k q1 i q3
      omega
    | none=>
      rw [hg2] at e'
      have:=h.hb i bk e'
      omega
 ·have:=h.hid b ob e
  rw [old b (Array.getElem?_eq_some_iff.1 this).1]
  ·exact this
  ·intro ha
   obtain ⟨j,z,a1,a2,a3,_⟩:=amo b ha
   have:=(h.nh b ⟨j,z,a1,a2,a3⟩).1
   rw [e] at this;cases this
 ·rw [hhe] at hbw
  rcases hown b hbw with hw | hw
  ·exact h.nh b hw
  ·exact ⟨h.hc_lt hw,.inl (Nat.le_trans h.size hw)⟩
 ·have hp:p∈fs++H.facts:=by simpa only [comH,lapp_eq] using hp
  rcases List.mem_append.1 hp with hp | hp
  ·exact hfs p hp
  ·exact SB.den_mono hle _ _ (h.facts p hp)
 ·refine C.mono j ρ _ _ _ hle ?_ (h.phis j hj)
  rintro b ob ⟨u1,u2,u3⟩
  have hlt':=(Array.getElem?_eq_some_iff.1 u1).1
  refine ⟨?_,u2,fun hw=>?_⟩
  ·rw [old b hlt']
   ·exact u1
   ·intro ha
    obtain ⟨j,z,a1,a2,a3,_⟩:=amo b ha
    exact u3 ⟨j,z,a1,a2,a3⟩
  ·rw [hhe] at hw
   rcases hown b hw with hw | hw
   ·exact u3 hw
   ·omega
 ·rw [hhe]
  have old':ρ.fz b=some ob→Un hc ρ' (lapp hp (lapp gl H.heap)) w' b ob∧(C.F0 b=some ob∨w0.heap.size≤b∨C.X b):=fun e=>by
   obtain ⟨⟨u1,u2,u3⟩,u4⟩:=h.fz b ob e
   have hlt':=(Array.getElem?_eq_some_iff.1 u1).1
   refine ⟨⟨(fzw b ob e).1,u2,fun hw=>?_⟩,u4⟩
   rcases hown b hw with hw | hw
   ·exact u3 hw
   ·omega
  rcases fz3 b ob e with e | ⟨e0,e⟩
  ·exact old' e
  ·obtain ⟨u1,u2,u3⟩:=f9 b ob e
   rcases u2 with u2 | u2 | ⟨k,q1,q2,rfl⟩
   ·exact old' u2
   rotate_left
   ·obtain ⟨j,z,r1,r2,r3,r4⟩:=noG k q1 q2
    obtain ⟨n1,n2⟩:=h.nh (bl k) ⟨j,z,r1,r2,r3⟩
    refine ⟨⟨u1,n1,?_⟩,.inr n2⟩
    rintro ⟨i,bk,w1,w2,w3⟩
    rcases known i bk w1 w2 with ⟨k1,z1,k2,k3⟩ | ⟨k1,i0,bk0,b0,k2,k3,k4,k5,k6,k7⟩
    ·rw [bl1 i k1] at w3
     have:=h.inj i j z1 z _ k2 k3 r1 r2 w3 r3
     subst this
     rw [r4 bk w1] at w2;cases w2
    ·rw [k5,bl2 i0 k3 k4] at w3
     exact u3 i0 bk0 k2 w3
   ·refine ⟨⟨u1,h.hc_lt u2,?_⟩,.inr (.inl (Nat.le_trans h.size u2))⟩
    rintro ⟨i,bk,w1,w2,w3⟩
    rcases known i bk w1 w2 with ⟨k1,_⟩ | ⟨k1,i0,bk0,b0,k2,k3,k4,k5,k6,k7⟩
    ·rw [bl1 i k1] at w3
     have:=h.lt i b w3
     omega
    ·rw [k5,bl2 i0 k3 k4] at w3
     exact u3 i0 bk0 k2 w3
theorem outMm_ok (hcc:cc.Ok C) (h:HpRel C hc w0 ρ H w) (hI:I.Def C.σ ρ) {m:Nat}:∀ {l:List Out},(∀ z H',outMm cc H I m l=.ok z H'→∃ o∈l,(∀ p∈o.cs,p.1.den (I.sta C.σ ρ) (I.dyn C.σ ρ)=some p.2)∧∃ hp fs,SV.ins (outIm H I m o) o.z=some z∧bksInsM (outIm H I m o) o.hp=some hp∧fcsIns (outIm H I m o) o.fs=some fs∧ltAll o.nb (keys o.hp)=true∧
   m≤o.nb∧H'=comH H I m o hp fs)∧∀ q,outMm cc H I m l=.ask q→∃ b,q.den C.σ ρ=some b
 | []=>⟨(fun z H' hh=>by cases hh),(fun q hh=>by cases hh)⟩
 | o::l=>by
   have ih:=outMm_ok hcc h hI (m:=m) (l:=l)
   have e:outMm cc H I m (o::l)=(match factsM cc H I o.cs with
    | .yes=>match SV.ins (outIm H I m o) o.z,bksInsM (outIm H I m o) o.hp,fcsIns (outIm H I m o) o.fs with
      | some z,some hp,some fs=>bif ltAll o.nb (keys o.hp) then (bif Nat.ble m o.nb then .ok z (comH H I m o hp fs) else .no) else .no
      | _,_,_=>.no
    | .ask p=>.ask p
    | .no=>outMm cc H I m l):=rfl
   rw [e]
   have hf:=factsM_ok hcc h hI (F:=o.cs)
   cases hfm:factsM cc H I o.cs with
   | no=>exact ⟨fun z H' hh=>by
     obtain ⟨o',m',r⟩:=ih.1 z H' hh
     exact ⟨o',List.mem_cons_of_mem _ m',r⟩,ih.2⟩
   | ask p=>exact ⟨(fun z H' hh=>by cases hh),fun q hh=>by cases hh;exact hf.2 p hfm⟩
   | yes=>
     have hcs:=hf.1 hfm
     dsimp only
     refine ⟨fun z H' hh=>?_,fun q hh=>?_⟩
     ·split at hh
      ·rename_i z' hp fs e1 e2 e3
       cases hl:ltAll o.nb (keys o.hp) with
       | false=>rw [hl] at hh;cases hh
       | true=>
         cases hl3:Nat.ble m o.nb with
         | false=>rw [hl,hl3] at hh;cases hh
         | true=>rw [hl,hl3] at hh;cases hh;exact ⟨o,by simp,hcs,hp,fs,e1,e2,e3,hl,Nat.le_of_ble_eq_true hl3,rfl⟩
      ·cases hh
     ·split at hh
      ·cases hl:ltAll o.nb (keys o.hp)<;>cases hl3:Nat.ble m o.nb<;>(rw [hl] at hh;(try rw [hl3] at hh);cases hh)
      ·cases hh
theorem Com.callG {P:Program} {FI:FIx} {FB:FBx} {c:Com} {x:Hp→In→Bool} (hcc:cc.Ok C) (hP:cc.P=P) {kv:Kv} {iv:Nat→Int} {bv:Nat→Bool} (hσ:C.σ=sta FI FB kv iv bv)
  (hok:∀ hc w0 ρ H w I,HpRel C hc w0 ρ H w→I.Def C.σ ρ→x H I=true→c.OkI P FI FB kv (I.iv C.σ ρ) (I.bv C.σ ρ)):CallOk cc C c.g (Com.appG cc c x):=by
 refine CallOk.frz hcc ?_
 intro hc w0 ρ H w args us hh ha
 show (∀ z H',Com.app0 cc c x H args=.ok z H'→_)∧(∀ p,Com.app0 cc c x H args=.ask p→_)
 unfold Com.app0
 generalize comI c H args=I
 cases hk:comK cc H c I with
 | false=>exact ⟨(fun z H' h=>by cases h),(fun q h=>by cases h)⟩
 | true=>
 cases hx:x H I with
 | false=>exact ⟨(fun z H' h=>by cases h),(fun q h=>by cases h)⟩
 | true=>
 simp only [cond_true]
 unfold comK at hk
 simp only [cond_true_iff] at hk
 obtain ⟨k1,k2,k3,k4,k5,k6,k7,k8⟩:=hk
 have hI:=In.chk_ok hcc hh k1
 cases h4:SV.insL I c.A with
 | none=>exact ⟨(fun z H' h=>by cases h),(fun q h=>by cases h)⟩
 | some A'=>
 cases h5:hpCmp cc H I c.M with
 | none=>exact ⟨(fun z H' h=>by cases h),(fun q h=>by cases h)⟩
 | some L=>
 cases L with
 | cons=>exact ⟨(fun z H' h=>by cases h),(fun q h=>by cases h)⟩
 | nil=>
 dsimp only
 cases h6:SV.cmpL A' args with
 | none=>exact ⟨(fun z H' h=>by cases h),(fun q h=>by cases h)⟩
 | some L=>
 cases L with
 | cons=>exact ⟨(fun z H' h=>by cases h),(fun q h=>by cases h)⟩
 | nil=>
 dsimp only
 cases h7:bdFk cc H I c.B with
 | false=>exact ⟨(fun z H' h=>by cases h),(fun q h=>by cases h)⟩
 | true=>
 simp only [cond_true]
 have hf:=factsM_ok hcc hh hI (F:=c.F)
 cases h8:factsM cc H I c.F with
 | no=>exact ⟨(fun z H' h=>by cases h),(fun q h=>by cases h)⟩
 | ask p=>exact ⟨(fun z H' h=>by cases h),fun q h=>by cases h;exact hf.2 p h8⟩
 | yes=>
 dsimp only
 have hout:=outMm_ok hcc hh hI (m:=c.m) (l:=c.os)
 refine ⟨fun z H' h=>?_,hout.2⟩
 obtain ⟨o,m1,m2,hp,fs,m3,m4,m5,m6,m7,rfl⟩:=hout.1 z H' h
 have hsta:I.sta C.σ ρ=sta FI FB kv (I.iv C.σ ρ) (I.bv C.σ ρ):=by
  have e:I.kv C.σ ρ=kv.n:=by
   obtain ⟨s,bm,dm,km⟩:=I
   cases km with
   | cons=>cases k3
   | nil=>unfold In.kv;rw [hσ];rfl
  unfold In.sta
  rw [e,hσ];rfl
 have hhp:=hpCmp_ok hcc hh hI h5 (fun _ h=>by cases h) (hpCmp_code h5 k8)
 have inM:∀ i,i < c.m→∃ bk,(i,bk)∈c.M:=fun i hi=>mem_keys (lmem_iff.1 (allLt_ok k6 i hi))
 have hlt:∀ i j,get I.bm i=some j→i < c.m:=fun i j hg=>ltAll_ok k4 i (get_key hg)
 obtain ⟨bl,hbl⟩:∃ bl:Nat→Nat,bl=fun i=>((get I.bm i).bind ρ.bl).getD 0:=⟨_,rfl⟩
 have hbm:∀ i,i < c.m→∃ j z,get I.bm i=some j∧get H.heap j=some z∧z.live=true∧ρ.bl j=some (bl i):=fun i hi=>by
  obtain ⟨bk,hm⟩:=inM i hi
  obtain ⟨_,j,z,b,ob,e1,e2,e3,e4,_⟩:=hhp i bk hm
  exact ⟨j,z,e1,e2,e3,by rw [hbl];simp only [e1,Option.bind_some,e4,Option.getD_some]⟩
 have hinj:∀ i i' j,get I.bm i=some j→get I.bm i'=some j→i=i':=fun i i' j e1 e2=>by
  obtain ⟨bk,hm⟩:=inM i (hlt i j e1)
  obtain ⟨bk',hm'⟩:=inM i' (hlt i' j e2)
  exact bm_inj k7 i i' bk bk' j hm hm' e1 e2
 have hdyn:I.dyn C.σ ρ=dynM c.m bl ρ.fz:=by
  have e1:(fun i=>(get I.bm i).bind ρ.bl)=fun i=>if i < c.m then some (bl i) else none:=by
   funext i
   by_cases hi:i < c.m
   ·obtain ⟨j,z,e1,_,_,e4⟩:=hbm i hi
    rw [if_pos hi,e1];exact e4
   ·rw [if_neg hi]
    cases hg:get I.bm i with
    | none=>rfl
    | some j=>exact absurd (hlt i j hg) hi
  have e2:(fun i=>(get I.dm i).bind fun e=>(e.den C.σ ρ).bind toN)=fun _=>none:=by
   obtain ⟨s,bm,dm,km⟩:=I
   cases dm with
   | cons=>cases k2
   | nil=>rfl
  show Dyn.mk (fun i=>(get I.bm i).bind ρ.bl) (fun i=>(get I.dm i).bind fun e=>(e.den C.σ ρ).bind toN) (fun _=>none) ρ.fz=_
  rw [e1,e2];rfl
 have hA:SV.IsL (I.sta C.σ ρ) (dynM c.m bl ρ.fz) c.A us:=by
  have:=SV.cmpL_ok A' args [] us h6 (fun _ h=>by cases h) ha
  have:=(SV.insL_is hI c.A A' us h4).1 this
  rwa [hdyn] at this
 have hB:InB c.B (I.iv C.σ ρ):=bdFk_ok hcc hh hI h7
 have stat:∀ (p:SB) (b:Bool),p.den (I.sta C.σ ρ) (I.dyn C.σ ρ)=some b→p.den (I.sta C.σ ρ) (dynM c.m bl ρ.fz)=some b:=fun p b h=>by rw [← hdyn];exact h
 have noD:∀ (x:SI),x.den (I.sta C.σ ρ) (dynM c.m bl ρ.fz)=x.den (I.sta C.σ ρ) dyn0:=by
  intro x
  induction x with
  | c n=>rfl
  | v i=>rfl
  | d i=>rfl
  | op f x y hx hy=>simp only [SI.den,hx,hy]
  | wk k x hx=>simp only [SI.den,hx]
  | ap f a0 a1 a2 a3 a4 a5 h0 h1 h2 h3 h4 h5=>simp only [SI.den,h0,h1,h2,h3,h4,h5]
 have noDb:∀ (p:SB),p.den (I.sta C.σ ρ) (dynM c.m bl ρ.fz)=p.den (I.sta C.σ ρ) dyn0:=by
  intro p
  induction p with
  | c n=>rfl
  | v i=>rfl
  | seq a b=>rfl
  | lt a b=>simp only [SB.den,noD]
  | le a b=>simp only [SB.den,noD]
  | eq a b=>simp only [SB.den,noD]
  | ap f a0 a1 a2 a3 a4 a5=>simp only [SB.den,noD]
  | not p hp=>simp only [SB.den,hp]
  | and p q hp hq=>simp only [SB.den,hp,hq]
  | or p q hp hq=>simp only [SB.den,hp,hq]
 have hcall:=hok hc w0 ρ H w I hh hI hx hB (fun p hp=>by rw [← hsta,← noDb];exact stat _ _ (hf.1 h8 p hp)) w bl ρ.fz (fun b o e=>by
  obtain ⟨⟨q1,q2,q3⟩,_⟩:=hh.fz b o e
  refine ⟨q1,?_⟩
  rintro ⟨i,hi,rfl⟩
  obtain ⟨j,z,e1,e2,e3,e4⟩:=hbm i hi
  exact q3 ⟨j,z,e2,e3,e4⟩) (fun i bk hm=>by
  obtain ⟨_,j,z,b,ob,e1,e2,e3,e4,e5,e6⟩:=hhp i bk hm
  refine ⟨ob,?_,?_⟩
  ·rw [hbl];simp only [e1,Option.bind_some,e4,Option.getD_some];exact e5
  ·rw [← hsta,← hdyn];exact e6) (fun i i' hi hi' he=>by
  obtain ⟨j,z,e1,e2,e3,e4⟩:=hbm i hi
  obtain ⟨j',z',e1',e2',e3',e4'⟩:=hbm i' hi'
  rw [he] at e4
  have:=hh.inj j j' z z' _ e2 e3 e2' e3' e4 e4'
  subst this
  exact hinj i i' j e1 e1') us (by rw [← hsta];exact hA)
 rw [← hP,← hsta] at hcall
 intro cs
 obtain ⟨e,w',fr,⟨u,rfl,hbl',hos⟩,q1,q2,q3⟩:=hcall cs
 obtain ⟨ρ',g1,g2,g3⟩:=outM_rel hcc hh hI k2 hbm hlt hinj hbl' (hos o m1 (fun p hp=>by rw [← noDb];exact stat _ _ (m2 p hp))) m3 m4 m5 m6 m7
 exact ⟨.returned u,w',fr,⟨ρ',u,rfl,g1,g2,g3⟩,q1,q2,q3⟩
end
theorem EntsFor.consM {P:Program} {FI:FIx} {FB:FBx} {E:Cc→Ents} {c:Com} (h:c.Ok P FI FB) (hE:EntsFor P FI FB E):EntsFor P FI FB (fun cc=>c.ent cc::E cc):=by
 intro cc C hcc hP hσ f app hm
 rcases List.mem_cons.1 hm with e | hm
 ·cases e
  obtain ⟨kv,iv,bv,hσ⟩:=hσ
  exact Com.callG hcc hP hσ fun _ _ _ _ _ I _ _ _=>h kv _ _
 ·exact hE cc C hcc hP hσ f app hm
end
end Go.Sx
namespace Go.Sx
noncomputable section
set_option linter.unusedVariables false
set_option linter.unusedSimpArgs false
open Go.RowKit
def bmIs (I:In) (i:Nat):Bool:=match get I.bm i with | some j=>Nat.beq j i | none=>false
theorem bmIs_ok {I:In} {i:Nat} (h:bmIs I i=true):get I.bm i=some i:=by
 unfold bmIs at h
 split at h
 ·rename_i j hj;rw [hj,Nat.eq_of_beq_eq_true h]
 ·cases h
def keptL (m:Nat) (os:List Out):List Nat:=Nat.rec (motive:=fun _=>List Nat) [] (fun i ih=>bif lall (fun o=>lmem (keys o.hp) i) os then i::ih else ih) m
def finIM (m:Nat) (o:Out) (z:SV) (H:Hp):In:=mH [] H o.hp (llen o.hp) (mV [] o.z z ⟨⟨[],[]⟩,bmKeep (keys o.hp) (idMap 0 m),[],[]⟩)
def finOfM (m:Nat) (ks:List Nat) (cc:Cc) (o:Out) (z:SV) (H:Hp) (I:In):Option (List Ob):=
 bif allLt m (fun i=>bif lmem (keys o.hp) i then (bif lmem ks i then bmIs I i else false) else true) then finOf cc o z H I else none
def finMcM (m:Nat) (ks:List Nat) (ck:Bool) (cc:Cc) (z:SV) (H:Hp) (os:List Out):Nat→Option Lf:=
 List.rec (motive:=fun _=>Nat→Option Lf) (fun _=>none) (fun o _ ih k=>match (bif (bif ck then SV.clash o.z z else false) then none else bif outNo cc H o.cs then none else finOfM m ks cc o (frzT cc o.z z H).1 (frzT cc o.z z H).2 (finIM m o (frzT cc o.z z H).1 (frzT cc o.z z H).2)) with
  | some L=>some (.fin H.facts k (finIM m o (frzT cc o.z z H).1 (frzT cc o.z z H).2) L (lmap (fun p=>cdA (frzT cc o.z z H).2 (finIM m o (frzT cc o.z z H).1 (frzT cc o.z z H).2) p.1) o.hp))
  | none=>ih (Nat.succ k)) os
def finMM (m:Nat) (cc:Cc) (z:SV) (H:Hp) (os:List Out) (k:Nat):Option Lf:=
 match finMcM m (keptL m os) true cc z H os k with
 | some l=>some l
 | none=>finMcM m (keptL m os) false cc z H os k
def Tr.lfsM (m:Nat) (cc:Cc) (Ts:List Tm) (os:List Out) (t:Tr):Option (List Lf):=
 Tr.rec (motive:=fun _=>Option (List Lf)) (fun z H=>match finMM m cc z H os 0 with | some l=>some [l] | none=>none) (fun f fs H=>match cutM cc f fs H Ts 0 with | some l=>some [l] | none=>none)
  (fun _ _ _ a b=>match a,b with | some x,some y=>some (lapp x y) | _,_=>none) (fun _ _ _ H=>some [.bad H.facts]) t
theorem finMcM_ok {m:Nat} {ks:List Nat} {ck:Bool} {cc:Cc} {z:SV} {H:Hp}:∀ {os:List Out} {k:Nat} {l:Lf},finMcM m ks ck cc z H os k=some l→∃ j o L,os[j]? = some o∧l=.fin H.facts (k+j) (finIM m o (frzT cc o.z z H).1 (frzT cc o.z z H).2) L (lmap (fun p=>cdA (frzT cc o.z z H).2 (finIM m o (frzT cc o.z z H).1 (frzT cc o.z z H).2) p.1) o.hp)∧finOfM m ks cc o (frzT cc o.z z H).1 (frzT cc o.z z H).2 (finIM m o (frzT cc o.z z H).1 (frzT cc o.z z H).2)=some L
 | [],k,l,h=>by cases h
 | o::os,k,l,h=>by
   have h':(match (bif (bif ck then SV.clash o.z z else false) then none else bif outNo cc H o.cs then none else finOfM m ks cc o (frzT cc o.z z H).1 (frzT cc o.z z H).2 (finIM m o (frzT cc o.z z H).1 (frzT cc o.z z H).2)) with
    | some L=>some (.fin H.facts k (finIM m o (frzT cc o.z z H).1 (frzT cc o.z z H).2) L (lmap (fun p=>cdA (frzT cc o.z z H).2 (finIM m o (frzT cc o.z z H).1 (frzT cc o.z z H).2) p.1) o.hp))
    | none=>finMcM m ks ck cc z H os (Nat.succ k))=some l:=h
   split at h'
   ·rename_i L hL
    cases h'
    refine ⟨0,o,L,rfl,rfl,?_⟩
    cases hq:(bif ck then SV.clash o.z z else false) with
    | true=>rw [hq] at hL;cases hL
    | false=>
    rw [hq,cond_false] at hL
    cases hn:outNo cc H o.cs with
    | true=>rw [hn] at hL;cases hL
    | false=>rw [hn] at hL;exact hL
   ·obtain ⟨j,o',L,h1,h2,h3⟩:=finMcM_ok h'
    exact ⟨j+1,o',L,by simpa using h1,by rw [h2];congr 1;simp only [Nat.succ_eq_add_one];omega,h3⟩
theorem finMM_ok {m:Nat} {cc:Cc} {z:SV} {H:Hp} {os:List Out} {k:Nat} {l:Lf} (h:finMM m cc z H os k=some l):∃ j o L,os[j]? = some o∧l=.fin H.facts (k+j) (finIM m o (frzT cc o.z z H).1 (frzT cc o.z z H).2) L (lmap (fun p=>cdA (frzT cc o.z z H).2 (finIM m o (frzT cc o.z z H).1 (frzT cc o.z z H).2) p.1) o.hp)∧finOfM m (keptL m os) cc o (frzT cc o.z z H).1 (frzT cc o.z z H).2 (finIM m o (frzT cc o.z z H).1 (frzT cc o.z z H).2)=some L:=by
 unfold finMM at h
 split at h
 ·rename_i l' hl;cases h;exact finMcM_ok hl
 ·exact finMcM_ok h
section
variable {cc:Cc} {C:Ct} {hc:Nat→Option Obj} {w0:World} {cs:List Frame} {ρ:Dyn} {f:Fr} {fs:List Fr} {H:Hp} {w:World} {I:In}
theorem fin_okM {m:Nat} {ks:List Nat} {bl:Nat→Nat} (hcc:cc.Ok C) (hb:∀ ρ U,C.phi 0 ρ U↔∀ b o,w0.heap[b]? = some o→¬ Among m bl b→U b o) (hM:∀ i,i < m→i∈ks→ρ.bl i=some (bl i)) (hX:∀ b,C.X b→Among m bl b) {o:Out} {z:SV} {u:Value} {L:List Ob} (h:finOfM m ks cc o z H I=some L) (hcd:lmap (fun p=>cdA H I p.1) o.hp=lmap (fun p=>p.2.code) o.hp) (hh:HpRel C hc w0 ρ H w) (hz:z.Is C.σ ρ u) :
  I.Def C.σ ρ∧(Obs C.σ ρ L→OutM C.σ C.F0 m bl w0 w u o∧BelowX (Among m bl) w0 w):=by
 unfold finOfM at h
 cases hq1:allLt m (fun i=>bif lmem (keys o.hp) i then (bif lmem ks i then bmIs I i else false) else true) with
 | false=>rw [hq1] at h;cases h
 | true=>
 rw [hq1] at h
 simp only [cond_true] at h
 have hq:∀ i,i < m→i∈keys o.hp→i∈ks∧get I.bm i=some i:=fun i hi hk=>by
  have:=allLt_ok hq1 i hi
  try dsimp only at this
  rw [lmem_iff.2 hk,cond_true,cond_true_iff] at this
  exact ⟨lmem_iff.1 this.1,bmIs_ok this.2⟩
 unfold finOf at h
 cases hk:finK cc o H I with
 | false=>rw [hk] at h;cases h
 | true=>
   rw [hk] at h
   simp only [cond_true] at h
   unfold finK at hk
   simp only [cond_true_iff] at hk
   obtain ⟨k0,n1,n2,n3,k1,k2,k3,k4,k6,k5⟩:=hk
   have hI:=In.chk_ok hcc hh k0
   refine ⟨hI,fun hL=>?_⟩
   have hσ:=sta_nil n1 n2 n3 C.σ ρ
   obtain ⟨L1,L',e1,h,o1,hL⟩:=oapp_ok h hL
   obtain ⟨L2,L3,e2,e3,o2,o3⟩:=oapp_ok h hL
   simp only [lmap_eq] at hcd
   have hhp:=hpCmp_ok hcc hh hI e2 o2 hcd.symm
   have bl_of:∀ i b,(I.dyn C.σ ρ).bl i=some b→∃ j,get I.bm i=some j∧ρ.bl j=some b:=by
    intro i b e
    have e':(get I.bm i).bind ρ.bl=some b:=e
    exact Option.bind_eq_some_iff.1 e'
   have h0:=lmem_iff.1 k5
   have hbmi:∀ i,i < m→i∈keys o.hp→get I.bm i=some i:=fun i hi hk=>(hq i hi hk).2
   have hphi:=(hb ρ _).1 (hh.phis 0 h0)
   have amo:∀ b,Among m bl b→(∃ k z,k < m∧k∈keys o.hp∧get H.heap k=some z∧z.live=true∧ρ.bl k=some b)∨∃ k,k < m∧k ∉ keys o.hp∧bl k=b:=by
    rintro b ⟨k,hk,rfl⟩
    by_cases hkk:k∈keys o.hp
    ·obtain ⟨bk,hm⟩:=mem_keys hkk
     obtain ⟨_,j,zz,bb,ob,r1,r2,r3,r4,_⟩:=hhp k bk hm
     rw [hbmi k hk hkk] at r1;cases r1
     exact .inl ⟨k,zz,hk,hkk,r2,r3,hM k hk (hq k hk hkk).1⟩
    ·exact .inr ⟨k,hk,hkk,rfl⟩
   refine ⟨⟨I.dyn C.σ ρ,fun p hp=>?_,fun i bk hm=>?_,fun i i' bk bk' b m1 m2 b1 b2=>?_,fun i b e=>?_,fun i hi=>?_,fun i n e=>?_,fun i hi=>?_,fun _=>rfl,fun b ob e=>?_,?_⟩,⟨hh.os,hh.tape,hh.output,hh.size,fun b hlt hno=>?_⟩⟩
   ·have:=fcOb_ok hcc hh hI e3 o3 p hp
    rwa [hσ] at this
   ·obtain ⟨q1,j,zz,b,ob,r1,r2,r3,r4,r5,r6⟩:=hhp i bk hm
    rw [hσ] at r6
    exact ⟨q1,b,ob,by show (get I.bm i).bind ρ.bl=some b;rw [r1];exact r4,r5,r6⟩
   ·obtain ⟨_,j,zz,bb,ob,r1,r2,r3,r4,r5,r6⟩:=hhp i bk m1
    obtain ⟨_,j',zz',bb',ob',r1',r2',r3',r4',r5',r6'⟩:=hhp i' bk' m2
    obtain ⟨k,t1,t2⟩:=bl_of i b b1
    rw [r1] at t1;cases t1
    obtain ⟨k',t1',t2'⟩:=bl_of i' b b2
    rw [r1'] at t1';cases t1'
    have:=hh.inj j j' zz zz' b r2 r3 r2' r3' t2 t2'
    subst this
    exact bm_inj k4 i i' bk bk' j m1 m2 r1 r1'
   ·obtain ⟨j,t1,t2⟩:=bl_of i b e
    have hkey:=lmem_iff.1 (lall_iff.1 k2 i (get_key t1))
    have hmem:∃ bk,(i,bk)∈o.hp:=by
     unfold keys at hkey
     rw [lmap_eq] at hkey
     obtain ⟨⟨i',bk⟩,hm,he⟩:=List.mem_map.1 hkey
     cases he
     exact ⟨bk,hm⟩
    obtain ⟨bk,hm⟩:=hmem
    obtain ⟨_,j',zz,bb,ob,r1,r2,r3,r4,r5,r6⟩:=hhp i bk hm
    rw [t1] at r1;cases r1
    refine ⟨ltAll_ok k1 i hkey,hh.lt _ b t2,fun hmi=>?_⟩
    rcases Nat.lt_or_ge b w0.heap.size with hlt | hge
    ·by_cases ha:Among m bl b
     ·rcases amo b ha with ⟨k,z',a1,a0,a2,a3,a4⟩ | ⟨k,a1,a2,a3⟩
      ·have:=hh.inj j k zz z' b r2 r3 a2 a3 t2 a4
       subst this
       obtain ⟨bk',hm'⟩:=mem_keys a0
       have:=bm_inj k4 i j bk bk' j hm hm' t1 (hbmi j a1 a0)
       omega
      ·exact .inr ⟨k,a1,a2,a3⟩
     ·have hp0:=hphi b _ (Array.getElem?_eq_getElem hlt) ha
      exact absurd ⟨j,zz,r2,r3,t2⟩ hp0.2.2
    ·exact .inl hge
   ·show (get I.bm i).bind ρ.bl=if i∈keys o.hp then some (bl i) else none
    by_cases hk:i∈keys o.hp
    ·rw [if_pos hk,hbmi i hi hk];exact hM i hi (hq i hi hk).1
    ·rw [if_neg hk]
     cases hg:get I.bm i with
     | none=>rfl
     | some j=>exact absurd (lmem_iff.1 (lall_iff.1 k2 i (get_key hg))) hk
   ·have e':(get I.dm i).bind (fun e=>(e.den C.σ ρ).bind toN)=some n:=e
    obtain ⟨x,hx,_⟩:=Option.bind_eq_some_iff.1 e'
    exact ltAll_ok k3 i (get_key hx)
   ·have hkey:=lmem_iff.1 (allLt_ok k6 i hi)
    have hget:∃ e,get I.dm i=some e:=by
     cases hg:get I.dm i with
     | some e=>exact ⟨e,rfl⟩
     | none=>
       have:∀ l:List (Nat×SI),i∈keys l→get l i≠none:=by
        intro l
        induction l with
        | nil=>intro hm;cases hm
        | cons p l ih=>
          intro hm
          rw [get_cons]
          split
          ·simp
          ·rename_i hne
           refine ih ?_
           have hm':i∈p.1::keys l:=hm
           rcases List.mem_cons.1 hm' with e | hm'
           ·exact absurd e.symm hne
           ·exact hm'
       exact absurd hg (this _ hkey)
    obtain ⟨e,he⟩:=hget
    obtain ⟨n,hn⟩:=hI.d i e he
    refine ⟨n,?_⟩
    show (get I.dm i).bind (fun e=>(e.den C.σ ρ).bind toN)=some n
    rw [he];simp [hn,toN]
   ·obtain ⟨⟨u1,u2,u3⟩,u4⟩:=hh.fz b ob e
    refine ⟨u1,u4.imp id (fun h=>h.elim .inl fun h=>by
     rcases amo b (hX b h) with ⟨k,z',_,_,a2,a3,a4⟩ | h
     ·exact absurd ⟨k,z',a2,a3,a4⟩ u3
     ·exact .inr h),fun i bk hm hbl=>?_⟩
    obtain ⟨_,j,zz,b',ob',r1,r2,r3,r4,r5,r6⟩:=hhp i bk hm
    obtain ⟨j',t1,t2⟩:=bl_of i b hbl
    rw [r1] at t1;cases t1
    exact u3 ⟨j,zz,r2,r3,t2⟩
   ·split at e1
    ·rename_i z' hz'
     have:=SV.cmp_ok z' z L1 u e1 o1 hz
     have:=(SV.ins_is hI o.z z' u hz').1 this
     rwa [hσ] at this
    ·cases e1
   ·have:=hphi b _ (Array.getElem?_eq_getElem hlt) hno
    rw [this.1,Array.getElem?_eq_getElem hlt]
end
def bmAll (m:Nat) (os:List Out) (lf:Lf):Bool:=match lf with | .cut _ _ I _ _=>allLt m (fun i=>bif lmem (keptL m os) i then bmIs I i else true) | _=>true
theorem cuts_okM {m0:Nat} {bl:Nat→Nat} {na:Nat} {iv0:Nat→Int} {bv0:Nat→Bool} {X:Cx} {cc:Cc} {E:Ents} {Ts:List Tm} {os:List Out} {Inv:Nat→(Nat→Int)→(Nat→Bool)→Prop} {mu:Nat→(Nat→Int)→(Nat→Bool)→Nat} {w0:World} {hc:Nat→Option Obj} {cs:List Frame} {bot:FuncId×Bool} {R:Value→World→Prop}
  (hbase:∀ U,X.phi 0 U↔∀ b o,w0.heap[b]? = some o→¬ Among m0 bl b→U b o) (hX:∀ b,X.X b→Among m0 bl b) (hnb:∀ T∈Ts,m0≤T.H.nb)
  (hvs:∀ T∈Ts,∀ i∈T.vs,na≤i) (hcc:∀ iv bv,Agr na iv0 bv0 iv bv→cc.Ok (X.ct iv bv)) (hE:∀ iv bv,Agr na iv0 bv0 iv bv→EntsOk cc (X.ct iv bv) E)
  {stop:Fr→List Fr→Bool} {N n d:Nat} {L:Nat→List Lf}
  (hL:∀ k T,Ts[k]? = some T→(ex cc E (dw cc E n d) stop N T.f T.fs T.H).lfsM m0 cc Ts os=some (L k))
  (hO:∀ k T iv bv,Ts[k]? = some T→Agr na iv0 bv0 iv bv→Inv k iv bv→∀ lf∈L k,LfOk (fun iv bv=>(X.ct iv bv).σ) Ts os Inv mu k iv bv lf∧bmAll m0 os lf=true)
  (hR:∀ (k:Nat) (iv:Nat→Int) (bv:Nat→Bool) (j:Nat) (o:Out) (u:Value) (w':World),Agr na iv0 bv0 iv bv→Inv k iv bv→os[j]? = some o→OutM (X.ct iv bv).σ X.F0 m0 bl w0 w' u o→BelowX (Among m0 bl) w0 w'→(∀ (i:Nat) (o':Out),os[i]? = some o'→i≠j→(∀ p∈o'.cs,p.1.den (X.ct iv bv).σ dyn0=some p.2)→False)→R u w') :
  ∀ (q k:Nat) (T:Tm) (iv:Nat→Int) (bv:Nat→Bool),Ts[k]? = some T→mu k iv bv < q→Agr na iv0 bv0 iv bv→Inv k iv bv→∀ ρ m,(∀ i,i < m0→i∈keptL m0 os→ρ.bl i=some (bl i))→Sat (X.ct iv bv) hc w0 cs ρ T.f T.fs T.H m→botOf T.f T.fs=bot→Fin cc.P m cs bot R:=by
 intro q
 induction q with
 | zero=>intro k T iv bv _ h;omega
 | succ q ih=>
   intro k T iv bv hT hmu hagr hinv ρ m hM hm hbot
   have hcc':=hcc iv bv hagr
   have hE':=hE iv bv hagr
   have hOk:=hO k T iv bv hT hagr hinv
   have hb:∀ ρ U,(X.ct iv bv).phi 0 ρ U↔∀ b o,w0.heap[b]? = some o→¬ Among m0 bl b→U b o:=fun _ U=>hbase U
   have hnT:=hnb T (List.mem_of_getElem? hT)
   have hall:∀ (t:Tr) (l:List Lf),t.lfsM m0 cc Ts os=some l→(∀ lf∈l,LfOk (fun iv bv=>(X.ct iv bv).σ) Ts os Inv mu k iv bv lf∧bmAll m0 os lf=true)→
     t.All (X.ct iv bv) hc w0 (fun z H=>∃ l,finMM m0 cc z H os 0=some l∧LfOk (fun iv bv=>(X.ct iv bv).σ) Ts os Inv mu k iv bv l∧bmAll m0 os l=true) (fun f fs H=>∃ l,cutM cc f fs H Ts 0=some l∧LfOk (fun iv bv=>(X.ct iv bv).σ) Ts os Inv mu k iv bv l∧bmAll m0 os l=true):=by
    intro t
    induction t with
    | leaf z H=>
      intro l hl hok
      have hl':(match finMM m0 cc z H os 0 with | some l=>some [l] | none=>none)=some l:=hl
      split at hl'
      ·rename_i x hx;cases hl';exact ⟨x,hx,hok x (by simp)⟩
      ·cases hl'
    | cut f fs H=>
      intro l hl hok
      have hl':(match cutM cc f fs H Ts 0 with | some l=>some [l] | none=>none)=some l:=hl
      split at hl'
      ·rename_i x hx;cases hl';exact ⟨x,hx,hok x (by simp)⟩
      ·cases hl'
    | fork p a b ha hb=>
      intro l hl hok
      have hl':(match a.lfsM m0 cc Ts os,b.lfsM m0 cc Ts os with | some x,some y=>some (lapp x y) | _,_=>none)=some l:=hl
      split at hl'
      ·rename_i x y hx hy
       cases hl'
       rw [lapp_eq] at hok
       exact ⟨ha x hx fun lf h=>hok lf (List.mem_append_left _ h),hb y hy fun lf h=>hok lf (List.mem_append_right _ h)⟩
      ·cases hl'
    | bad why f fs H=>
      intro l hl hok
      cases hl
      intro ρ w hh
      exact (hok (.bad H.facts) (by simp)).1 ρ hh.facts
   refine ex_ok hcc' hE' (dw_ok hcc' hE' n d) (R:=R) (ρ0:=ρ) (H0:=T.H) (W0:=m.world) ?_ ?_ N T.f T.fs T.H ρ m hm (Tn.refl _ _ _) hbot (hall _ _ (hL k T hT) hOk)
   ·rintro z H ρ' u w' ⟨l,hl,hok,_⟩ hz hh ht
    have hM':∀ i,i < m0→i∈keptL m0 os→ρ'.bl i=some (bl i):=fun i hi hk=>by rw [ht.ag.bl i (by omega)];exact hM i hi hk
    obtain ⟨j,o,Lo,h1,rfl,h3⟩:=finMM_ok hl
    obtain ⟨⟨o',h4,h5⟩,h6⟩:=hok
    have hj:0+j=j:=by omega
    rw [hj] at h4
    rw [h1] at h4;cases h4
    obtain ⟨ρ2,k1,k2⟩:=frzT_ok hcc' o.z z hh hz
    obtain ⟨g1,g2⟩:=fin_okM hcc' hb (fun i hi hk=>k1.le.bl _ _ (hM' i hi hk)) hX h3 h5 k1.hp k2
    obtain ⟨g3,g4⟩:=h6 ρ2 (by have:=k1.hp.facts;rw [k1.facts] at this;exact this) g1
    obtain ⟨g5,g6⟩:=g2 g3
    exact hR k iv bv j o u w' hagr hinv h1 g5 g6 (by rw [hj] at g4;exact g4)
   ·rintro f fs H ρ' m' ⟨l,hl,hok,hbmA⟩ hsat ht hbot'
    have hM':∀ i,i < m0→i∈keptL m0 os→ρ'.bl i=some (bl i):=fun i hi hk=>by rw [ht.ag.bl i (by omega)];exact hM i hi hk
    obtain ⟨j,T',Lo,h1,rfl,h3⟩:=cutM_ok hl
    obtain ⟨⟨T2,h4,h5⟩,h6⟩:=hok
    have hj:0+j=j:=by omega
    rw [hj] at h4
    rw [h1] at h4;cases h4
    have hk:instK cc T' H (mTm T' f fs H)=true:=by
     cases hk:instK cc T' H (mTm T' f fs H) with
     | true=>rfl
     | false=>unfold instOf at h3;rw [hk] at h3;cases h3
    have hdef:(mTm T' f fs H).Def (X.ct iv bv).σ ρ':=by
     obtain ⟨fr,frs,w,_,_,_,hh⟩:=hsat
     exact instK_def hcc' hh hk
    have hfacts:Known (X.ct iv bv).σ ρ' H.facts:=by
     obtain ⟨fr,frs,w,_,_,_,hh⟩:=hsat
     exact hh.facts
    obtain ⟨g1,g2,g3⟩:=h6 ρ' hfacts hdef
    have hk2:=hk
    unfold instK at hk2
    simp only [cond_true_iff] at hk2
    obtain ⟨_,_,_,_,_,_,g0,v1,v2⟩:=hk2
    rw [hj] at g2 g3
    dsimp only at g2 g3
    have hsta:(X.ct ((mTm T' f fs H).iv (X.ct iv bv).σ ρ') ((mTm T' f fs H).bv (X.ct iv bv).σ ρ')).σ=(mTm T' f fs H).sta (X.ct iv bv).σ ρ':=by
     have hkv:(mTm T' f fs H).kv (X.ct iv bv).σ ρ'=X.kv.n:=by
      generalize mTm T' f fs H=I at g0
      obtain ⟨s,bm,dm,km⟩:=I
      cases km with
      | cons=>cases g0
      | nil=>rfl
     show sta X.FI X.FB X.kv _ _=In.sta _ _ _
     unfold In.sta
     rw [hkv];rfl
    obtain ⟨g4,g5⟩:=inst_ok (C':=X.ct ((mTm T' f fs H).iv (X.ct iv bv).σ ρ') ((mTm T' f fs H).bv (X.ct iv bv).σ ρ')) hcc' hsta rfl rfl (fun j _ U U' hU h=>X.mono j U U' hU h) h3 h5 hsat g1
    have hagr':Agr na iv0 bv0 ((mTm T' f fs H).iv (X.ct iv bv).σ ρ') ((mTm T' f fs H).bv (X.ct iv bv).σ ρ'):=by
     have hm':=List.mem_of_getElem? h1
     refine ⟨fun i hi=>?_,fun i hi=>?_⟩
     ·rw [← hagr.1 i hi]
      unfold In.iv
      cases hg:get (mTm T' f fs H).s.i i with
      | none=>rfl
      | some e=>
        have:=hvs T' hm' i (lmem_iff.1 (lall_iff.1 v1 _ (get_mem hg)))
        omega
     ·rw [← hagr.2 i hi]
      unfold In.bv
      cases hg:get (mTm T' f fs H).s.b i with
      | none=>rfl
      | some e=>
        have:=hvs T' hm' i (lmem_iff.1 (lall_iff.1 v2 _ (get_mem hg)))
        omega
    exact ih j T' _ _ h1 (by omega) hagr' g2 _ _ (fun i hi hk=>by
     show (get (mTm T' f fs H).bm i).bind ρ'.bl=some (bl i)
     have hb0:=allLt_ok hbmA i hi
     try dsimp only at hb0
     rw [lmem_iff.2 hk,cond_true] at hb0
     rw [bmIs_ok hb0];exact hM' i hi hk) g4 (g5.trans hbot')
def ccM (P:Program) (BF:List (Nat×Int×Int)) (eqt ow:List TypeId):Cc:=⟨P,⟨[],BF⟩,[],eqt,[],ow⟩
def seedB (F:List (SB×Bool)):List (Nat×Int×Int):=
 List.rec (motive:=fun _=>List (Nat×Int×Int)) [] (fun p _ ih=>match p.1,p.2 with | .le (.c a) (.v i),true=>(i,a,a - 1)::ih | _,_=>ih) F
theorem seedB_ok {σ:Sta} {ρ:Dyn}:∀ {F:List (SB×Bool)},(∀ f∈F,f.1.den σ ρ=some f.2)→∀ i a b,(i,a,b)∈seedB F→InR a b (σ.iv i)
 | [],_,_,_,_,h=>by cases h
 | p::F,hF,i,a,b,h=>by
   have ih:=seedB_ok (F:=F) fun f hf=>hF f (List.mem_cons_of_mem _ hf)
   have h':(i,a,b)∈(match p.1,p.2 with | .le (.c a) (.v i),true=>(i,a,a - 1)::seedB F | _,_=>seedB F):=h
   have h0:=hF p (List.mem_cons_self ..)
   split at h'
   ·rename_i a' i' e1 e2
    rcases List.mem_cons.1 h' with e | h'
    ·cases e
     rw [e1,e2] at h0
     simp only [SB.den,SI.den,Option.bind_some,Option.some.injEq,decide_eq_true_eq] at h0
     exact ⟨h0,by split<;>omega⟩
    ·exact ih i a b h'
   ·exact ih i a b h'
def tmM (c:Com) (fn:Func) (body:Code):Tm:=
 ⟨enterF c.g fn body c.A,[],{ heap:=c.M,nb:=c.m,nd:=0,nv:=0,facts:=c.F,phis:=[0],bd:=lrnF c.F (lapp c.B (seedB c.F)) },[]⟩
def Com.chk (na:Nat) (c:Com):Bool:=
 bif ltAll c.m (keys c.M) then (bif allLt c.m (fun i=>lmem (keys c.M) i) then (bif (bif c.rk.vlt na then c.rk.okd [] else false) then lall (fun o=>o.vlt na) c.os else false) else false) else false
def tmOk (na m:Nat) (T:Tm):Bool:=bif lall (fun i=>Nat.ble na i) T.vs then Nat.ble m T.H.nb else false
def LsOkM (m:Nat) (cc:Cc) (E:Ents) (stop:Fr→List Fr→Bool) (N n d:Nat) (all:List Tm) (os:List Out):List Tm→List (List Lf)→Prop
 | [],[]=>True
 | T::Ts,l::L=>(ex cc E (dw cc E n d) stop N T.f T.fs T.H).lfsM m cc all os=some l∧LsOkM m cc E stop N n d all os Ts L
 | _,_=>False
theorem LsOkM.get {m:Nat} {cc:Cc} {E:Ents} {stop:Fr→List Fr→Bool} {N n d:Nat} {all:List Tm} {os:List Out}:∀ {Ts:List Tm} {L:List (List Lf)},LsOkM m cc E stop N n d all os Ts L→∀ (k:Nat) (T:Tm),Ts[k]? = some T→∃ l,L[k]? = some l∧(ex cc E (dw cc E n d) stop N T.f T.fs T.H).lfsM m cc all os=some l
 | [],[],_,k,T,h=>by simp at h
 | [],_::_,h,_,_,_=>h.elim
 | _::_,[],h,_,_,_=>h.elim
 | T0::Ts,l::L,⟨h1,h2⟩,k,T,h=>by
   cases k with
   | zero=>simp at h;subst h;exact ⟨l,rfl,h1⟩
   | succ k=>simp at h;obtain ⟨l',h3,h4⟩:=LsOkM.get h2 k T h;exact ⟨l',by simpa using h3,h4⟩
def LsCM (m:Nat) (Ts:List Tm) (os:List Out):List (List Lf)→Prop
 | []=>True
 | l::L=>(∀ lf∈l,LfC Ts os lf∧bmAll m os lf=true)∧LsCM m Ts os L
theorem LsCM.get {m:Nat} {Ts:List Tm} {os:List Out}:∀ {L:List (List Lf)},LsCM m Ts os L→∀ (k:Nat) (l:List Lf),L[k]? = some l→∀ lf∈l,LfC Ts os lf∧bmAll m os lf=true
 | [],_,k,l,h=>by simp at h
 | l0::L,h,k,l,hk=>by
   cases k with
   | zero=>simp at hk;subst hk;exact h.1
   | succ k=>simp at hk;exact LsCM.get h.2 k l hk
def memPhi (m:Nat) (bl:Nat→Nat) (w:World) (j:Nat) (U:Nat→Obj→Prop):Prop:=j=0→∀ b o,w.heap[b]? = some o→¬ Among m bl b→U b o
theorem Com.okI_of {P:Program} {eqt:List TypeId} {FI:FIx} {FB:FBx} {BF:List (Nat×Int×Int)} (hP:POk P eqt) (hFI:FiOk FI FB BF) (c:Com) {fn:Func} {body:Code} (hfn:P.funcs[c.g]? = some fn) (hbd:fn.body=some body)
  (na:Nat) (Ts:List Tm) (hchk:(bif c.chk na then lall (tmOk na c.m) Ts else false)=true) {E:Ents} {stop:Fr→List Fr→Bool} {N n d:Nat} (L:List (List Lf))
  (hL:LsOkM c.m (ccM P BF eqt c.ow) E stop N n d (tmM c fn body::Ts) c.os (tmM c fn body::Ts) L) (hC:LsCM c.m (tmM c fn body::Ts) c.os L)
  (Inv:(Nat→Int)→(Nat→Bool)→Nat→(Nat→Int)→(Nat→Bool)→Prop) (mu:(Nat→Int)→(Nat→Bool)→Nat→(Nat→Int)→(Nat→Bool)→Nat)
  (kv:Kv) (iv0:Nat→Int) (bv0:Nat→Bool) (h0:InB c.B iv0→Inv iv0 bv0 0 iv0 bv0)
  (hE:∀ (C:Ct) iv bv,C.σ=sta FI FB kv iv bv→Agr na iv0 bv0 iv bv→(ccM P BF eqt c.ow).Ok C→EntsOk (ccM P BF eqt c.ow) C E)
  (hO:InB c.B iv0→FT (sta FI FB kv iv0 bv0) (dlt dyn0) c.F→∀ k l iv bv,L[k]? = some l→Agr na iv0 bv0 iv bv→Inv iv0 bv0 k iv bv→∀ lf∈l,LfT (sta FI FB kv) c.os (Inv iv0 bv0) (mu iv0 bv0) k iv bv lf):c.OkI P FI FB kv iv0 bv0:=by
 rw [cond_true_iff] at hchk
 obtain ⟨hck,hvs⟩:=hchk
 unfold Com.chk at hck
 simp only [cond_true_iff] at hck
 obtain ⟨ck1,ck2,_,hckO⟩:=hck
 intro hin hF w bl F0 hF0 hM hblj us hus
 let X:Cx:={ FI,FB,kv,F0,X:=Among c.m bl,phi:=memPhi c.m bl w,mono:=fun j U U' h k hj b o e1 e2=>h b o (k hj b o e1 e2) }
 have hbase:∀ U,X.phi 0 U↔∀ b o,w.heap[b]? = some o→¬ Among c.m bl b→U b o:=fun U=>⟨fun h=>h rfl,fun h _=>h⟩
 have hcc:∀ iv bv,Agr na iv0 bv0 iv bv→(ccM P BF eqt c.ow).Ok (X.ct iv bv):=by
  intro iv bv ha
  exact ⟨⟨(fun _ _ _ h=>by cases h),hFI.bf⟩,(fun _ _ _ _ hm=>by cases hm),hP.eqt,hP.names,hP.ov,hP.mixed,hFI.al kv iv bv,(fun _ _ _ _ _ _ hm=>by cases hm)⟩
 intro cs
 have hT:∀ T∈tmM c fn body::Ts,(∀ i∈T.vs,na≤i)∧c.m≤T.H.nb:=by
  intro T hT
  rcases List.mem_cons.1 hT with rfl | hT
  ·exact ⟨(fun i hi=>by cases hi),Nat.le_refl _⟩
  ·have:=lall_iff.1 hvs T hT
   unfold tmOk at this
   rw [cond_true_iff] at this
   exact ⟨fun i hi=>Nat.le_of_ble_eq_true (lall_iff.1 this.1 i hi),Nat.le_of_ble_eq_true this.2⟩
 have key:∀ i bk,get c.M i=some bk→i < c.m:=fun i bk hg=>ltAll_ok ck1 i (get_key hg)
 have hown:∀ b,Own (dynM c.m bl F0) c.M b→Among c.m bl b:=by
  rintro b ⟨i,bk,e1,_,e3⟩
  have hi:=key i bk e1
  have e3':(if i < c.m then some (bl i) else none)=some b:=e3
  rw [if_pos hi] at e3'
  exact ⟨i,hi,Option.some.inj e3'⟩
 have henter:Sat (X.ct iv0 bv0) (fun _=>none) w cs (dynM c.m bl F0) (tmM c fn body).f (tmM c fn body).fs (tmM c fn body).H (lone (Frame.enter P c.g us.toArray .normal) cs w):=by
  refine ⟨_,[],w,rfl,enterF_ok hfn hbd hus,rfl,?_⟩
  refine ⟨fun i bk hg hl=>?_,fun i i' bk bk' b e1 _ e3 _ e5 e6=>?_,fun i hi=>?_,(fun _ _=>rfl),(fun _ _=>rfl),fun i b e=>?_,fun i bk hg=>key i bk hg,(fun _ _ h=>by cases h),(fun b hw=>⟨rfl,.inr (hown b hw)⟩),fun p hp=>?_,lrnF_ok (σ:=sta FI FB kv iv0 bv0) (ρ:=dyn0) (fun i a b hm=>by
   rw [lapp_eq] at hm
   rcases List.mem_append.1 hm with hm | hm
   ·exact hin i a b hm
   ·exact seedB_ok (ρ:=dyn0) hF i a b hm) hF,fun j hj=>?_,(fun b o e=>⟨⟨(hF0 b o e).1,rfl,fun hw=>(hF0 b o e).2 (hown b hw)⟩,.inl e⟩),rfl,rfl,rfl,Nat.le_refl _⟩
  ·obtain ⟨o,h1,h2⟩:=hM i bk (get_mem hg)
   exact ⟨bl i,o,if_pos (key i bk hg),h1,h2⟩
  ·have k1:=key i bk e1
   have k2:=key i' bk' e3
   have q1:(if i < c.m then some (bl i) else none)=some b:=e5
   have q2:(if i' < c.m then some (bl i') else none)=some b:=e6
   rw [if_pos k1] at q1;rw [if_pos k2] at q2
   exact hblj i i' k1 k2 (Option.some.inj (q1.trans q2.symm))
  ·have hi':c.m≤i:=hi
   exact if_neg (by omega)
  ·have e':(if i < c.m then some (bl i) else none)=some b:=e
   split at e'
   ·rename_i hi
    obtain ⟨bk,hm⟩:=mem_keys (lmem_iff.1 (allLt_ok ck2 i hi))
    cases e'
    obtain ⟨o,h1,_⟩:=hM i _ hm
    exact (Array.getElem?_eq_some_iff.1 h1).1
   ·cases e'
  ·have:=hF p hp
   exact SB.den_mono ⟨(fun _ _ h=>by cases h),(fun _ _ h=>by cases h),(fun _ _ h=>by cases h),(fun _ _ h=>by cases h)⟩ _ _ this
  ·have hj':j∈([0]:List Nat):=hj
   simp only [List.mem_singleton] at hj'
   subst hj'
   exact fun _ b o e1 e2=>⟨e1,rfl,fun hw=>e2 (hown b hw)⟩
 have hfin:=cuts_okM (m0:=c.m) (bl:=bl) (na:=na) (iv0:=iv0) (bv0:=bv0) (X:=X) (cc:=ccM P BF eqt c.ow) (E:=E) (Ts:=tmM c fn body::Ts) (os:=c.os) (Inv:=Inv iv0 bv0) (mu:=mu iv0 bv0) (w0:=w) (hc:=fun _=>none) (cs:=cs) (bot:=(c.g,true))
  (R:=fun u w'=>BelowX (Among c.m bl) w w'∧∀ o∈c.os,(∀ p∈o.cs,p.1.den (sta FI FB kv iv0 bv0) dyn0=some p.2)→OutM (sta FI FB kv iv0 bv0) F0 c.m bl w w' u o)
  hbase (fun _ h=>h) (fun T hT'=>(hT T hT').2) (fun T hT'=>(hT T hT').1) hcc (fun iv bv ha=>hE _ iv bv rfl ha (hcc iv bv ha)) (stop:=stop) (N:=N) (n:=n) (d:=d) (L:=fun k=>(L[k]?).getD []) (fun k T hT'=>?_) (fun k T iv bv hT' ha hi lf hlf=>?_) (fun k iv bv j o u w' ha hi hj hout hbel hoth=>?_)
  (mu iv0 bv0 0 iv0 bv0+1) 0 (tmM c fn body) iv0 bv0 rfl (Nat.lt_succ_self _) ⟨fun _ _=>rfl,fun _ _=>rfl⟩ (h0 hin) (dynM c.m bl F0) _ (fun i hi _=>if_pos hi) henter rfl
 ·obtain ⟨u,w',hends,hr1,hr2⟩:=hfin
  obtain ⟨fr,h1,h2,h3⟩:=hends.ret rfl
  exact ⟨.returned u,w',fr,⟨u,rfl,hr1,hr2⟩,h1,h2,h3⟩
 ·obtain ⟨l,h1,h2⟩:=hL.get k T hT'
  rw [h2,h1];rfl
 ·obtain ⟨l,h1,h2⟩:=hL.get k T hT'
  rw [h1] at hlf
  have hlf':lf∈l:=hlf
  exact ⟨LfOk.of_plain (hC.get k l h1 lf hlf').1 (hO hin (FT_of hF) k l iv bv h1 ha hi lf hlf'),(hC.get k l h1 lf hlf').2⟩
 ·refine ⟨hbel,fun o' ho' hcs=>?_⟩
  obtain ⟨i,hio⟩:=List.getElem?_of_mem ho'
  have hv:=lall_iff.1 hckO o' ho'
  have hcs':∀ p∈o'.cs,p.1.den (sta FI FB kv iv bv) dyn0=some p.2:=by
   intro p hp
   have hv':=hv
   unfold Out.vlt at hv'
   rw [cond_true_iff] at hv'
   rw [SB.vlt_den ha (lall_iff.1 hv'.1 p hp)];exact hcs p hp
  by_cases hij:i=j
  ·subst hij
   rw [hj] at hio;cases hio
   unfold Out.vlt at hv
   simp only [cond_true_iff] at hv
   obtain ⟨_,x2,x3,x4⟩:=hv
   obtain ⟨ρ,f1,f2,f3,f4,f4m,f5,f6,f7,f9,f8⟩:=hout
   refine ⟨ρ,fun p hp=>?_,fun i bk hm=>?_,f3,f4,f4m,f5,f6,f7,f9,?_⟩
   ·rw [← SB.vlt_den ha (lall_iff.1 x4 p hp)];exact f1 p hp
   ·obtain ⟨g1,b,obj,g2,g3,g4⟩:=f2 i bk hm
    exact ⟨g1,b,obj,g2,g3,(Bk.vlt_is ha (lall_iff.1 x3 _ hm)).1 g4⟩
   ·exact (SV.vlt_is ha _ u x2).1 f8
  ·exact (hoth i o' hio hij hcs').elim
theorem Com.of_plain {P:Program} {eqt:List TypeId} {FI:FIx} {FB:FBx} {BF:List (Nat×Int×Int)} (hP:POk P eqt) (hFI:FiOk FI FB BF) {E:Cc→Ents} (hE:EntsFor P FI FB E) (c:Com) {fn:Func} {body:Code} (hfn:P.funcs[c.g]? = some fn) (hbd:fn.body=some body)
  (na:Nat) (Ts:List Tm) (hchk:(bif c.chk na then lall (tmOk na c.m) Ts else false)=true) {stop:Fr→List Fr→Bool} {N n d:Nat} (L:List (List Lf))
  (hL:LsOkM c.m (ccM P BF eqt c.ow) (E (ccM P BF eqt c.ow)) stop N n d (tmM c fn body::Ts) c.os (tmM c fn body::Ts) L) (hC:LsCM c.m (tmM c fn body::Ts) c.os L)
  (Inv:(Nat→Int)→(Nat→Bool)→Nat→(Nat→Int)→(Nat→Bool)→Prop) (mu:(Nat→Int)→(Nat→Bool)→Nat→(Nat→Int)→(Nat→Bool)→Nat) (h0:∀ iv bv,InB c.B iv→Inv iv bv 0 iv bv)
  (hO:∀ kv iv0 bv0,InB c.B iv0→FT (sta FI FB kv iv0 bv0) (dlt dyn0) c.F→∀ k l iv bv,L[k]? = some l→Agr na iv0 bv0 iv bv→Inv iv0 bv0 k iv bv→∀ lf∈l,LfT (sta FI FB kv) c.os (Inv iv0 bv0) (mu iv0 bv0) k iv bv lf):c.Ok P FI FB:=
 fun kv iv0 bv0=>Com.okI_of hP hFI c hfn hbd na Ts hchk L hL hC Inv mu kv iv0 bv0 (h0 iv0 bv0) (fun C iv bv hσ _ hcc=>hE _ C hcc rfl ⟨kv,iv,bv,hσ⟩) (hO kv iv0 bv0)
end
end Go.Sx
namespace Go.Sx
set_option linter.unusedVariables false
set_option linter.unusedSimpArgs false
noncomputable def hardA (app:Hp→List SV→Ap) (H:Hp) (args:List SV):Ap:=match app H args with | .no=>.bad | r=>r
noncomputable def Con.entH (c:Con) (cc:Cc):Nat×(Hp→List SV→Ap):=(c.g,hardA (Con.app cc c))
theorem CallOk.hard {cc:Cc} {C:Ct} {f:FuncId} {app:Hp→List SV→Ap} (h:CallOk cc C f app):CallOk cc C f (hardA app):=by
 intro hc w0 ρ H w args us hh ha
 obtain ⟨h1,h2⟩:=h hc w0 ρ H w args us hh ha
 refine ⟨fun z H' e=>h1 z H' ?_,fun p e=>h2 p ?_⟩
 ·unfold hardA at e
  split at e
  ·cases e
  ·exact e
 ·unfold hardA at e
  split at e
  ·cases e
  ·exact e
theorem EntsFor.consH {P:Program} {FI:FIx} {FB:FBx} {E:Cc→Ents} {c:Con} (h:c.Ok P FI FB) (hE:EntsFor P FI FB E):EntsFor P FI FB (fun cc=>c.entH cc::E cc):=by
 intro cc C hcc hP hσ f app hm
 rcases List.mem_cons.1 hm with e | hm
 ·cases e
  exact CallOk.hard (Con.callOk h hcc hP hσ)
 ·exact hE cc C hcc hP hσ f app hm
end Go.Sx
