/- A symbolic executor: runs with loops: cut at the loops' heads. -/
import Derived.Test.YtfgdpkceoadgjaaSxZ
namespace Go.Sx
set_option linter.unusedSectionVars false
set_option linter.unusedVariables false
set_option linter.unusedSimpArgs false
open Go.RowKit
structure Sh where
 td:List (Option (List It))
 cd:List (Option (Option Code×Array Tmp×Code×Code))
noncomputable def shT (T:Tm) (I:In):Sh:=⟨tdIns I T.f.todo::lmap (fun f=>tdIns I f.todo) T.fs,lmap (fun p=>p.2.code) T.H.heap⟩
noncomputable def shA (T:Tm) (I:In) (f:Fr) (fs:List Fr) (H:Hp):Sh:=⟨some f.todo::lmap (fun f=>some f.todo) fs,lmap (fun p=>cdA H I p.1) T.H.heap⟩
noncomputable def inRg (r:Rg) (a b:Int):Bool:=bif ile a b then (match r with | (some x,some y)=>bif ile a x then ile y b else false | _=>false) else (match r with | (some x,_)=>ile a x | _=>false)
theorem inRg_ok {r:Rg} {a b x:Int} (h:inRg r a b=true) (hx:r.In x):InR a b x:=by
 unfold inRg at h
 cases hab:ile a b with
 | true=>
   rw [hab,cond_true] at h
   have h5:=ile_iff.1 hab
   split at h
   ·rename_i p q
    rw [cond_true_iff] at h
    have h1:=ile_iff.1 h.1
    have h2:=ile_iff.1 h.2
    have h3:=hx.1 p rfl
    have h4:=hx.2 q rfl
    exact ⟨by omega,by rw [if_pos h5];omega⟩
   ·cases h
 | false=>
   rw [hab,cond_false] at h
   have h5:¬ a≤b:=fun h=>by rw [ile_iff.2 h] at hab;cases hab
   split at h
   ·rename_i p q
    have h1:=ile_iff.1 h
    have h3:=hx.1 p rfl
    exact ⟨by omega,by rw [if_neg h5];omega⟩
   ·cases h
noncomputable def isYes (r:DR) (b:Bool):Bool:=match r with | .yes b'=>(bif b' then b else !b) | _=>false
theorem isYes_ok {r:DR} {b:Bool} (h:isYes r b=true):r=.yes b:=by
 unfold isYes at h
 split at h
 ·rename_i b'
  cases b'<;>cases b<;>first | rfl | cases h
 ·cases h
noncomputable def fcOb (cc:Cc) (H:Hp) (I:In) (F:List (SB×Bool)):Option (List Ob):=
 List.rec (motive:=fun _=>Option (List Ob)) (some []) (fun p _ ih=>match p.1.ins I with | some q=>oapp (some (bif isYes (dec (bdOf cc H) H.facts q) p.2 then [] else [.fa q p.2])) ih | none=>none) F
noncomputable def bdOb (cc:Cc) (H:Hp) (I:In) (l:List (Nat×Int×Int)):List Ob:=
 List.rec (motive:=fun _=>List Ob) [] (fun p _ ih=>
  let e:=match get I.s.i p.1 with | some e=>e | none=>.v p.1
  bif inRg (rg (bdOf cc H) e) p.2.1 p.2.2 then ih else .rn e p.2.1 p.2.2::ih) l
section
variable {cc:Cc} {C:Ct} {hc:Nat→Option Obj} {w0:World} {cs:List Frame} {ρ:Dyn} {f:Fr} {fs:List Fr} {H:Hp} {w:World} {I:In}
theorem fcOb_ok (hcc:cc.Ok C) (h:HpRel C hc w0 ρ H w) (hI:I.Def C.σ ρ):∀ {F:List (SB×Bool)} {L:List Ob},fcOb cc H I F=some L→Obs C.σ ρ L→∀ p∈F,p.1.den (I.sta C.σ ρ) (I.dyn C.σ ρ)=some p.2
 | [],L,_,_,p,hp=>by cases hp
 | q::F,L,hh,hL,p,hp=>by
   have hh':(match q.1.ins I with | some r=>oapp (some (bif isYes (dec (bdOf cc H) H.facts r) q.2 then [] else [.fa r q.2])) (fcOb cc H I F) | none=>none)=some L:=hh
   split at hh'
   ·rename_i r hr
    obtain ⟨x,y,k1,k2,k3,k4⟩:=oapp_ok hh' hL
    cases k1
    rcases List.mem_cons.1 hp with rfl | hp
    ·obtain ⟨v,v1,v2⟩:=SB.ins_ok hI hr
     rw [v2]
     cases hy:isYes (dec (bdOf cc H) H.facts r) p.2 with
     | true=>
       have:=dec_ok (bdOf_ok hcc h) h.facts v1 (isYes_ok hy)
       rw [this]
     | false=>
       rw [hy] at k3
       have:=k3 (.fa r p.2) (by simp)
       simp only [Ob.Ok] at this
       rw [← this,v1]
    ·exact fcOb_ok hcc h hI k2 k4 p hp
   ·cases hh'
theorem bdOb_ok (hcc:cc.Ok C) (h:HpRel C hc w0 ρ H w) (hI:I.Def C.σ ρ):∀ {l:List (Nat×Int×Int)},Obs C.σ ρ (bdOb cc H I l)→∀ i a b,(i,a,b)∈l→InR a b (I.iv C.σ ρ i)
 | [],_,i,a,b,hm=>by cases hm
 | q::l,hL,i,a,b,hm=>by
   have hL':Obs C.σ ρ (bif inRg (rg (bdOf cc H) (match get I.s.i q.1 with | some e=>e | none=>.v q.1)) q.2.1 q.2.2 then bdOb cc H I l else .rn (match get I.s.i q.1 with | some e=>e | none=>.v q.1) q.2.1 q.2.2::bdOb cc H I l):=hL
   have hrest:Obs C.σ ρ (bdOb cc H I l):=by
    cases hb:inRg (rg (bdOf cc H) (match get I.s.i q.1 with | some e=>e | none=>.v q.1)) q.2.1 q.2.2 with
    | true=>rw [hb] at hL';exact hL'
    | false=>rw [hb] at hL';exact fun o ho=>hL' o (List.mem_cons_of_mem _ ho)
   rcases List.mem_cons.1 hm with e | hm
   ·subst e
    have hden:(match get I.s.i i with | some e=>e | none=>SI.v i).den C.σ ρ=some (I.iv C.σ ρ i):=by
     unfold In.iv
     cases hg:get I.s.i i with
     | some e=>
       obtain ⟨x,hx⟩:=hI.i i e hg
       simp [hx]
     | none=>rfl
    cases hb:inRg (rg (bdOf cc H) (match get I.s.i i with | some e=>e | none=>.v i)) a b with
    | true=>exact inRg_ok hb (rg_ok (bdOf_ok hcc h) _ _ hden)
    | false=>
      dsimp only at hL'
      rw [hb] at hL'
      have:=hL' _ (List.mem_cons_self ..)
      simp only [Ob.Ok] at this
      obtain ⟨v,h1,h2,h3⟩:=this
      rw [hden] at h1
      cases h1
      exact ⟨h2,h3⟩
   ·exact bdOb_ok hcc h hI hrest i a b hm
noncomputable def isEm {α:Type} (l:List α):Bool:=match l with | []=>true | _=>false
noncomputable def ltAll (n:Nat) (l:List Nat):Bool:=lall (fun i=>Nat.blt i n) l
noncomputable def keys {α:Type} (l:List (Nat×α)):List Nat:=lmap (fun p=>p.1) l
noncomputable def instK (cc:Cc) (T:Tm) (H:Hp) (I:In):Bool:=
 bif I.chk cc H then (bif ltAll T.H.nb (keys T.H.heap) then (bif ltAll T.H.nb (keys I.bm) then (bif ltAll T.H.nd (keys I.dm) then (bif nodup (bmL I T.H.heap) then (bif lall (fun j=>lmem H.phis j) T.H.phis then (bif isEm I.km then (bif lall (fun p=>lmem T.vs p.1) I.s.i then lall (fun p=>lmem T.vs p.1) I.s.b else false) else false) else false) else false) else false) else false) else false) else false
noncomputable def instOf (cc:Cc) (T:Tm) (f:Fr) (fs:List Fr) (H:Hp) (I:In):Option (List Ob):=
 bif instK cc T H I then oapp (frCmp I T.f f) (oapp (fsCmp I T.fs fs) (oapp (hpCmp cc H I T.H.heap) (oapp (fcOb cc H I T.H.facts) (some (bdOb cc H I T.H.bd))))) else none
theorem get_key {α:Type} {l:List (Nat×α)} {i:Nat} {a:α} (h:get l i=some a):i∈keys l:=by
 have:=get_mem h
 unfold keys
 rw [lmap_eq]
 exact List.mem_map.2 ⟨_,this,rfl⟩
theorem ltAll_ok {n:Nat} {l:List Nat} (h:ltAll n l=true):∀ i∈l,i < n:=fun i hi=>by
 have:=lall_iff.1 h i hi
 simpa [Nat.blt_eq] using this
theorem instK_def (hcc:cc.Ok C) {T:Tm} (h:HpRel C hc w0 ρ H w) (hk:instK cc T H I=true):I.Def C.σ ρ:=by
 unfold instK at hk
 simp only [cond_true_iff] at hk
 exact In.chk_ok hcc h hk.1
theorem inst_ok (hcc:cc.Ok C) {C':Ct} (hσ:C'.σ=I.sta C.σ ρ) (hphi:∀ j ρ' U U',(∀ b o,U b o→U' b o)→C.phi j ρ U→C'.phi j ρ' U') {T:Tm} {L:List Ob} (h:instOf cc T f fs H I=some L) (hsh:shA T I f fs H=shT T I) {m:Machine} (hm:Sat C hc w0 cs ρ f fs H m) (hL:Obs C.σ ρ L) :
  Sat C' hc w0 cs (I.dyn C.σ ρ) T.f T.fs T.H m∧botOf T.f T.fs=botOf f fs:=by
 obtain ⟨fr,frs,w,rfl,hf,hfs,hh⟩:=hm
 unfold instOf at h
 cases hk:instK cc T H I with
 | false=>rw [hk] at h;cases h
 | true=>
   rw [hk] at h
   simp only [cond_true] at h
   have hI:=instK_def hcc hh hk
   unfold instK at hk
   simp only [cond_true_iff] at hk
   obtain ⟨_,k1,k2,k3,k4,k5,_⟩:=hk
   obtain ⟨L1,L',e1,h,o1,hL⟩:=oapp_ok h hL
   obtain ⟨L2,L',e2,h,o2,hL⟩:=oapp_ok h hL
   obtain ⟨L3,L',e3,h,o3,hL⟩:=oapp_ok h hL
   obtain ⟨L4,L5,e4,h,o4,o5⟩:=oapp_ok h hL
   cases h
   simp only [shA,shT,Sh.mk.injEq,List.cons.injEq,lmap_eq] at hsh
   obtain ⟨⟨s1,s2⟩,s3⟩:=hsh
   obtain ⟨g1,g2,g3⟩:=frCmp_ok hI e1 o1 s1.symm hf
   obtain ⟨g4,g5⟩:=fsCmp_ok hI e2 o2 s2.symm hfs
   have hhp:=hpCmp_ok hcc hh hI e3 o3 s3.symm
   refine ⟨⟨fr,frs,w,rfl,by rw [hσ];exact g1,by rw [hσ];exact g4,?_⟩,?_⟩
   ·have blk:∀ i bk,get T.H.heap i=some bk→bk.live=true∧∃ j z b o,get I.bm i=some j∧get H.heap j=some z∧z.live=true∧ρ.bl j=some b∧w.heap[b]? = some o∧bk.Is (I.sta C.σ ρ) (I.dyn C.σ ρ) o:=fun i bk hg=>hhp i bk (get_mem hg)
    have bl_of:∀ i b,(I.dyn C.σ ρ).bl i=some b→∃ j,get I.bm i=some j∧ρ.bl j=some b:=by
     intro i b e
     have e':(get I.bm i).bind ρ.bl=some b:=e
     exact Option.bind_eq_some_iff.1 e'
    have own:∀ b,Own (I.dyn C.σ ρ) T.H.heap b→Own ρ H.heap b:=by
     rintro b ⟨i,bk,q1,q2,q3⟩
     obtain ⟨_,j,z,b',o,r1,r2,r3,r4,r5,r6⟩:=blk i bk q1
     obtain ⟨j',t1,t2⟩:=bl_of i b q3
     rw [r1] at t1;cases t1
     exact ⟨j,z,r2,r3,t2⟩
    refine ⟨fun i bk q1 q2=>?_,fun i i' bk bk' b q1 q2 q3 q4 q5 q6=>?_,fun i hi=>?_,fun i hi=>?_,fun i hi=>rfl,fun i b e=>?_,fun i bk q1=>?_,hh.hid,fun b hb=>hh.nh b (own b hb),fun p hp=>?_,fun i a b hm=>?_,fun j hj=>?_,hh.os,hh.tape,hh.output,hh.size⟩
    ·obtain ⟨_,j,z,b,o,r1,r2,r3,r4,r5,r6⟩:=blk i bk q1
     exact ⟨b,o,by show (get I.bm i).bind ρ.bl=some b;rw [r1];exact r4,r5,by rw [hσ];exact r6⟩
    ·obtain ⟨_,j,z,b1,o,r1,r2,r3,r4,r5,r6⟩:=blk i bk q1
     obtain ⟨_,j',z',b1',o',r1',r2',r3',r4',r5',r6'⟩:=blk i' bk' q3
     obtain ⟨k,t1,t2⟩:=bl_of i b q5
     rw [r1] at t1;cases t1
     obtain ⟨k',t1',t2'⟩:=bl_of i' b q6
     rw [r1'] at t1';cases t1'
     have:=hh.inj j j' z z' b r2 r3 r2' r3' t2 t2'
     subst this
     exact bm_inj k4 i i' bk bk' j (get_mem q1) (get_mem q3) r1 r1'
    ·show (get I.bm i).bind ρ.bl=none
     cases hg:get I.bm i with
     | none=>rfl
     | some j=>have:=ltAll_ok k2 i (get_key hg);omega
    ·show (get I.dm i).bind _=none
     cases hg:get I.dm i with
     | none=>rfl
     | some j=>have:=ltAll_ok k3 i (get_key hg);omega
    ·obtain ⟨j,_,t2⟩:=bl_of i b e
     exact hh.lt j b t2
    ·exact ltAll_ok k1 i (get_key q1)
    ·rw [hσ];exact fcOb_ok hcc hh hI e4 o4 p hp
    ·rw [hσ];exact bdOb_ok hcc hh hI o5 i a b hm
    ·have:=lmem_iff.1 (lall_iff.1 k5 j hj)
     exact hphi j _ _ _ (fun b o ⟨u1,u2,u3⟩=>⟨u1,u2,fun hw=>u3 (own b hw)⟩) (hh.phis j this)
   ·have hlast:∀ {l l':List Fr},l.map (fun f=>(f.fn,f.rd.isNone))=l'.map (fun f=>(f.fn,f.rd.isNone))→l.getLast?.map (fun f=>(f.fn,f.rd.isNone))=l'.getLast?.map (fun f=>(f.fn,f.rd.isNone)):=by
     intro l l' e
     rw [← List.getLast?_map,← List.getLast?_map,e]
    have:=hlast g5
    unfold botOf
    cases h1:T.fs.getLast? with
    | none=>
      cases h2:fs.getLast? with
      | none=>simp only [g2,g3]
      | some x=>rw [h1,h2] at this;cases this
    | some x=>
      cases h2:fs.getLast? with
      | none=>rw [h1,h2] at this;cases this
      | some y=>
        rw [h1,h2] at this
        simpa using this
end
structure Out where
 cs:List (SB×Bool)
 z:SV
 hp:List (Nat×Bk)
 nb:Nat
 nd:Nat
 fs:List (SB×Bool)
def OutIs (σ:Sta) (w0 w':World) (u:Value) (o:Out):Prop:=
 ∃ ρ:Dyn,(∀ p∈o.fs,p.1.den σ ρ=some p.2)∧(∀ i bk,(i,bk)∈o.hp→bk.live=true∧∃ b obj,ρ.bl i=some b∧w'.heap[b]? = some obj∧bk.Is σ ρ obj)∧
   (∀ i i' bk bk' b,(i,bk)∈o.hp→(i',bk')∈o.hp→ρ.bl i=some b→ρ.bl i'=some b→i=i')∧
   (∀ i b,ρ.bl i=some b→i < o.nb∧w0.heap.size≤b∧b < w'.heap.size)∧(∀ i n,ρ.di i=some n→i < o.nd)∧(∀ i,i < o.nd→∃ n,ρ.di i=some n)∧(∀ i,ρ.dv i=none)∧o.z.Is σ ρ u
noncomputable def finI (o:Out) (z:SV) (H:Hp):In:=mH [] H o.hp (llen o.hp) (mV [] o.z z ⟨⟨[],[]⟩,[],[],[]⟩)
noncomputable def allLt (n:Nat) (p:Nat→Bool):Bool:=Nat.rec (motive:=fun _=>Bool) true (fun i ih=>bif p i then ih else false) n
theorem allLt_ok {n:Nat} {p:Nat→Bool} (h:allLt n p=true):∀ i,i < n→p i=true:=by
 induction n with
 | zero=>intro i hi;omega
 | succ n ih=>
   intro i hi
   have h':(bif p n then allLt n p else false)=true:=h
   rw [cond_true_iff] at h'
   rcases Nat.lt_or_ge i n with hlt | hge
   ·exact ih h'.2 i hlt
   ·have:i=n:=by omega
    subst this;exact h'.1
noncomputable def finK (cc:Cc) (o:Out) (H:Hp) (I:In):Bool:=
 bif I.chk cc H then (bif isEm I.s.i then (bif isEm I.s.b then (bif isEm I.km then (bif ltAll o.nb (keys o.hp) then (bif lall (fun i=>lmem (keys o.hp) i) (keys I.bm) then (bif ltAll o.nd (keys I.dm) then (bif nodup (bmL I o.hp) then
  (bif allLt o.nd (fun i=>lmem (keys I.dm) i) then lmem H.phis 0 else false) else false) else false) else false) else false) else false) else false) else false) else false
noncomputable def finOf (cc:Cc) (o:Out) (z:SV) (H:Hp) (I:In):Option (List Ob):=
 bif finK cc o H I then oapp (match SV.ins I o.z with | some z'=>SV.cmp z' z | none=>none) (oapp (hpCmp cc H I o.hp) (fcOb cc H I o.fs)) else none
noncomputable def Out.plain (o:Out):Bool:=lall (fun p=>match p.2 with | .loop _ _ _ _ _ _ _ _ _=>false | _=>true) o.hp
section
variable {cc:Cc} {C:Ct} {hc:Nat→Option Obj} {w0:World} {cs:List Frame} {ρ:Dyn} {f:Fr} {fs:List Fr} {H:Hp} {w:World} {I:In}
theorem sta_nil (h1:isEm I.s.i=true) (h2:isEm I.s.b=true) (h3:isEm I.km=true) (σ:Sta) (ρ:Dyn):I.sta σ ρ=σ:=by
 obtain ⟨⟨si,sb⟩,bm,dm,km⟩:=I
 cases si with
 | cons=>cases h1
 | nil=>
   cases sb with
   | cons=>cases h2
   | nil=>
     cases km with
     | cons=>cases h3
     | nil=>rfl
theorem fin_ok (hcc:cc.Ok C) (hb:C.Base w0) {o:Out} {z:SV} {u:Value} {L:List Ob} (h:finOf cc o z H I=some L) (hcd:lmap (fun p=>cdA H I p.1) o.hp=lmap (fun p=>p.2.code) o.hp) (hh:HpRel C hc w0 ρ H w) (hz:z.Is C.σ ρ u) :
  I.Def C.σ ρ∧(Obs C.σ ρ L→OutIs C.σ w0 w u o∧Below w0.heap.size w0 w):=by
 unfold finOf at h
 cases hk:finK cc o H I with
 | false=>rw [hk] at h;cases h
 | true=>
   rw [hk] at h
   simp only [cond_true] at h
   unfold finK at hk
   simp only [cond_true_iff] at hk
   obtain ⟨k0,n1,n2,n3,k1,k2,k3,k4,k6,k5⟩:=hk
   have hI:=In.chk_ok hcc hh k0
   refine ⟨hI,fun hL=>?_⟩
   have hσ:=sta_nil n1 n2 n3 C.σ ρ
   obtain ⟨L1,L',e1,h,o1,hL⟩:=oapp_ok h hL
   obtain ⟨L2,L3,e2,e3,o2,o3⟩:=oapp_ok h hL
   simp only [lmap_eq] at hcd
   have hhp:=hpCmp_ok hcc hh hI e2 o2 hcd.symm
   have bl_of:∀ i b,(I.dyn C.σ ρ).bl i=some b→∃ j,get I.bm i=some j∧ρ.bl j=some b:=by
    intro i b e
    have e':(get I.bm i).bind ρ.bl=some b:=e
    exact Option.bind_eq_some_iff.1 e'
   have h0:=lmem_iff.1 k5
   refine ⟨⟨I.dyn C.σ ρ,fun p hp=>?_,fun i bk hm=>?_,fun i i' bk bk' b m1 m2 b1 b2=>?_,fun i b e=>?_,fun i n e=>?_,fun i hi=>?_,fun _=>rfl,?_⟩,below_of hb hh h0⟩
   ·have:=fcOb_ok hcc hh hI e3 o3 p hp
    rwa [hσ] at this
   ·obtain ⟨q1,j,zz,b,ob,r1,r2,r3,r4,r5,r6⟩:=hhp i bk hm
    rw [hσ] at r6
    exact ⟨q1,b,ob,by show (get I.bm i).bind ρ.bl=some b;rw [r1];exact r4,r5,r6⟩
   ·obtain ⟨_,j,zz,bb,ob,r1,r2,r3,r4,r5,r6⟩:=hhp i bk m1
    obtain ⟨_,j',zz',bb',ob',r1',r2',r3',r4',r5',r6'⟩:=hhp i' bk' m2
    obtain ⟨k,t1,t2⟩:=bl_of i b b1
    rw [r1] at t1;cases t1
    obtain ⟨k',t1',t2'⟩:=bl_of i' b b2
    rw [r1'] at t1';cases t1'
    have:=hh.inj j j' zz zz' b r2 r3 r2' r3' t2 t2'
    subst this
    exact bm_inj k4 i i' bk bk' j m1 m2 r1 r1'
   ·obtain ⟨j,t1,t2⟩:=bl_of i b e
    have hkey:=lmem_iff.1 (lall_iff.1 k2 i (get_key t1))
    have hmem:∃ bk,(i,bk)∈o.hp:=by
     unfold keys at hkey
     rw [lmap_eq] at hkey
     obtain ⟨⟨i',bk⟩,hm,he⟩:=List.mem_map.1 hkey
     cases he
     exact ⟨bk,hm⟩
    obtain ⟨bk,hm⟩:=hmem
    obtain ⟨_,j',zz,bb,ob,r1,r2,r3,r4,r5,r6⟩:=hhp i bk hm
    rw [t1] at r1;cases r1
    refine ⟨ltAll_ok k1 i hkey,?_,hh.lt _ b t2⟩
    rcases Nat.lt_or_ge b w0.heap.size with hlt | hge
    ·have hp0:=(hb ρ _).1 (hh.phis 0 h0) b _ (Array.getElem?_eq_getElem hlt)
     exact absurd ⟨j,zz,r2,r3,t2⟩ hp0.2.2
    ·exact hge
   ·have e':(get I.dm i).bind (fun e=>(e.den C.σ ρ).bind toN)=some n:=e
    obtain ⟨x,hx,_⟩:=Option.bind_eq_some_iff.1 e'
    exact ltAll_ok k3 i (get_key hx)
   ·have hkey:=lmem_iff.1 (allLt_ok k6 i hi)
    have hget:∃ e,get I.dm i=some e:=by
     cases hg:get I.dm i with
     | some e=>exact ⟨e,rfl⟩
     | none=>
       have:∀ l:List (Nat×SI),i∈keys l→get l i≠none:=by
        intro l
        induction l with
        | nil=>intro hm;cases hm
        | cons p l ih=>
          intro hm
          rw [get_cons]
          split
          ·simp
          ·rename_i hne
           refine ih ?_
           have hm':i∈p.1::keys l:=hm
           rcases List.mem_cons.1 hm' with e | hm'
           ·exact absurd e.symm hne
           ·exact hm'
       exact absurd hg (this _ hkey)
    obtain ⟨e,he⟩:=hget
    obtain ⟨n,hn⟩:=hI.d i e he
    refine ⟨n,?_⟩
    show (get I.dm i).bind (fun e=>(e.den C.σ ρ).bind toN)=some n
    rw [he];simp [hn,toN]
   ·split at e1
    ·rename_i z' hz'
     have:=SV.cmp_ok z' z L1 u e1 o1 hz
     have:=(SV.ins_is hI o.z z' u hz').1 this
     rwa [hσ] at this
    ·cases e1
end
inductive Lf where
 | fin (F:List (SB×Bool)) (k:Nat) (I:In) (obs:List Ob) (cd:List (Option (Option Code×Array Tmp×Code×Code)))
 | cut (F:List (SB×Bool)) (k:Nat) (I:In) (obs:List Ob) (sh:Sh)
 | bad (F:List (SB×Bool))
noncomputable def ridC (c:Code):Nat:=
 Code.rec (motive:=fun _=>Nat) 0 (fun id _ _=>Nat.succ id) (fun _ _ a b=>bif Nat.beq a 0 then b else a) (fun _ _ _ a b=>bif Nat.beq a 0 then b else a) (fun _ _ a=>a) (fun _ a=>a) (fun _ _ _ _ a b=>bif Nat.beq a 0 then b else a) (fun _=>0) (fun _ a=>a) (fun _=>0) (fun _=>0) 0 (fun _=>0) c
noncomputable def tdId (l:List It):Nat:=match l with | .code c::_=>ridC c | .inLoop c::_=>ridC c | _=>0
noncomputable def cutM (cc:Cc) (f:Fr) (fs:List Fr) (H:Hp) (Ts:List Tm):Nat→Option Lf:=
 List.rec (motive:=fun _=>Nat→Option Lf) (fun _=>none) (fun T _ ih k=>
  bif Nat.beq T.f.fn f.fn && (Nat.beq (llen T.fs) (llen fs) && (Nat.beq (llen T.f.todo) (llen f.todo) && Nat.beq (tdId T.f.todo) (tdId f.todo))) then
   (match instOf cc T f fs H (mTm T f fs H) with
   | some L=>some (.cut H.facts k (mTm T f fs H) L (shA T (mTm T f fs H) f fs H))
   | none=>ih (Nat.succ k)) else ih (Nat.succ k)) Ts
noncomputable def outNo (cc:Cc) (H:Hp) (l:List (SB×Bool)):Bool:=
 List.rec (motive:=fun _=>Bool) false (fun p _ ih=>match dec (bdOf cc H) H.facts p.1 with | .yes b=>bif b then (bif p.2 then ih else true) else (bif p.2 then true else ih) | .ask _=>ih) l
def ciNe (x y:SI):Bool:=match x,y with | .c a,.c b=>!ieq a b | _,_=>false
def cbNe (x y:SB):Bool:=match x,y with | .c a,.c b=>bif a then !b else b | _,_=>false
mutual
noncomputable def SV.clash:SV→SV→Bool
 | .it _ x,.it _ y=>ciNe x y
 | .bo p,.bo q=>cbNe p q
 | .tp l,.tp l'=>SV.clashL l l'
 | .ag l,.ag l'=>SV.clashL l l'
 | _,_=>false
noncomputable def SV.clashL:List SV→List SV→Bool
 | a::l,b::l'=>bif SV.clash a b then true else SV.clashL l l'
 | _,_=>false
end
noncomputable def finMc (ck:Bool) (cc:Cc) (z:SV) (H:Hp) (os:List Out):Nat→Option Lf:=
 List.rec (motive:=fun _=>Nat→Option Lf) (fun _=>none) (fun o _ ih k=>match (bif (bif ck then SV.clash o.z z else false) then none else bif outNo cc H o.cs then none else finOf cc o z H (finI o z H)) with
  | some L=>some (.fin H.facts k (finI o z H) L (lmap (fun p=>cdA H (finI o z H) p.1) o.hp))
  | none=>ih (Nat.succ k)) os
noncomputable def finM (cc:Cc) (z:SV) (H:Hp) (os:List Out) (k:Nat):Option Lf:=
 match finMc true cc z H os k with
 | some l=>some l
 | none=>finMc false cc z H os k
noncomputable def Tr.lfs (cc:Cc) (Ts:List Tm) (os:List Out) (t:Tr):Option (List Lf):=
 Tr.rec (motive:=fun _=>Option (List Lf)) (fun z H=>match finM cc z H os 0 with | some l=>some [l] | none=>none) (fun f fs H=>match cutM cc f fs H Ts 0 with | some l=>some [l] | none=>none)
  (fun _ _ _ a b=>match a,b with | some x,some y=>some (lapp x y) | _,_=>none) (fun _ _ _ H=>some [.bad H.facts]) t
theorem cutM_ok {cc:Cc} {f:Fr} {fs:List Fr} {H:Hp}:∀ {Ts:List Tm} {k:Nat} {l:Lf},cutM cc f fs H Ts k=some l→∃ j T L,Ts[j]? = some T∧l=.cut H.facts (k+j) (mTm T f fs H) L (shA T (mTm T f fs H) f fs H)∧instOf cc T f fs H (mTm T f fs H)=some L
 | [],k,l,h=>by cases h
 | T::Ts,k,l,h=>by
   have h':(bif Nat.beq T.f.fn f.fn && (Nat.beq (llen T.fs) (llen fs) && (Nat.beq (llen T.f.todo) (llen f.todo) && Nat.beq (tdId T.f.todo) (tdId f.todo))) then
    (match instOf cc T f fs H (mTm T f fs H) with
    | some L=>some (.cut H.facts k (mTm T f fs H) L (shA T (mTm T f fs H) f fs H))
    | none=>cutM cc f fs H Ts (Nat.succ k)) else cutM cc f fs H Ts (Nat.succ k))=some l:=h
   have up:cutM cc f fs H Ts (Nat.succ k)=some l→∃ j T' L,(T::Ts)[j]? = some T'∧l=.cut H.facts (k+j) (mTm T' f fs H) L (shA T' (mTm T' f fs H) f fs H)∧instOf cc T' f fs H (mTm T' f fs H)=some L:=fun hu=>by
    obtain ⟨j,T',L,h1,h2,h3⟩:=cutM_ok hu
    exact ⟨j+1,T',L,by simpa using h1,by rw [h2];congr 1;simp only [Nat.succ_eq_add_one];omega,h3⟩
   cases hb:(Nat.beq T.f.fn f.fn && (Nat.beq (llen T.fs) (llen fs) && (Nat.beq (llen T.f.todo) (llen f.todo) && Nat.beq (tdId T.f.todo) (tdId f.todo)))) with
   | false=>rw [hb] at h';exact up h'
   | true=>
     rw [hb] at h'
     simp only [cond_true] at h'
     split at h'
     ·rename_i L hL
      cases h'
      exact ⟨0,T,L,rfl,rfl,hL⟩
     ·exact up h'
theorem finMc_ok {ck:Bool} {cc:Cc} {z:SV} {H:Hp}:∀ {os:List Out} {k:Nat} {l:Lf},finMc ck cc z H os k=some l→∃ j o L,os[j]? = some o∧l=.fin H.facts (k+j) (finI o z H) L (lmap (fun p=>cdA H (finI o z H) p.1) o.hp)∧finOf cc o z H (finI o z H)=some L
 | [],k,l,h=>by cases h
 | o::os,k,l,h=>by
   have h':(match (bif (bif ck then SV.clash o.z z else false) then none else bif outNo cc H o.cs then none else finOf cc o z H (finI o z H)) with
    | some L=>some (.fin H.facts k (finI o z H) L (lmap (fun p=>cdA H (finI o z H) p.1) o.hp))
    | none=>finMc ck cc z H os (Nat.succ k))=some l:=h
   split at h'
   ·rename_i L hL
    cases h'
    refine ⟨0,o,L,rfl,rfl,?_⟩
    cases hq:(bif ck then SV.clash o.z z else false) with
    | true=>rw [hq] at hL;cases hL
    | false=>
    rw [hq,cond_false] at hL
    cases hn:outNo cc H o.cs with
    | true=>rw [hn] at hL;cases hL
    | false=>rw [hn] at hL;exact hL
   ·obtain ⟨j,o',L,h1,h2,h3⟩:=finMc_ok h'
    exact ⟨j+1,o',L,by simpa using h1,by rw [h2];congr 1;simp only [Nat.succ_eq_add_one];omega,h3⟩
theorem finM_ok {cc:Cc} {z:SV} {H:Hp} {os:List Out} {k:Nat} {l:Lf} (h:finM cc z H os k=some l):∃ j o L,os[j]? = some o∧l=.fin H.facts (k+j) (finI o z H) L (lmap (fun p=>cdA H (finI o z H) p.1) o.hp)∧finOf cc o z H (finI o z H)=some L:=by
 unfold finM at h
 split at h
 ·rename_i l' hl;cases h;exact finMc_ok hl
 ·exact finMc_ok h
abbrev FIx:=Nat→Int→Int→Int→Int→Int→Int→Int
abbrev FBx:=Nat→Int→Int→Int→Int→Int→Int→Bool
structure Kv where
 n:Nat→Nat
 s:Nat→ByteArray
def sta (FI:FIx) (FB:FBx) (kv:Kv) (iv:Nat→Int) (bv:Nat→Bool):Sta:=
 { iv,bv,sv:=kv.s,vv:=fun _=>undef,kv:=kv.n,lv:=fun _=>[],op:=fun _ _=>False,fi:=FI,fb:=FB }
structure Cx where
 FI:FIx
 FB:FBx
 kv:Kv
 phi:Nat→(Nat→Obj→Prop)→Prop
 mono:∀ j (U U':Nat→Obj→Prop),(∀ b o,U b o→U' b o)→phi j U→phi j U'
def Cx.ct (X:Cx) (iv:Nat→Int) (bv:Nat→Bool):Ct:={ σ:=sta X.FI X.FB X.kv iv bv,phi:=fun j _ U=>X.phi j U,mono:=fun j _ _ U U' _ h k=>X.mono j U U' h k }
def LfOk (S:(Nat→Int)→(Nat→Bool)→Sta) (Ts:List Tm) (os:List Out) (Inv:Nat→(Nat→Int)→(Nat→Bool)→Prop) (mu:Nat→(Nat→Int)→(Nat→Bool)→Nat) (k:Nat) (iv:Nat→Int) (bv:Nat→Bool):Lf→Prop
 | .bad F=>∀ ρ,Known (S iv bv) ρ F→False
 | .cut F j I obs sh=>(∃ T,Ts[j]? = some T∧sh=shT T I)∧∀ ρ,Known (S iv bv) ρ F→I.Def (S iv bv) ρ→Obs (S iv bv) ρ obs∧Inv j (I.iv (S iv bv) ρ) (I.bv (S iv bv) ρ)∧mu j (I.iv (S iv bv) ρ) (I.bv (S iv bv) ρ) < mu k iv bv
 | .fin F j I obs cd=>(∃ o,os[j]? = some o∧cd=lmap (fun p=>p.2.code) o.hp)∧∀ ρ,Known (S iv bv) ρ F→I.Def (S iv bv) ρ→Obs (S iv bv) ρ obs∧∀ i o,os[i]? = some o→i≠j→(∀ p∈o.cs,p.1.den (S iv bv) dyn0=some p.2)→False
def Agr (na:Nat) (iv0:Nat→Int) (bv0:Nat→Bool) (iv:Nat→Int) (bv:Nat→Bool):Prop:=(∀ j,j < na→iv j=iv0 j)∧(∀ j,j < na→bv j=bv0 j)
theorem cuts_ok {na:Nat} {iv0:Nat→Int} {bv0:Nat→Bool} {X:Cx} {cc:Cc} {E:Ents} {Ts:List Tm} {os:List Out} {Inv:Nat→(Nat→Int)→(Nat→Bool)→Prop} {mu:Nat→(Nat→Int)→(Nat→Bool)→Nat} {w0:World} {hc:Nat→Option Obj} {cs:List Frame} {bot:FuncId×Bool} {R:Value→World→Prop}
  (hbase:∀ U,X.phi 0 U↔∀ b o,w0.heap[b]? = some o→U b o)
  (hvs:∀ T∈Ts,∀ i∈T.vs,na≤i) (hcc:∀ iv bv,Agr na iv0 bv0 iv bv→cc.Ok (X.ct iv bv)) (hE:∀ iv bv,Agr na iv0 bv0 iv bv→EntsOk cc (X.ct iv bv) E)
  {stop:Fr→List Fr→Bool} {N n d:Nat} {L:Nat→List Lf}
  (hL:∀ k T,Ts[k]? = some T→(ex cc E (dw cc E n d) stop N T.f T.fs T.H).lfs cc Ts os=some (L k))
  (hO:∀ k T iv bv,Ts[k]? = some T→Agr na iv0 bv0 iv bv→Inv k iv bv→∀ lf∈L k,LfOk (fun iv bv=>(X.ct iv bv).σ) Ts os Inv mu k iv bv lf)
  (hR:∀ (k:Nat) (iv:Nat→Int) (bv:Nat→Bool) (j:Nat) (o:Out) (u:Value) (w':World),Agr na iv0 bv0 iv bv→Inv k iv bv→os[j]? = some o→OutIs (X.ct iv bv).σ w0 w' u o→Below w0.heap.size w0 w'→(∀ (i:Nat) (o':Out),os[i]? = some o'→i≠j→(∀ p∈o'.cs,p.1.den (X.ct iv bv).σ dyn0=some p.2)→False)→R u w') :
  ∀ (q k:Nat) (T:Tm) (iv:Nat→Int) (bv:Nat→Bool),Ts[k]? = some T→mu k iv bv < q→Agr na iv0 bv0 iv bv→Inv k iv bv→∀ ρ m,Sat (X.ct iv bv) hc w0 cs ρ T.f T.fs T.H m→botOf T.f T.fs=bot→Fin cc.P m cs bot R:=by
 intro q
 induction q with
 | zero=>intro k T iv bv _ h;omega
 | succ q ih=>
   intro k T iv bv hT hmu hagr hinv ρ m hm hbot
   have hcc':=hcc iv bv hagr
   have hE':=hE iv bv hagr
   have hOk:=hO k T iv bv hT hagr hinv
   have hb:(X.ct iv bv).Base w0:=fun _ U=>hbase U
   have hall:∀ (t:Tr) (l:List Lf),t.lfs cc Ts os=some l→(∀ lf∈l,LfOk (fun iv bv=>(X.ct iv bv).σ) Ts os Inv mu k iv bv lf)→
     t.All (X.ct iv bv) hc w0 (fun z H=>∃ l,finM cc z H os 0=some l∧LfOk (fun iv bv=>(X.ct iv bv).σ) Ts os Inv mu k iv bv l) (fun f fs H=>∃ l,cutM cc f fs H Ts 0=some l∧LfOk (fun iv bv=>(X.ct iv bv).σ) Ts os Inv mu k iv bv l):=by
    intro t
    induction t with
    | leaf z H=>
      intro l hl hok
      have hl':(match finM cc z H os 0 with | some l=>some [l] | none=>none)=some l:=hl
      split at hl'
      ·rename_i x hx;cases hl';exact ⟨x,hx,hok x (by simp)⟩
      ·cases hl'
    | cut f fs H=>
      intro l hl hok
      have hl':(match cutM cc f fs H Ts 0 with | some l=>some [l] | none=>none)=some l:=hl
      split at hl'
      ·rename_i x hx;cases hl';exact ⟨x,hx,hok x (by simp)⟩
      ·cases hl'
    | fork p a b ha hb=>
      intro l hl hok
      have hl':(match a.lfs cc Ts os,b.lfs cc Ts os with | some x,some y=>some (lapp x y) | _,_=>none)=some l:=hl
      split at hl'
      ·rename_i x y hx hy
       cases hl'
       rw [lapp_eq] at hok
       exact ⟨ha x hx fun lf h=>hok lf (List.mem_append_left _ h),hb y hy fun lf h=>hok lf (List.mem_append_right _ h)⟩
      ·cases hl'
    | bad why f fs H=>
      intro l hl hok
      cases hl
      intro ρ w hh
      exact hok (.bad H.facts) (by simp) ρ hh.facts
   refine ex_ok hcc' hE' (dw_ok hcc' hE' n d) (R:=R) (ρ0:=ρ) (H0:=T.H) (W0:=m.world) ?_ ?_ N T.f T.fs T.H ρ m hm (Tn.refl _ _ _) hbot (hall _ _ (hL k T hT) hOk)
   ·rintro z H ρ' u w' ⟨l,hl,hok⟩ hz hh _
    obtain ⟨j,o,Lo,h1,rfl,h3⟩:=finM_ok hl
    obtain ⟨⟨o',h4,h5⟩,h6⟩:=hok
    have hj:0+j=j:=by omega
    rw [hj] at h4
    rw [h1] at h4;cases h4
    obtain ⟨g1,g2⟩:=fin_ok hcc' hb h3 h5 hh hz
    obtain ⟨g3,g4⟩:=h6 ρ' hh.facts g1
    obtain ⟨g5,g6⟩:=g2 g3
    exact hR k iv bv j o u w' hagr hinv h1 g5 g6 (by rw [hj] at g4;exact g4)
   ·rintro f fs H ρ' m' ⟨l,hl,hok⟩ hsat _ hbot'
    obtain ⟨j,T',Lo,h1,rfl,h3⟩:=cutM_ok hl
    obtain ⟨⟨T2,h4,h5⟩,h6⟩:=hok
    have hj:0+j=j:=by omega
    rw [hj] at h4
    rw [h1] at h4;cases h4
    have hk:instK cc T' H (mTm T' f fs H)=true:=by
     cases hk:instK cc T' H (mTm T' f fs H) with
     | true=>rfl
     | false=>unfold instOf at h3;rw [hk] at h3;cases h3
    have hdef:(mTm T' f fs H).Def (X.ct iv bv).σ ρ':=by
     obtain ⟨fr,frs,w,_,_,_,hh⟩:=hsat
     exact instK_def hcc' hh hk
    have hfacts:Known (X.ct iv bv).σ ρ' H.facts:=by
     obtain ⟨fr,frs,w,_,_,_,hh⟩:=hsat
     exact hh.facts
    obtain ⟨g1,g2,g3⟩:=h6 ρ' hfacts hdef
    have hk2:=hk
    unfold instK at hk2
    simp only [cond_true_iff] at hk2
    obtain ⟨_,_,_,_,_,_,g0,v1,v2⟩:=hk2
    rw [hj] at g2 g3
    dsimp only at g2 g3
    have hsta:(X.ct ((mTm T' f fs H).iv (X.ct iv bv).σ ρ') ((mTm T' f fs H).bv (X.ct iv bv).σ ρ')).σ=(mTm T' f fs H).sta (X.ct iv bv).σ ρ':=by
     have hkv:(mTm T' f fs H).kv (X.ct iv bv).σ ρ'=X.kv.n:=by
      generalize mTm T' f fs H=I at g0
      obtain ⟨s,bm,dm,km⟩:=I
      cases km with
      | cons=>cases g0
      | nil=>rfl
     show sta X.FI X.FB X.kv _ _=In.sta _ _ _
     unfold In.sta
     rw [hkv];rfl
    obtain ⟨g4,g5⟩:=inst_ok (C':=X.ct ((mTm T' f fs H).iv (X.ct iv bv).σ ρ') ((mTm T' f fs H).bv (X.ct iv bv).σ ρ')) hcc' hsta (fun j _ U U' hU h=>X.mono j U U' hU h) h3 h5 hsat g1
    have hagr':Agr na iv0 bv0 ((mTm T' f fs H).iv (X.ct iv bv).σ ρ') ((mTm T' f fs H).bv (X.ct iv bv).σ ρ'):=by
     have hm':=List.mem_of_getElem? h1
     refine ⟨fun i hi=>?_,fun i hi=>?_⟩
     ·rw [← hagr.1 i hi]
      unfold In.iv
      cases hg:get (mTm T' f fs H).s.i i with
      | none=>rfl
      | some e=>
        have:=hvs T' hm' i (lmem_iff.1 (lall_iff.1 v1 _ (get_mem hg)))
        omega
     ·rw [← hagr.2 i hi]
      unfold In.bv
      cases hg:get (mTm T' f fs H).s.b i with
      | none=>rfl
      | some e=>
        have:=hvs T' hm' i (lmem_iff.1 (lall_iff.1 v2 _ (get_mem hg)))
        omega
    exact ih j T' _ _ h1 (by omega) hagr' g2 _ _ g4 (g5.trans hbot')
end Go.Sx
