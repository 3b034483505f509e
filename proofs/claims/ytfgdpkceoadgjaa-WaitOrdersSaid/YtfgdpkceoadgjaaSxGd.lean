/- A symbolic executor: append, where a length is a variable. -/
import Derived.Test.YtfgdpkceoadgjaaSxGc
namespace Go.Sx
set_option linter.unusedSectionVars false
set_option linter.unusedVariables false
set_option linter.unusedSimpArgs false
open Go.RowKit
section
variable {cc:Cc} {C:Ct} {hc:Nat→Option Obj} {w0:World} {ρ:Dyn} {H:Hp} {w:World}
inductive Src where
 | ex (l:List SV) (m:Nat)
 | vw (c j m:SI)
 | ask (p:SB)
 | no
noncomputable def srcB (cc:Cc) (H:Hp) (lay:List Kd) (x:SV):Src:=
 match srcA cc H (llen lay) x with
 | some (l,m)=>bif lall SV.one l then .ex l m else .no
 | none=>match viewA cc H lay x with
   | .ok c j m=>.vw c j m
   | .ask p=>.ask p
   | .no=>.no
def Src.len:Src→SI
 | .ex _ m=>.c (.ofNat m)
 | .vw _ _ m=>m
 | _=>.c 0
def Src.Is (cc:Cc) (C:Ct) (ρ:Dyn) (lay:List Kd) (us:List Value) (mv:Nat):Src→Prop
 | .ex l m=>SV.IsL C.σ ρ l us∧m=mv
 | .vw c j m=>∃ cv jv,c.den C.σ ρ=some cv∧j.den C.σ ρ=some (Int.ofNat jv)∧m.den C.σ ρ=some (Int.ofNat mv)∧∀ i,i < mv→∀ f κ,lay[f]? = some κ→us[i * lay.length+f]? = some (κ.val C.σ cv (jv+i) f)
 | _=>False
theorem Src.len_den {lay:List Kd} {us:List Value} {mv:Nat} {s:Src} (h:s.Is cc C ρ lay us mv):s.len.den C.σ ρ=some (Int.ofNat mv):=by
 cases s with
 | ex l m=>obtain ⟨_,rfl⟩:=h;rfl
 | vw c j m=>obtain ⟨_,_,_,_,h,_⟩:=h;exact h
 | ask p=>exact h.elim
 | no=>exact h.elim
theorem srcB_ok (hcc:cc.Ok C) (h:HpRel C hc w0 ρ H w) {lay:List Kd} (hlay:0 < lay.length) {x:SV} {u:Value} (hx:x.Is C.σ ρ u) :
  match srcB cc H lay x with
  | .ask p=>∃ b,p.den C.σ ρ=some b
  | .no=>True
  | s=>∃ a cap mv us,u=.slice a mv cap∧s.Is cc C ρ lay us mv∧us.length=mv * lay.length∧(∀ v∈us,v.oneCell'=true)∧∀ w2:World,w2.heap=w.heap→(Builtin.firstCells lay.length mv (.slice a mv cap)).run cc.P w2=.ok us.toArray w2:=by
 unfold srcB
 cases hs:srcA cc H (llen lay) x with
 | some p=>
   obtain ⟨l,m⟩:=p
   dsimp only
   cases ho:lall SV.one l with
   | false=>trivial
   | true=>
     obtain ⟨a,c,us,rfl,h1,h2,h3⟩:=srcA_ok hcc h hx hs
     rw [llen_eq] at h2 h3
     exact ⟨a,c,m,us,rfl,⟨h1,rfl⟩,h2,SV.all_one h1 ho,h3⟩
 | none=>
   dsimp only
   have:=viewA_ok hcc h hlay hx
   cases hv:viewA cc H lay x with
   | no=>trivial
   | ask p=>rw [hv] at this;exact this
   | ok c j m=>
     rw [hv] at this
     obtain ⟨a,cap,mv,cv,jv,us,rfl,h1,h2,h3,h4,h5,_,h6⟩:=this
     exact ⟨a,cap,mv,us,rfl,⟨cv,jv,h1,h2,h3,h5⟩,h4,VwOk.one h4 h5 hlay,h6⟩
noncomputable def baseC (c j n:SI):SI:=match j with | .c 0=>c | _=>.ap 9 (.c 0) (.c 0) c j n (.c 0)
theorem baseC_ok (hcc:cc.Ok C) {c j n:SI} {cv:Int} {jv nv:Nat} (h1:c.den C.σ ρ=some cv) (h2:j.den C.σ ρ=some (Int.ofNat jv)) (h3:n.den C.σ ρ=some (Int.ofNat nv)) :
  ∃ bv,(baseC c j n).den C.σ ρ=some bv∧∀ i,i < nv→∀ (κ:Kd) (f:Nat),κ.val C.σ bv i f=κ.val C.σ cv (jv+i) f:=by
 unfold baseC
 split
 ·simp only [SI.den,Option.some.injEq] at h2
  have:jv=0:=by
   have h2:(0:Int)=jv:=h2
   omega
  subst this
  exact ⟨cv,h1,fun i _ κ f=>by rw [Nat.zero_add]⟩
 ·refine ⟨C.σ.fi 9 0 0 cv jv nv 0,by simp [SI.den,h1,h2,h3],fun i hi κ f=>?_⟩
  have:=hcc.al.b κ 0 0 cv jv nv i f
  have e:((0:Nat):Int)=0:=rfl
  rw [e] at this
  rw [this,if_pos (by omega)]
  congr 1
noncomputable def catB (cc:Cc) (H:Hp) (lay:List Kd) (b n:SI) (s:Src):SetR:=
 match s with
 | .ex l _=>setsA cc H lay l b n 0
 | .vw c j m=>match n,j with
   | .c 0,.c 0=>.ok c
   | n,j=>.ok (.ap 9 b n c j m (.c 0))
 | .ask p=>.ask p
 | .no=>.no
theorem catB_ok (hcc:cc.Ok C) (h:HpRel C hc w0 ρ H w) {lay:List Kd} (hlay:0 < lay.length) {b n c':SI} {bv:Int} {nv mv:Nat} {us:List Value} {s:Src} (h1:b.den C.σ ρ=some bv) (h2:n.den C.σ ρ=some (Int.ofNat nv)) (hs:s.Is cc C ρ lay us mv) (hlen:us.length=mv * lay.length) (hc':catB cc H lay b n s=.ok c') :
  ∃ cv',c'.den C.σ ρ=some cv'∧∀ i,i < nv+mv→∀ f κ,lay[f]? = some κ→some (κ.val C.σ cv' i f)=if i < nv then some (κ.val C.σ bv i f) else us[(i - nv) * lay.length+f]? := by
 cases s with
 | ask p=>exact hs.elim
 | no=>exact hs.elim
 | ex l m=>
   obtain ⟨hs,rfl⟩:=hs
   obtain ⟨cv',g1,g2⟩:=setsA_ok hcc h hs h1 h2 hlay hc'
   refine ⟨cv',g1,fun i hi f κ hκ=>?_⟩
   have hf:f < lay.length:=(List.getElem?_eq_some_iff.1 hκ).1
   rw [g2 i f κ hκ]
   simp only [Nat.add_zero,hlen]
   by_cases hin:i < nv
   ·have:(i+1) * lay.length≤nv * lay.length:=Nat.mul_le_mul_right _ hin
    rw [Nat.add_mul] at this
    rw [if_pos hin,if_neg (by omega)]
   ·obtain ⟨q,rfl⟩:∃ q,i=nv+q:=⟨i - nv,by omega⟩
    have:(q+1) * lay.length≤m * lay.length:=Nat.mul_le_mul_right _ (by omega)
    rw [Nat.add_mul] at this ⊢
    rw [if_neg hin,if_pos (by omega)]
    have e1:nv * lay.length+q * lay.length+f - nv * lay.length=q * lay.length+f:=by omega
    have e2:nv+q - nv=q:=by omega
    rw [e1,e2]
    have hlt:q * lay.length+f < us.length:=by omega
    rw [List.getElem?_eq_getElem hlt,List.getD_eq_getElem?_getD,List.getElem?_eq_getElem hlt];rfl
 | vw c j m=>
   obtain ⟨cv,jv,g1,g2,g3,g4⟩:=hs
   have gen:∀ c'',c''=SI.ap 9 b n c j m (.c 0)→∃ cv',c''.den C.σ ρ=some cv'∧∀ i,i < nv+mv→∀ f κ,lay[f]? = some κ→some (κ.val C.σ cv' i f)=if i < nv then some (κ.val C.σ bv i f) else us[(i - nv) * lay.length+f]? := by
    intro c'' e
    subst e
    refine ⟨C.σ.fi 9 bv nv cv jv mv 0,by simp [SI.den,h1,h2,g1,g2,g3],fun i hi f κ hκ=>?_⟩
    rw [hcc.al.b]
    by_cases hin:i < nv
    ·rw [if_pos hin,if_neg (by omega)]
    ·rw [if_neg hin,if_pos (by omega),g4 (i - nv) (by omega) f κ hκ]
   have hc'':(match n,j with
    | .c 0,.c 0=>SetR.ok c
    | n,j=>.ok (.ap 9 b n c j m (.c 0)))=.ok c':=hc'
   split at hc''
   ·cases hc''
    simp only [SI.den,Option.some.injEq] at h2 g2
    have e1:nv=0:=by
     have h2:(0:Int)=nv:=h2
     omega
    have e2:jv=0:=by
     have g2:(0:Int)=jv:=g2
     omega
    subst e1 e2
    refine ⟨cv,g1,fun i hi f κ hκ=>?_⟩
    rw [if_neg (by omega),g4 (i - 0) (by omega) f κ hκ]
    simp
   ·cases hc''
    exact gen _ rfl
theorem catB_ask (hcc:cc.Ok C) (h:HpRel C hc w0 ρ H w) {lay:List Kd} {b n:SI} {mv:Nat} {us:List Value} {s:Src} {q:SB} (hs:s.Is cc C ρ lay us mv) (hc':catB cc H lay b n s=.ask q):∃ b,q.den C.σ ρ=some b:=by
 cases s with
 | ask p=>exact hs.elim
 | no=>exact hs.elim
 | ex l m=>exact setsA_ask hcc h hs.1 hc'
 | vw c j m=>
   have hc'':(match n,j with
    | .c 0,.c 0=>SetR.ok c
    | n,j=>.ok (.ap 9 b n c j m (.c 0)))=.ask q:=hc'
   split at hc''<;>cases hc''
noncomputable def growB (H:Hp) (e:TypeId) (lay:List Kd) (c tot:SI):OpR:=
 .val (.sl (.n H.nb) (.c 0) tot (.d H.nd)) ((H.num tot).alloc (.arr lay c tot e (.d H.nd)))
theorem growB_ok (h:HpRel C hc w0 ρ H w) {e:TypeId} {lay:List Kd} {c tot:SI} {cv:Int} {nt cap:Nat} {A:Array Value} {s:Sem Value} (h1:c.den C.σ ρ=some cv) (h2:tot.den C.σ ρ=some (Int.ofNat nt)) (hcap:nt≤cap) (hA:A.size=cap * lay.length) (hAr:ArIs C.σ lay cv nt 0 (fun i=>A[i]?))
  (hs:s.run cc.P w=.ok (.slice (some ⟨w.heap.size,0,none⟩) nt cap) (w.drew.alloc (.cells A e))):(growB H e lay c tot).Ok cc C hc w0 ρ H w (do pure (.value (← s))):=by
 have h3:=(h.drew).num (lo:=tot) (n:=cap) (k:=nt) h2 hcap
 have hle:ρ.Le ((ρ.setDi H.nd cap).setBl H.nb w.heap.size):=(Dyn.le_setDi (h.fd _ (Nat.le_refl _))).trans (Dyn.le_setBl (h.fb _ (Nat.le_refl _)))
 have hd:(SI.d H.nd).den C.σ ((ρ.setDi H.nd cap).setBl H.nb w.heap.size)=some (Int.ofNat cap):=by
  show ((ρ.setDi H.nd cap).di H.nd).map Int.ofNat=_
  rw [Dyn.setDi_same];rfl
 have hb:(Bk.arr lay c tot e (.d H.nd)).Is C.σ ((ρ.setDi H.nd cap).setBl H.nb w.heap.size) (.cells A e):=
  ⟨cv,nt,cap,A,SI.den_mono hle _ _ h1,SI.den_mono hle _ _ h2,hd,hcap,hA,hAr,rfl⟩
 have h4:=h3.alloc' (bk:=.arr lay c tot e (.d H.nd)) hb
 refine ⟨_,_,.slice (some ⟨w.heap.size,0,none⟩) nt cap,_,(Tn.of_below ((Below.refl _ w).drew)).trans ((Tn.of_num ρ H w.drew _ _).trans (Tn.of_alloc _ _ w.drew _ _)),by simp [hs],.inl rfl,?_,h4⟩
 simp only [SV.Is,SR.den]
 exact ⟨w.heap.size,0,nt,cap,Dyn.setBl_same _ _ _,rfl,SI.den_mono hle _ _ h2,hd,rfl⟩
noncomputable def ownA (H:Hp) (e:TypeId) (lay:List Kd) (r:SR) (o cap:SI):Option Nat:=
 match r,o with
 | .n id,.c 0=>match get H.heap id with
   | some (.arr lay' _ _ t cp)=>bif Nat.beq t e && (layEq lay lay' && cp.beq cap) then some id else none
   | some (.row none _ t cp sz)=>bif Nat.beq t e && (Nat.beq sz (llen lay) && cp.beq cap) then some id else none
   | some (.cells l t)=>match cap with
     | .c (.ofNat k)=>bif Nat.beq t e && Nat.beq (llen l) (Nat.mul k (llen lay)) then some id else none
     | _=>none
   | _=>none
 | _,_=>none
theorem ownA_ok (h:HpRel C hc w0 ρ H w) {e:TypeId} {lay:List Kd} {r:SR} {o cap:SI} {id:Nat} {b k capv:Nat} (hr:r.den C.σ ρ=some b) (ho:o.den C.σ ρ=some (Int.ofNat k)) (hcap:cap.den C.σ ρ=some (Int.ofNat capv)) (hown:ownA H e lay r o cap=some id) :
  ∃ bk,∃ A:Array Value,get H.heap id=some bk∧bk.live=true∧ρ.bl id=some b∧k=0∧w.heap[b]? = some (.cells A e (0,0))∧A.size=capv * lay.length:=by
 unfold ownA at hown
 split at hown
 ·rename_i id'
  simp only [SI.den,Option.some.injEq] at ho
  have hk:k=0:=by
   have ho:(0:Int)=k:=ho
   omega
  split at hown
  ·rename_i lay' c n t cp hg
   cases hb:(Nat.beq t e && (layEq lay lay' && cp.beq cap)) with
   | false=>rw [hb] at hown;cases hown
   | true=>
     rw [hb] at hown;cases hown
     simp only [Bool.and_eq_true] at hb
     have:=Nat.eq_of_beq_eq_true hb.1;subst this
     have:=layEq_eq hb.2.1;subst this
     have:=SI.beq_eq hb.2.2;subst this
     obtain ⟨b',o',e1,e2,cv,nv,cpv,A,h1,h2,h3,h4,h5,h6,rfl⟩:=h.blk id _ hg rfl
     have:b'=b:=by simp only [SR.den] at hr;rw [e1] at hr;exact Option.some.inj hr
     subst this
     rw [hcap] at h3
     have:capv=cpv:=by injection h3 with h3;injection h3
     subst this
     exact ⟨_,A,hg,rfl,e1,hk,e2,h5⟩
  ·rename_i l t cp sz hg
   cases hb:(Nat.beq t e && (Nat.beq sz (llen lay) && cp.beq cap)) with
   | false=>rw [hb] at hown;cases hown
   | true=>
     rw [hb] at hown;cases hown
     simp only [Bool.and_eq_true] at hb
     have:=Nat.eq_of_beq_eq_true hb.1;subst this
     have hsz:=Nat.eq_of_beq_eq_true hb.2.1
     rw [llen_eq] at hsz
     have:=SI.beq_eq hb.2.2;subst this
     obtain ⟨b',o',e1,e2,us,sp,nn,e3,e4,e5,rfl⟩:=h.blk id _ hg rfl
     have:b'=b:=by simp only [SR.den] at hr;rw [e1] at hr;exact Option.some.inj hr
     subst this
     rw [hcap] at e4
     have:capv=nn:=by injection e4 with e4;injection e4
     subst this
     refine ⟨_,_,hg,rfl,e1,hk,e2,?_⟩
     rw [← hsz,← e5];simp [preL]
  ·rename_i l t hg
   split at hown
   ·rename_i kk
    cases hb:(Nat.beq t e && Nat.beq (llen l) (Nat.mul kk (llen lay))) with
    | false=>rw [hb] at hown;cases hown
    | true=>
      rw [hb] at hown;cases hown
      simp only [Bool.and_eq_true] at hb
      have:=Nat.eq_of_beq_eq_true hb.1;subst this
      have hl:=Nat.eq_of_beq_eq_true hb.2
      rw [llen_eq,llen_eq] at hl
      obtain ⟨b',o',e1,e2,us,e3,rfl⟩:=h.blk id _ hg rfl
      have:b'=b:=by simp only [SR.den] at hr;rw [e1] at hr;exact Option.some.inj hr
      subst this
      simp only [SI.den,Option.some.injEq] at hcap
      have:kk=capv:=by injection hcap
      subst this
      refine ⟨_,_,hg,rfl,e1,hk,e2,?_⟩
      simp only [List.size_toArray,SV.isL_length e3];exact hl
   ·cases hown
  ·cases hown
 ·cases hown
noncomputable def fitsB (cc:Cc) (H:Hp) (tot:SI) (bytes:Nat):Bool:=
 bif (match (rg (bdOf cc H) tot).2 with | some (.ofNat n)=>fitsA n 0 bytes | _=>false) then true else
  bif fitsA 16777216 0 bytes then (match dec (bdOf cc H) H.facts (.le tot (.c 16777216)) with | .yes b=>b | .ask _=>false) else false
theorem fitsB_ok (hcc:cc.Ok C) (h:HpRel C hc w0 ρ H w) {tot:SI} {nt bytes:Nat} (ht:tot.den C.σ ρ=some (Int.ofNat nt)) (hf:fitsB cc H tot bytes=true):nt≤9223372036854775807∧nt * bytes≤140737488355328:=by
 unfold fitsB at hf
 have hin:=rg_ok (bdOf_ok hcc h) tot _ ht
 have fin:∀ n:Nat,fitsA n 0 bytes=true→nt≤n→nt≤9223372036854775807∧nt * bytes≤140737488355328:=fun n hf hle=>by
  obtain ⟨f1,f2⟩:=fitsA_ok hf
  exact ⟨by omega,Nat.le_trans (Nat.mul_le_mul_right _ (by omega)) f2⟩
 cases h1:(match (rg (bdOf cc H) tot).2 with | some (.ofNat n)=>fitsA n 0 bytes | _=>false) with
 | true=>
   split at h1
   ·rename_i n hn
    exact fin n h1 (Int.ofNat_le.1 (hin.2 _ hn))
   ·cases h1
 | false=>
   rw [h1,cond_false] at hf
   cases h2:fitsA 16777216 0 bytes with
   | false=>rw [h2] at hf;cases hf
   | true=>
     rw [h2,cond_true] at hf
     split at hf
     ·rename_i b hd
      subst hf
      have hle:(SB.le tot (.c 16777216)).den C.σ ρ=some (decide ((Int.ofNat nt)≤16777216)):=by simp [SB.den,SI.den,ht]
      have:=dec_ok (bdOf_ok hcc h) h.facts hle hd
      have:(Int.ofNat nt)≤16777216:=by simpa using this.symm
      have:(nt:Int)≤16777216:=this
      exact fin _ h2 (by omega)
     ·cases hf
noncomputable def catV (cc:Cc) (H:Hp) (lay:List Kd) (s:SV) (src:Src) (r:SI→OpR):OpR:=
 match viewA cc H lay s with
 | .ok c j n=>match catB cc H lay (baseC c j n) n src with
   | .ok c'=>r c'
   | .ask p=>.ask p
   | .no=>.bad 330
 | .ask p=>.ask p
 | .no=>.bad 331
noncomputable def lenA (s:SV):SI:=match s with | .sl _ _ n _=>n | _=>.c 0
noncomputable def appA1 (cc:Cc) (H:Hp) (e:TypeId) (lay:List Kd) (s:SV) (src:Src) (tot:SI):OpR:=
 match s with
 | .sn=>match dec (bdOf cc H) H.facts (.eq src.len (.c 0)) with
   | .yes true=>.val .sn H
   | .yes false=>catV cc H lay s src fun c=>growB H e lay c tot
   | .ask p=>.ask p
 | .sl r o n cap=>match ownA H e lay r o cap with
   | some id=>match dec (bdOf cc H) H.facts (.le tot cap) with
     | .yes true=>catV cc H lay s src fun c=>.val (.sl (.n id) (.c 0) tot cap) (H.put id (.arr lay c tot e cap))
     | _=>catV cc H lay s src fun c=>.val (.sl (.n H.nb) (.c 0) tot (.d H.nd)) (((H.num tot).alloc (.arr lay c tot e (.d H.nd))).put id .gone)
   | none=>match dec (bdOf cc H) H.facts (.le tot cap) with
     | .yes false=>catV cc H lay s src fun c=>growB H e lay c tot
     | .yes true=>need cc H (.eq src.len (.c 0)) 333 (.val (.sl r o n cap) H)
     | .ask p=>.ask p
 | _=>.bad 334
noncomputable def appA (cc:Cc) (H:Hp) (e:TypeId) (lay:List Kd) (bytes:Nat) (s x:SV):OpR:=
 match srcB cc H lay x with
 | .ask p=>.ask p
 | .no=>.bad 332
 | src=>bif fitsB cc H (SI.add (lenA s) src.len) bytes then appA1 cc H e lay s src (SI.add (lenA s) src.len) else .bad 335
theorem firstCells_inj {P:Program} {w w':World} {k n:Nat} {u:Value} {a b:List Value} (h1:(Builtin.firstCells k n u).run P w=.ok a.toArray w') (h2:(Builtin.firstCells k n u).run P w=.ok b.toArray w'):a=b:=by
 rw [h1] at h2
 injection h2 with h2
 exact congrArg Array.toList h2
theorem cat_ar {σ:Sta} {lay:List Kd} {cv' bv sv:Int} {jv nv mv:Nat} {os us rest:List Value} (hos:os.length=nv * lay.length) (hus:us.length=mv * lay.length)
  (h1:∀ i,i < nv→∀ f κ,lay[f]? = some κ→os[i * lay.length+f]? = some (κ.val σ sv (jv+i) f)) (h2:∀ i,i < nv→∀ (κ:Kd) (f:Nat),κ.val σ bv i f=κ.val σ sv (jv+i) f)
  (h3:∀ i,i < nv+mv→∀ f κ,lay[f]? = some κ→some (κ.val σ cv' i f)=if i < nv then some (κ.val σ bv i f) else us[(i - nv) * lay.length+f]?) :
  ArIs σ lay cv' (nv+mv) 0 (fun i=>(os++us++rest)[i]?):=by
 intro i hi f κ hκ
 have hf:f < lay.length:=(List.getElem?_eq_some_iff.1 hκ).1
 dsimp only
 rw [Nat.zero_add,h3 i hi f κ hκ]
 by_cases hin:i < nv
 ·have:(i+1) * lay.length≤nv * lay.length:=Nat.mul_le_mul_right _ hin
  rw [Nat.add_mul] at this
  rw [if_pos hin,h2 i hin κ f,List.append_assoc,List.getElem?_append_left (by omega)]
  exact h1 i hin f κ hκ
 ·obtain ⟨q,rfl⟩:∃ q,i=nv+q:=⟨i - nv,by omega⟩
  have:(q+1) * lay.length≤mv * lay.length:=Nat.mul_le_mul_right _ (by omega)
  rw [Nat.add_mul] at this ⊢
  rw [if_neg hin,List.append_assoc,List.getElem?_append_right (by omega),List.getElem?_append_left (by omega),hos]
  congr 1
  have e2:nv+q - nv=q:=by omega
  rw [e2];omega
theorem appA_ok (hcc:cc.Ok C) (h:HpRel C hc w0 ρ H w) {t ty e:TypeId} {i:TypeInfo} {z:Value} (ht:cc.P.underlying t=some (.slice e)) (hi:cc.P.info? e=some i) (hz:i.zero=some z) (hzs:z.cells.size=i.size) {lay:List Kd} (hlay:0 < lay.length) (hli:lay.length=i.size)
  {s x:SV} {us ux:Value} (hs:s.Is C.σ ρ us) (hx:x.Is C.σ ρ ux):(appA cc H e lay i.bytes s x).Ok cc C hc w0 ρ H w (do pure (.value (← Builtin.append_ #[t,t] ty #[us,ux]))):=by
 have hsrc:=srcB_ok hcc h hlay hx
 unfold appA
 have main:∀ src:Src,(∃ a cap mv vs,ux=.slice a mv cap∧src.Is cc C ρ lay vs mv∧vs.length=mv * lay.length∧(∀ v∈vs,v.oneCell'=true)∧∀ w2:World,w2.heap=w.heap→(Builtin.firstCells lay.length mv (.slice a mv cap)).run cc.P w2=.ok vs.toArray w2)→
   (bif fitsB cc H (SI.add (lenA s) src.len) i.bytes then appA1 cc H e lay s src (SI.add (lenA s) src.len) else OpR.bad 335).Ok cc C hc w0 ρ H w (do pure (.value (← Builtin.append_ #[t,t] ty #[us,ux]))):=by
  rintro src ⟨a,capx,mv,vs,rfl,hsi,hvl,hv1,hfx⟩
  have hm:=Src.len_den hsi
  obtain ⟨tot,htt⟩:∃ tot,tot=SI.add (lenA s) src.len:=⟨_,rfl⟩
  rw [← htt]
  cases hfit:fitsB cc H tot i.bytes with
  | false=>trivial
  | true=>
    simp only [cond_true]
    have hcat:∀ (r:SI→OpR),(∀ (c':SI) (cv' bv sv:Int) (jv nv:Nat) (os:List Value) (aS:Option Addr) (capS:Nat),us=.slice aS nv capS→(lenA s).den C.σ ρ=some (Int.ofNat nv)→c'.den C.σ ρ=some cv'→os.length=nv * lay.length→
      (∀ i,i < nv→∀ f κ,lay[f]? = some κ→os[i * lay.length+f]? = some (κ.val C.σ sv (jv+i) f))→(∀ i,i < nv→∀ (κ:Kd) (f:Nat),κ.val C.σ bv i f=κ.val C.σ sv (jv+i) f)→
      (∀ i,i < nv+mv→∀ f κ,lay[f]? = some κ→some (κ.val C.σ cv' i f)=if i < nv then some (κ.val C.σ bv i f) else vs[(i - nv) * lay.length+f]?)→
      (∀ w2:World,w2.heap=w.heap→(Builtin.firstCells lay.length nv (.slice aS nv capS)).run cc.P w2=.ok os.toArray w2)→(r c').Ok cc C hc w0 ρ H w (do pure (.value (← Builtin.append_ #[t,t] ty #[us,.slice a mv capx]))))→
      (catV cc H lay s src r).Ok cc C hc w0 ρ H w (do pure (.value (← Builtin.append_ #[t,t] ty #[us,.slice a mv capx]))):=by
     intro r hr
     unfold catV
     have hvw:=viewA_ok hcc h hlay hs
     cases hvS:viewA cc H lay s with
     | no=>trivial
     | ask p=>rw [hvS] at hvw;exact hvw
     | ok c j n=>
       rw [hvS] at hvw
       obtain ⟨aS,capS,nv,sv,jv,os,hus,g1,g2,g3,g4,g5,_,g6⟩:=hvw
       obtain ⟨bv,b1,b2⟩:=baseC_ok hcc g1 g2 g3
       dsimp only
       cases hcb:catB cc H lay (baseC c j n) n src with
       | no=>trivial
       | ask p=>exact catB_ask hcc h hsi hcb
       | ok c'=>
         obtain ⟨cv',k1,k2⟩:=catB_ok hcc h hlay b1 g3 hsi hvl hcb
         have hlen:(lenA s).den C.σ ρ=some (Int.ofNat nv):=by
          cases s<;>simp only [viewA,viewA1] at hvS<;>try (cases hvS;done)
          ·simp only [SV.Is] at hs
           obtain ⟨b',k',len',cap',f1,f2,f3,f4,hu'⟩:=hs
           rw [hus] at hu'
           injection hu' with _ hu' _
           subst hu'
           exact f3
          ·simp only [SV.Is] at hs
           rw [hus] at hs
           injection hs with _ hs _
           subst hs
           rfl
         exact hr c' cv' bv sv jv nv os aS capS hus hlen k1 g4 g5 b2 k2 g6
    have hgrow:∀ (c':SI) (cv' bv sv:Int) (jv nv:Nat) (os:List Value) (aS:Option Addr) (capS:Nat),us=.slice aS nv capS→(lenA s).den C.σ ρ=some (Int.ofNat nv)→c'.den C.σ ρ=some cv'→os.length=nv * lay.length→
      (∀ i,i < nv→∀ f κ,lay[f]? = some κ→os[i * lay.length+f]? = some (κ.val C.σ sv (jv+i) f))→(∀ i,i < nv→∀ (κ:Kd) (f:Nat),κ.val C.σ bv i f=κ.val C.σ sv (jv+i) f)→
      (∀ i,i < nv+mv→∀ f κ,lay[f]? = some κ→some (κ.val C.σ cv' i f)=if i < nv then some (κ.val C.σ bv i f) else vs[(i - nv) * lay.length+f]?)→
      (∀ w2:World,w2.heap=w.heap→(Builtin.firstCells lay.length nv (.slice aS nv capS)).run cc.P w2=.ok os.toArray w2)→capS < nv+mv→
      (growB H e lay c' tot).Ok cc C hc w0 ρ H w (do pure (.value (← Builtin.append_ #[t,t] ty #[us,.slice a mv capx]))):=by
     intro c' cv' bv sv jv nv os aS capS hus hln k1 g4 g5 b2 k2 g6 hlt
     have htot:tot.den C.σ ρ=some (Int.ofNat (nv+mv)):=by
      rw [htt,SI.add_den hln hm];rfl
     obtain ⟨f1,f2⟩:=fitsB_ok hcc h htot hfit
     have hrun:=run_append_out (P:=cc.P) (w:=w) t ty e i z ht hi hz aS nv capS a mv capx os vs (by rw [← hli];exact g6 w.drew rfl) (by rw [← hli];exact hfx w.drew rfl) hlt f1 f2
     rw [hus]
     refine growB_ok (cap:=grownCap w (nv+mv) capS e) h k1 htot (grownCap_ge w (nv+mv) capS e) ?_ ?_ hrun
     ·have hge:=grownCap_ge w (nv+mv) capS e
      simp only [Array.size_append,List.size_toArray,size_zeroCells,hzs,← hli,g4,hvl]
      rw [← Nat.add_mul,← Nat.add_mul]
      congr 1;omega
     ·have:=cat_ar (rest:=(Builtin.zeroCells z.cells (grownCap w (nv+mv) capS e - (nv+mv))).toList) g4 hvl g5 b2 k2
      intro j hj f κ hκ
      have:=this j hj f κ hκ
      dsimp only at this ⊢
      rw [← this,← Array.getElem?_toList]
      simp
    unfold appA1
    have hmeq:(SB.eq src.len (.c 0)).den C.σ ρ=some (decide ((Int.ofNat mv)=0)):=by simp [SB.den,SI.den,hm]
    split
    ·rename_i sx
     split
     ·rename_i hd
      have:=dec_ok (bdOf_ok hcc h) h.facts hmeq hd
      have hm0:mv=0:=by simpa using this.symm
      subst hm0
      simp only [SV.Is] at hs
      subst hs
      exact OpR.ok_pure h (u:=.slice none 0 0) (run_append_none t ty e i ht hi a capx (by
       rw [← hli]
       have:=hfx w rfl
       have hv0:vs=[]:=List.eq_nil_of_length_eq_zero (by rw [hvl];simp)
       rw [hv0] at this;exact this)) (by simp only [SV.Is])
     ·rename_i hd
      have:=dec_ok (bdOf_ok hcc h) h.facts hmeq hd
      have hm0:mv≠0:=by simpa using this.symm
      refine hcat _ fun c' cv' bv sv jv nv os aS capS hus hln k1 g4 g5 b2 k2 g6=>hgrow c' cv' bv sv jv nv os aS capS hus hln k1 g4 g5 b2 k2 g6 ?_
      simp only [SV.Is] at hs
      rw [hus] at hs
      injection hs with _ _ hs
      subst hs;omega
     ·rename_i p hd
      exact ask_den (bdOf_ok hcc h) h.facts hmeq hd
    ·rename_i sx r o n cap
     have hs0:=hs
     simp only [SV.Is] at hs0
     obtain ⟨b,k,nv0,capv,e1,e2,e3,e4,hu0⟩:=hs0
     split
     ·rename_i id hown
      obtain ⟨bk,A,o1,o2,o3,o4,o5,o6⟩:=ownA_ok h e1 e2 e4 hown
      subst o4
      split
      ·rename_i hdec
       refine hcat _ fun c' cv' bv sv jv nv os aS capS hus hln k1 g4 g5 b2 k2 g6=>?_
       rw [hus] at hu0
       injection hu0 with hu1 hu2 hu3
       subst hu1 hu2 hu3
       have htot:tot.den C.σ ρ=some (Int.ofNat (nv+mv)):=by
        rw [htt,SI.add_den hln hm];rfl
       have hroom:nv+mv≤capS:=by
        have hle:(SB.le tot cap).den C.σ ρ=some (decide (Int.ofNat (nv+mv)≤Int.ofNat capS)):=by simp [SB.den,htot,e4]
        have:=dec_ok (bdOf_ok hcc h) h.facts hle hdec
        exact Int.ofNat_le.1 (by simpa using this.symm)
       have hmul:(nv+mv) * lay.length≤capS * lay.length:=Nat.mul_le_mul_right _ hroom
       rw [Nat.add_mul] at hmul
       have hA1:(A.toList.take (nv * lay.length)).length=nv * lay.length:=by
        have:A.toList.length=A.size:=by simp
        rw [List.length_take];omega
       have hosA:os=A.toList.take (nv * lay.length):=by
        refine firstCells_inj (g6 w rfl) (run_firstCells_some w _ _ _ _ _ _ hA1 fun p v hp=>?_)
        rw [addr_add]
        rw [List.getElem?_take] at hp
        split at hp
        ·simp only [World.cell?,o5]
         simpa using hp
        ·cases hp
       have hst:=run_storeCells_at (P:=cc.P) b (nv * lay.length) e vs 0 A w o5 (by simp;omega) hv1
       have hlist:(A.toList.take (nv * lay.length+0)++vs++A.toList.drop (nv * lay.length+0+vs.length))=os++vs++A.toList.drop (nv * lay.length+vs.length):=by rw [hosA];rfl
       rw [hlist] at hst
       have hrun:=run_append_in (P:=cc.P) t ty e i ht hi b 0 nv capS a mv capx vs (by rw [← hli];exact hfx w rfl) hroom (by rw [Nat.zero_add,← hli];exact hst)
       have hbk:(Bk.arr lay c' tot e cap).Is C.σ ρ (.cells (os++vs++A.toList.drop (nv * lay.length+vs.length)).toArray e (0,0)):=by
        refine ⟨cv',nv+mv,capS,_,k1,htot,e4,hroom,?_,?_,rfl⟩
        ·have:A.toList.length=A.size:=by simp
         simp only [List.size_toArray,List.length_append,List.length_drop,g4,hvl];omega
        ·have:=cat_ar (rest:=A.toList.drop (nv * lay.length+vs.length)) g4 hvl g5 b2 k2
         intro j hj f κ hκ
         have:=this j hj f κ hκ
         simpa using this
       have h2:=h.put o1 o2 (b:=b) o3 (bk':=.arr lay c' tot e cap) rfl hbk (w':=w.setRow b (os++vs++A.toList.drop (nv * lay.length+vs.length)).toArray)
        (fun j hj=>setRow_other _ _ _ _ hj) (setRow_heap _ _ _ _ _ _ o5) (by simp) rfl rfl rfl
       refine ⟨ρ,.value (.slice (some ⟨b,0,none⟩) (nv+mv) capS),.slice (some ⟨b,0,none⟩) (nv+mv) capS,_,Tn.of_put o3 (fun j hj=>setRow_other _ _ _ _ hj) (by simp),?_,.inl rfl,?_,h2⟩
       ·simp [hus,hrun]
       ·simp only [SV.Is,SR.den]
        exact ⟨b,0,nv+mv,capS,o3,rfl,htot,e4,rfl⟩
      ·refine hcat _ fun c' cv' bv sv jv nv os aS capS hus hln k1 g4 g5 b2 k2 g6=>?_
       rw [hus] at hu0
       injection hu0 with hu1 hu2 hu3
       subst hu1 hu2 hu3
       have htot:tot.den C.σ ρ=some (Int.ofNat (nv+mv)):=by
        rw [htt,SI.add_den hln hm];rfl
       by_cases hroom:nv+mv≤capS
       ·
        have hmul:(nv+mv) * lay.length≤capS * lay.length:=Nat.mul_le_mul_right _ hroom
        rw [Nat.add_mul] at hmul
        have hA1:(A.toList.take (nv * lay.length)).length=nv * lay.length:=by
         have:A.toList.length=A.size:=by simp
         rw [List.length_take];omega
        have hosA:os=A.toList.take (nv * lay.length):=by
         refine firstCells_inj (g6 w rfl) (run_firstCells_some w _ _ _ _ _ _ hA1 fun p v hp=>?_)
         rw [addr_add]
         rw [List.getElem?_take] at hp
         split at hp
         ·simp only [World.cell?,o5]
          simpa using hp
         ·cases hp
        have hst:=run_storeCells_at (P:=cc.P) b (nv * lay.length) e vs 0 A w o5 (by simp;omega) hv1
        have hlist:(A.toList.take (nv * lay.length+0)++vs++A.toList.drop (nv * lay.length+0+vs.length))=os++vs++A.toList.drop (nv * lay.length+vs.length):=by rw [hosA];rfl
        rw [hlist] at hst
        have hrun:=run_append_in (P:=cc.P) t ty e i ht hi b 0 nv capS a mv capx vs (by rw [← hli];exact hfx w rfl) hroom (by rw [Nat.zero_add,← hli];exact hst)
        have h1:=h.num (lo:=tot) (n:=capS) (k:=nv+mv) htot hroom
        have hle1:ρ.Le (ρ.setDi H.nd capS):=Dyn.le_setDi (h.fd _ (Nat.le_refl _))
        have hd:(SI.d H.nd).den C.σ (ρ.setDi H.nd capS)=some (Int.ofNat capS):=by
         show ((ρ.setDi H.nd capS).di H.nd).map Int.ofNat=_
         rw [Dyn.setDi_same];rfl
        have hbk:(Bk.arr lay c' tot e (.d H.nd)).Is C.σ (ρ.setDi H.nd capS) (.cells (os++vs++A.toList.drop (nv * lay.length+vs.length)).toArray e (0,0)):=by
         refine ⟨cv',nv+mv,capS,_,SI.den_mono hle1 _ _ k1,SI.den_mono hle1 _ _ htot,hd,hroom,?_,?_,rfl⟩
         ·have:A.toList.length=A.size:=by simp
          simp only [List.size_toArray,List.length_append,List.length_drop,g4,hvl];omega
         ·have:=cat_ar (rest:=A.toList.drop (nv * lay.length+vs.length)) g4 hvl g5 b2 k2
          intro j hj f κ hκ
          have:=this j hj f κ hκ
          simpa using this
        have hg1:get (H.num tot).heap id=some bk:=o1
        have h2:=h1.put hg1 o2 (b:=b) o3 (bk':=.arr lay c' tot e (.d H.nd)) rfl hbk (w':=w.setRow b (os++vs++A.toList.drop (nv * lay.length+vs.length)).toArray)
         (fun j hj=>setRow_other _ _ _ _ hj) (setRow_heap _ _ _ _ _ _ o5) (by simp) rfl rfl rfl
        have hg2:get ((H.num tot).put id (.arr lay c' tot e (.d H.nd))).heap id=some (.arr lay c' tot e (.d H.nd)):=by
         show get ((id,_)::_) id=_
         rw [get_cons,if_pos rfl]
        have h3:=h2.rename hg2 rfl (b:=b) o3
        have hlog:∀ j,get ((((H.num tot).put id (.arr lay c' tot e (.d H.nd))).alloc (.arr lay c' tot e (.d H.nd))).put id .gone).heap j=get (((H.num tot).alloc (.arr lay c' tot e (.d H.nd))).put id .gone).heap j:=by
         intro j
         simp only [Hp.put,Hp.alloc,Hp.num,get_cons]
         by_cases hj:id=j
         ·simp [hj]
         ·simp [hj]
        have h5:=h3.relog (H':=((H.num tot).alloc (.arr lay c' tot e (.d H.nd))).put id .gone) hlog rfl rfl rfl rfl rfl rfl
        have hrs:Tn ρ H w ((ρ.setDi H.nd capS).setBl H.nb b) (((H.num tot).alloc (.arr lay c' tot e (.d H.nd))).put id .gone) (w.setRow b (os++vs++A.toList.drop (nv * lay.length+vs.length)).toArray):=by
         have hl:∀ l',(((H.num tot).alloc (.arr lay c' tot e (.d H.nd))).put id .gone).heap=l'++H.heap→l'=[(id,.gone),(H.nb,.arr lay c' tot e (.d H.nd))]:=fun l' hl'=>
          List.append_cancel_right (bs:=H.heap) (by rw [← hl'];rfl)
         refine ⟨⟨fun j hj=>?_,fun j hj=>?_,fun _ _=>rfl⟩,⟨⟨[(id,.gone),(H.nb,_)],rfl⟩,Nat.le_succ _,Nat.le_succ _,Nat.le_refl _,⟨[_],rfl⟩,⟨[],rfl⟩⟩,by simp,fun l' hl' j c2 ej=>?_,fun l' hl' c2 _ hno=>?_⟩
         ·show (if j=H.nb then some b else ρ.bl j)=_;rw [if_neg (by omega)]
         ·show (if j=H.nd then some capS else ρ.di j)=_;rw [if_neg (by omega)]
         ·have ej':(if j=H.nb then some b else ρ.bl j)=some c2:=ej
          split at ej'
          ·cases ej'
           refine .inr (.inr ⟨id,o3,?_⟩)
           rw [hl l' hl',get_cons,if_pos rfl];simp
          ·exact .inl ej'
         ·refine setRow_other _ _ _ _ fun ec=>?_
          subst ec
          have:=hno id o3
          rw [hl l' hl',get_cons,if_pos rfl] at this;cases this
        refine ⟨_,.value (.slice (some ⟨b,0,none⟩) (nv+mv) capS),.slice (some ⟨b,0,none⟩) (nv+mv) capS,_,hrs,?_,.inl rfl,?_,h5⟩
        ·simp [hus,hrun]
        ·simp only [SV.Is,SR.den]
         exact ⟨b,0,nv+mv,capS,Dyn.setBl_same _ _ _,rfl,SI.den_mono (hle1.trans (Dyn.le_setBl (h.fb _ (Nat.le_refl _)))) _ _ htot,hd,rfl⟩
       ·
        have hg1:=hgrow c' cv' bv sv jv nv os (some ⟨b,0,none⟩) capS hus hln k1 g4 g5 b2 k2 g6 (by omega)
        obtain ⟨ρ2,nx,u2,w2,p1,p2,p3,p4,p5⟩:=hg1
        have hid2:=h.hb id _ o1
        exact ⟨ρ2,nx,u2,w2,p1.trans Tn.of_drop,p2,p3,p4,p5.drop (Nat.lt_succ_of_lt hid2)⟩
     ·have htot0:tot.den C.σ ρ=some (Int.ofNat (nv0+mv)):=by
       rw [htt]
       show (SI.add n src.len).den C.σ ρ=_
       rw [SI.add_den e3 hm];rfl
      have hle:(SB.le tot cap).den C.σ ρ=some (decide (Int.ofNat (nv0+mv)≤Int.ofNat capv)):=by simp [SB.den,htot0,e4]
      split
      ·rename_i hd
       have:=dec_ok (bdOf_ok hcc h) h.facts hle hd
       have hlt:capv < nv0+mv:=by
        have:¬ (Int.ofNat (nv0+mv)≤Int.ofNat capv):=by simpa using this.symm
        have:¬ (nv0+mv≤capv):=fun hh=>this (Int.ofNat_le.2 hh)
        omega
       refine hcat _ fun c' cv' bv sv jv nv os aS capS hus hln k1 g4 g5 b2 k2 g6=>hgrow c' cv' bv sv jv nv os aS capS hus hln k1 g4 g5 b2 k2 g6 ?_
       rw [hus] at hu0
       injection hu0 with hu1 hu2 hu3
       subst hu2 hu3;exact hlt
      ·rename_i hd
       have:=dec_ok (bdOf_ok hcc h) h.facts hle hd
       have hroom:nv0+mv≤capv:=by
        have:(Int.ofNat (nv0+mv)≤Int.ofNat capv):=by simpa using this.symm
        exact Int.ofNat_le.1 this
       refine need_ok hcc h hmeq fun h0=>?_
       have hm0:mv=0:=by simpa using h0
       subst hm0
       have hv0:vs=[]:=List.eq_nil_of_length_eq_zero (by rw [hvl];simp)
       subst hv0
       refine OpR.ok_pure h (u:=us) ?_ hs
       have:=run_append_in (P:=cc.P) (w:=w) (w':=w) t ty e i ht hi b k nv0 capv a 0 capx [] (by rw [← hli];exact hfx w rfl) hroom rfl
       rw [hu0];exact this
      ·rename_i p hd
       exact ask_den (bdOf_ok hcc h) h.facts hle hd
    ·trivial
 cases hsb:srcB cc H lay x with
 | ask p=>rw [hsb] at hsrc;exact hsrc
 | no=>trivial
 | ex l m=>rw [hsb] at hsrc;exact main _ hsrc
 | vw c j m=>rw [hsb] at hsrc;exact main _ hsrc
noncomputable def opAppendB (cc:Cc) (H:Hp) (ts:Array TypeId) (xs:List SV):OpR:=
 match opAppend cc H ts xs with
 | .bad n=>match ts.toList,xs with
   | [t,t'],[s,x]=>bif Nat.beq t t' then
     (match cc.P.underlying t with
     | some (.slice e)=>match cc.P.info? e,layT cc.P 6 e with
       | some i,some lay=>match i.zero with
         | some z=>bif Nat.beq z.cells.size i.size && (Nat.blt 0 (llen lay) && Nat.beq (llen lay) i.size) then appA cc H e lay i.bytes s x else .bad n
         | none=>.bad 341
       | _,_=>.bad 342
     | _=>.bad 343)
     else .bad 344
   | _,_=>.bad n
 | r=>r
theorem opAppendB_ok (hcc:cc.Ok C) (h:HpRel C hc w0 ρ H w) {ts:Array TypeId} {ty:TypeId} {xs:List SV} {us:List Value} (hx:SV.IsL C.σ ρ xs us):(opAppendB cc H ts xs).Ok cc C hc w0 ρ H w (do pure (.value (← Builtin.append_ ts ty us.toArray))):=by
 have h0:=opAppend_ok hcc h (ts:=ts) (ty:=ty) hx
 unfold opAppendB
 split
 ·split
  ·rename_i t t' s x hts _
   rw [SV.isL_cons] at hx
   obtain ⟨u,r,rfl,h1,h2⟩:=hx
   rw [SV.isL_cons] at h2
   obtain ⟨v,r',rfl,h2,h3⟩:=h2
   rw [SV.isL_nil] at h3
   subst h3
   cases hb:Nat.beq t t' with
   | false=>trivial
   | true=>
     have:=Nat.eq_of_beq_eq_true hb
     subst this
     have hts':ts=#[t,t]:=by apply Array.ext';exact hts
     subst hts'
     simp only [cond_true]
     split
     ·rename_i e he
      split
      ·rename_i i lay hi hl
       split
       ·rename_i z hz
        cases hck:(Nat.beq z.cells.size i.size && (Nat.blt 0 (llen lay) && Nat.beq (llen lay) i.size)) with
        | false=>trivial
        | true=>
          simp only [Bool.and_eq_true] at hck
          obtain ⟨q1,q2,q3⟩:=hck
          rw [llen_eq] at q2 q3
          exact appA_ok hcc h he hi hz (Nat.eq_of_beq_eq_true q1) (by simpa [Nat.blt_eq] using q2) (Nat.eq_of_beq_eq_true q3) h1 h2
       ·trivial
      ·trivial
     ·trivial
  ·trivial
 ·exact h0
end
end Go.Sx
