/- A symbolic executor: append, where a length is a variable. -/
import Derived.Test.YtfailpbjhlhhiaaGreatSxGc
import Derived.Laws.MakeOwn
namespace Go.Sx
noncomputable section
set_option linter.unusedVariables false
set_option linter.unusedSimpArgs false
open Go.RowKit
section
variable {cc:Cc} {C:Ct} {hc:Nat→Option Obj} {w0:World} {ρ:Dyn} {H:Hp} {w:World}
inductive Src where
 | ex (l:List SV) (m:Nat)
 | vw (c j m:SI)
 | ask (p:SB)
 | no
def srcB (cc:Cc) (H:Hp) (lay:List Kd) (x:SV):Src:=
 match srcA cc H (llen lay) x with
 | some (l,m)=>bif lall SV.one l then .ex l m else .no
 | none=>match viewA cc H lay x with
   | .ok c j m=>.vw c j m
   | .ask p=>.ask p
   | .no=>.no
def Src.len:Src→SI
 | .ex _ m=>.c (.ofNat m)
 | .vw _ _ m=>m
 | _=>.c 0
def Src.Is (cc:Cc) (C:Ct) (ρ:Dyn) (lay:List Kd) (us:List Value) (mv:Nat):Src→Prop
 | .ex l m=>SV.IsL C.σ ρ l us∧m=mv
 | .vw c j m=>∃ cv jv,c.den C.σ ρ=some cv∧j.den C.σ ρ=some (Int.ofNat jv)∧m.den C.σ ρ=some (Int.ofNat mv)∧∀ i,i < mv→∀ f κ,lay[f]? = some κ→KR C.σ ρ.fz κ (κ.val C.σ cv (jv+i) f) (us[i * lay.length+f]?)
 | _=>False
theorem Src.len_den {lay:List Kd} {us:List Value} {mv:Nat} {s:Src} (h:s.Is cc C ρ lay us mv):s.len.den C.σ ρ=some (Int.ofNat mv):=by
 cases s with
 | ex l m=>obtain ⟨_,rfl⟩:=h;rfl
 | vw c j m=>obtain ⟨_,_,_,_,h,_⟩:=h;exact h
 | ask p=>exact h.elim
 | no=>exact h.elim
theorem srcB_ok (hcc:cc.Ok C) (h:HpRel C hc w0 ρ H w) {lay:List Kd} (hlay:0 < lay.length) {x:SV} {u:Value} (hx:x.Is C.σ ρ u) :
  match srcB cc H lay x with
  | .ask p=>∃ b,p.den C.σ ρ=some b
  | .no=>True
  | s=>∃ a cap mv us,u=.slice a mv cap∧s.Is cc C ρ lay us mv∧us.length=mv * lay.length∧(∀ v∈us,v.oneCell'=true)∧∀ w2:World,w2.heap=w.heap→(Builtin.firstCells lay.length mv (.slice a mv cap)).run cc.P w2=.ok us.toArray w2:=by
 unfold srcB
 cases hs:srcA cc H (llen lay) x with
 | some p=>
   obtain ⟨l,m⟩:=p
   dsimp only
   cases ho:lall SV.one l with
   | false=>trivial
   | true=>
     obtain ⟨a,c,us,rfl,h1,h2,h3⟩:=srcA_ok hcc h hx hs
     rw [llen_eq] at h2 h3
     exact ⟨a,c,m,us,rfl,⟨h1,rfl⟩,h2,SV.all_one h1 ho,h3⟩
 | none=>
   dsimp only
   have:=viewA_ok hcc h hlay hx
   cases hv:viewA cc H lay x with
   | no=>trivial
   | ask p=>rw [hv] at this;exact this
   | ok c j m=>
     rw [hv] at this
     obtain ⟨a,cap,mv,cv,jv,us,rfl,h1,h2,h3,h4,h5,_,h6⟩:=this
     exact ⟨a,cap,mv,us,rfl,⟨cv,jv,h1,h2,h3,h5⟩,h4,VwOk.one h4 h5 hlay,h6⟩
def baseC (c j n:SI):SI:=match j with | .c 0=>c | _=>.ap 9 (.c 0) (.c 0) c j n (.c 0)
theorem baseC_ok (hcc:cc.Ok C) {c j n:SI} {cv:Int} {jv nv:Nat} (h1:c.den C.σ ρ=some cv) (h2:j.den C.σ ρ=some (Int.ofNat jv)) (h3:n.den C.σ ρ=some (Int.ofNat nv)) :
  ∃ bv,(baseC c j n).den C.σ ρ=some bv∧∀ i,i < nv→∀ (κ:Kd) (f:Nat),κ.val C.σ bv i f=κ.val C.σ cv (jv+i) f:=by
 unfold baseC
 split
 ·simp only [SI.den,Option.some.injEq] at h2
  have:jv=0:=by
   have h2:(0:Int)=jv:=h2
   omega
  subst this
  exact ⟨cv,h1,fun i _ κ f=>by rw [Nat.zero_add]⟩
 ·refine ⟨C.σ.fi 9 0 0 cv jv nv 0,by simp [SI.den,h1,h2,h3],fun i hi κ f=>?_⟩
  have:=hcc.al.b κ 0 0 cv jv nv i f
  have e:((0:Nat):Int)=0:=rfl
  rw [e] at this
  rw [this,if_pos (by omega)]
  congr 1
def catB (cc:Cc) (H:Hp) (lay:List Kd) (b n:SI) (s:Src):SetR:=
 match s with
 | .ex l _=>setsA cc H lay l b n 0
 | .vw c j m=>match n,j with
   | .c 0,.c 0=>.ok c
   | n,j=>.ok (.ap 9 b n c j m (.c 0))
 | .ask p=>.ask p
 | .no=>.no
theorem catB_ok (hcc:cc.Ok C) (h:HpRel C hc w0 ρ H w) {lay:List Kd} (hlay:0 < lay.length) {b n c':SI} {bv:Int} {nv mv:Nat} {us:List Value} {s:Src} (h1:b.den C.σ ρ=some bv) (h2:n.den C.σ ρ=some (Int.ofNat nv)) (hs:s.Is cc C ρ lay us mv) (hlen:us.length=mv * lay.length) (hc':catB cc H lay b n s=.ok c') :
  ∃ cv',c'.den C.σ ρ=some cv'∧∀ i,i < nv+mv→∀ f κ,lay[f]? = some κ→(i < nv→κ.val C.σ cv' i f=κ.val C.σ bv i f)∧(¬ i < nv→KR C.σ ρ.fz κ (κ.val C.σ cv' i f) (us[(i - nv) * lay.length+f]?)):=by
 cases s with
 | ask p=>exact hs.elim
 | no=>exact hs.elim
 | ex l m=>
   obtain ⟨hs,rfl⟩:=hs
   obtain ⟨cv',g1,g2⟩:=setsA_ok hcc h hs h1 h2 hlay hc'
   refine ⟨cv',g1,fun i hi f κ hκ=>?_⟩
   have hf:f < lay.length:=(List.getElem?_eq_some_iff.1 hκ).1
   obtain ⟨k1,k2⟩:=g2 i f κ hκ
   simp only [Nat.add_zero,hlen] at k1 k2
   refine ⟨fun hin=>?_,fun hin=>?_⟩
   ·have:(i+1) * lay.length≤nv * lay.length:=Nat.mul_le_mul_right _ hin
    rw [Nat.add_mul] at this
    exact k2 (by omega)
   ·obtain ⟨q,rfl⟩:∃ q,i=nv+q:=⟨i - nv,by omega⟩
    have:(q+1) * lay.length≤m * lay.length:=Nat.mul_le_mul_right _ (by omega)
    rw [Nat.add_mul] at this
    have e0:(nv+q) * lay.length=nv * lay.length+q * lay.length:=Nat.add_mul _ _ _
    have k1':=k1 (by omega)
    have e1:(nv+q) * lay.length+f - nv * lay.length=q * lay.length+f:=by omega
    have e2:nv+q - nv=q:=by omega
    rw [e1] at k1'
    rw [e2];exact k1'
 | vw c j m=>
   obtain ⟨cv,jv,g1,g2,g3,g4⟩:=hs
   have gen:∀ c'',c''=SI.ap 9 b n c j m (.c 0)→∃ cv',c''.den C.σ ρ=some cv'∧∀ i,i < nv+mv→∀ f κ,lay[f]? = some κ→(i < nv→κ.val C.σ cv' i f=κ.val C.σ bv i f)∧(¬ i < nv→KR C.σ ρ.fz κ (κ.val C.σ cv' i f) (us[(i - nv) * lay.length+f]?)):=by
    intro c'' e
    subst e
    refine ⟨C.σ.fi 9 bv nv cv jv mv 0,by simp [SI.den,h1,h2,g1,g2,g3],fun i hi f κ hκ=>?_⟩
    rw [hcc.al.b]
    refine ⟨fun hin=>?_,fun hin=>?_⟩
    ·rw [if_neg (by omega)]
    ·rw [if_pos (by omega)]
     exact g4 (i - nv) (by omega) f κ hκ
   have hc'':(match n,j with
    | .c 0,.c 0=>SetR.ok c
    | n,j=>.ok (.ap 9 b n c j m (.c 0)))=.ok c':=hc'
   split at hc''
   ·cases hc''
    simp only [SI.den,Option.some.injEq] at h2 g2
    have e1:nv=0:=by
     have h2:(0:Int)=nv:=h2
     omega
    have e2:jv=0:=by
     have g2:(0:Int)=jv:=g2
     omega
    subst e1 e2
    refine ⟨cv,g1,fun i hi f κ hκ=>⟨fun hin=>absurd hin (Nat.not_lt_zero _),fun _=>?_⟩⟩
    have:=g4 (i - 0) (by omega) f κ hκ
    simpa using this
   ·cases hc''
    exact gen _ rfl
theorem catB_ask (hcc:cc.Ok C) (h:HpRel C hc w0 ρ H w) {lay:List Kd} {b n:SI} {mv:Nat} {us:List Value} {s:Src} {q:SB} (hs:s.Is cc C ρ lay us mv) (hc':catB cc H lay b n s=.ask q):∃ b,q.den C.σ ρ=some b:=by
 cases s with
 | ask p=>exact hs.elim
 | no=>exact hs.elim
 | ex l m=>exact setsA_ask hcc h hs.1 hc'
 | vw c j m=>
   have hc'':(match n,j with
    | .c 0,.c 0=>SetR.ok c
    | n,j=>.ok (.ap 9 b n c j m (.c 0)))=.ask q:=hc'
   split at hc''<;>cases hc''
def growB (H:Hp) (e:TypeId) (lay:List Kd) (c tot:SI):OpR:=
 .val (.sl (.n H.nb) (.c 0) tot (.d H.nd)) ((H.num tot).alloc (.arr lay c tot e (.d H.nd)))
theorem growB_ok (h:HpRel C hc w0 ρ H w) {e:TypeId} {lay:List Kd} {c tot:SI} {cv:Int} {nt cap:Nat} {A:Array Value} {s:Sem Value} (h1:c.den C.σ ρ=some cv) (h2:tot.den C.σ ρ=some (Int.ofNat nt)) (hcap:nt≤cap) (hA:A.size=cap * lay.length) (hAr:ArIs C.σ ρ.fz lay cv nt 0 (fun i=>A[i]?))
  (hs:s.run cc.P w=.ok (.slice (some ⟨w.heap.size,0,none⟩) nt cap) (w.drew.alloc (.cells A e))):(growB H e lay c tot).Ok cc C hc w0 ρ H w (do pure (.value (← s))):=by
 have h3:=(h.drew).num (lo:=tot) (n:=cap) (k:=nt) h2 hcap
 have hle:ρ.Le ((ρ.setDi H.nd cap).setBl H.nb w.heap.size):=(Dyn.le_setDi (h.fd _ (Nat.le_refl _))).trans (Dyn.le_setBl (h.fb _ (Nat.le_refl _)))
 have hd:(SI.d H.nd).den C.σ ((ρ.setDi H.nd cap).setBl H.nb w.heap.size)=some (Int.ofNat cap):=by
  show ((ρ.setDi H.nd cap).di H.nd).map Int.ofNat=_
  rw [Dyn.setDi_same];rfl
 have hb:(Bk.arr lay c tot e (.d H.nd)).Is C.σ ((ρ.setDi H.nd cap).setBl H.nb w.heap.size) (.cells A e):=
  ⟨cv,nt,cap,A,SI.den_mono hle _ _ h1,SI.den_mono hle _ _ h2,hd,hcap,hA,hAr,rfl⟩
 have h4:=h3.alloc' (bk:=.arr lay c tot e (.d H.nd)) hb
 refine ⟨_,_,.slice (some ⟨w.heap.size,0,none⟩) nt cap,_,(Tn.of_below ((Below.refl _ w).drew)).trans ((Tn.of_num ρ H w.drew _ _).trans (Tn.of_alloc _ _ w.drew _ _)),by simp [hs],.inl rfl,?_,h4⟩
 simp only [SV.Is,SR.den]
 exact ⟨w.heap.size,0,nt,cap,Dyn.setBl_same _ _ _,rfl,SI.den_mono hle _ _ h2,hd,rfl⟩
def ownA (H:Hp) (e:TypeId) (lay:List Kd) (r:SR) (o cap:SI):Option Nat:=
 match r,o with
 | .n id,.c 0=>match get H.heap id with
   | some (.arr lay' _ _ t cp)=>bif Nat.beq t e && (layEq lay lay' && cp.beq cap) then some id else none
   | some (.row none _ t cp sz)=>bif Nat.beq t e && (Nat.beq sz (llen lay) && cp.beq cap) then some id else none
   | some (.cells l t)=>match cap with
     | .c (.ofNat k)=>bif Nat.beq t e && Nat.beq (llen l) (Nat.mul k (llen lay)) then some id else none
     | _=>none
   | _=>none
 | _,_=>none
theorem ownA_ok (h:HpRel C hc w0 ρ H w) {e:TypeId} {lay:List Kd} {r:SR} {o cap:SI} {id:Nat} {b k capv:Nat} (hr:r.den C.σ ρ=some b) (ho:o.den C.σ ρ=some (Int.ofNat k)) (hcap:cap.den C.σ ρ=some (Int.ofNat capv)) (hown:ownA H e lay r o cap=some id) :
  ∃ bk,∃ A:Array Value,get H.heap id=some bk∧bk.live=true∧ρ.bl id=some b∧k=0∧w.heap[b]? = some (.cells A e (0,0))∧A.size=capv * lay.length:=by
 unfold ownA at hown
 split at hown
 ·rename_i id'
  simp only [SI.den,Option.some.injEq] at ho
  have hk:k=0:=by
   have ho:(0:Int)=k:=ho
   omega
  split at hown
  ·rename_i lay' c n t cp hg
   cases hb:(Nat.beq t e && (layEq lay lay' && cp.beq cap)) with
   | false=>rw [hb] at hown;cases hown
   | true=>
     rw [hb] at hown;cases hown
     simp only [Bool.and_eq_true] at hb
     have:=Nat.eq_of_beq_eq_true hb.1;subst this
     have:=layEq_eq hb.2.1;subst this
     have:=SI.beq_eq hb.2.2;subst this
     obtain ⟨b',o',e1,e2,cv,nv,cpv,A,h1,h2,h3,h4,h5,h6,rfl⟩:=h.blk id _ hg rfl
     have:b'=b:=by simp only [SR.den] at hr;rw [e1] at hr;exact Option.some.inj hr
     subst this
     rw [hcap] at h3
     have:capv=cpv:=by injection h3 with h3;injection h3
     subst this
     exact ⟨_,A,hg,rfl,e1,hk,e2,h5⟩
  ·rename_i l t cp sz hg
   cases hb:(Nat.beq t e && (Nat.beq sz (llen lay) && cp.beq cap)) with
   | false=>rw [hb] at hown;cases hown
   | true=>
     rw [hb] at hown;cases hown
     simp only [Bool.and_eq_true] at hb
     have:=Nat.eq_of_beq_eq_true hb.1;subst this
     have hsz:=Nat.eq_of_beq_eq_true hb.2.1
     rw [llen_eq] at hsz
     have:=SI.beq_eq hb.2.2;subst this
     obtain ⟨b',o',e1,e2,us,sp,nn,e3,e4,e5,rfl⟩:=h.blk id _ hg rfl
     have:b'=b:=by simp only [SR.den] at hr;rw [e1] at hr;exact Option.some.inj hr
     subst this
     rw [hcap] at e4
     have:capv=nn:=by injection e4 with e4;injection e4
     subst this
     refine ⟨_,_,hg,rfl,e1,hk,e2,?_⟩
     rw [← hsz,← e5];simp [preL]
  ·rename_i l t hg
   split at hown
   ·rename_i kk
    cases hb:(Nat.beq t e && Nat.beq (llen l) (Nat.mul kk (llen lay))) with
    | false=>rw [hb] at hown;cases hown
    | true=>
      rw [hb] at hown;cases hown
      simp only [Bool.and_eq_true] at hb
      have:=Nat.eq_of_beq_eq_true hb.1;subst this
      have hl:=Nat.eq_of_beq_eq_true hb.2
      rw [llen_eq,llen_eq] at hl
      obtain ⟨b',o',e1,e2,us,e3,rfl⟩:=h.blk id _ hg rfl
      have:b'=b:=by simp only [SR.den] at hr;rw [e1] at hr;exact Option.some.inj hr
      subst this
      simp only [SI.den,Option.some.injEq] at hcap
      have:kk=capv:=by injection hcap
      subst this
      refine ⟨_,_,hg,rfl,e1,hk,e2,?_⟩
      simp only [List.size_toArray,SV.isL_length e3];exact hl
   ·cases hown
  ·cases hown
 ·cases hown
def fitsB (cc:Cc) (H:Hp) (tot:SI) (bytes:Nat):Bool:=
 bif (match (rg (bdOf cc H) tot).2 with | some (.ofNat n)=>fitsA n 0 bytes | _=>false) then true else
  bif (bif fitsA 16777216 0 bytes then (match dec (bdOf cc H) H.facts (.le tot (.c 16777216)) with | .yes b=>b | .ask _=>false) else false) then true else
   bif fitsA (Nat.div 140737488355328 bytes) 0 bytes then (match dec (bdOf cc H) H.facts (.le tot (.c (.ofNat (Nat.div 140737488355328 bytes)))) with | .yes b=>b | .ask _=>false) else false
theorem fitsB_ok (hcc:cc.Ok C) (h:HpRel C hc w0 ρ H w) {tot:SI} {nt bytes:Nat} (ht:tot.den C.σ ρ=some (Int.ofNat nt)) (hf:fitsB cc H tot bytes=true):nt≤9223372036854775807∧nt * bytes≤140737488355328:=by
 unfold fitsB at hf
 have hin:=rg_ok (bdOf_ok hcc h) tot _ ht
 have fin:∀ n:Nat,fitsA n 0 bytes=true→nt≤n→nt≤9223372036854775807∧nt * bytes≤140737488355328:=fun n hf hle=>by
  obtain ⟨f1,f2⟩:=fitsA_ok hf
  exact ⟨by omega,Nat.le_trans (Nat.mul_le_mul_right _ (by omega)) f2⟩
 cases h1:(match (rg (bdOf cc H) tot).2 with | some (.ofNat n)=>fitsA n 0 bytes | _=>false) with
 | true=>
   split at h1
   ·rename_i n hn
    exact fin n h1 (Int.ofNat_le.1 (hin.2 _ hn))
   ·cases h1
 | false=>
   rw [h1,cond_false] at hf
   have dd:∀ K:Nat,(bif fitsA K 0 bytes then (match dec (bdOf cc H) H.facts (.le tot (.c (.ofNat K))) with | .yes b=>b | .ask _=>false) else false)=true→nt≤9223372036854775807∧nt * bytes≤140737488355328:=fun K hf=>by
    cases h2:fitsA K 0 bytes with
    | false=>rw [h2] at hf;cases hf
    | true=>
      rw [h2,cond_true] at hf
      split at hf
      ·rename_i b hd
       subst hf
       have hle:(SB.le tot (.c (.ofNat K))).den C.σ ρ=some (decide ((Int.ofNat nt)≤Int.ofNat K)):=by simp [SB.den,SI.den,ht]
       have:=dec_ok (bdOf_ok hcc h) h.facts hle hd
       have:(Int.ofNat nt)≤Int.ofNat K:=by simpa using this.symm
       exact fin _ h2 (Int.ofNat_le.1 this)
      ·cases hf
   cases h3:(bif fitsA 16777216 0 bytes then (match dec (bdOf cc H) H.facts (.le tot (.c 16777216)) with | .yes b=>b | .ask _=>false) else false) with
   | true=>exact dd 16777216 h3
   | false=>rw [h3,cond_false] at hf;exact dd _ hf
def catV (cc:Cc) (H:Hp) (lay:List Kd) (s:SV) (src:Src) (r:SI→OpR):OpR:=
 match viewA cc H lay s with
 | .ok c j n=>match catB cc H lay (baseC c j n) n src with
   | .ok c'=>r c'
   | .ask p=>.ask p
   | .no=>.bad 330
 | .ask p=>.ask p
 | .no=>.bad 331
def lenA (s:SV):SI:=match s with | .sl _ _ n _=>n | .fs _ y=>y.fl | _=>.c 0
def frzL (n c:SI):Bool:=match c with | .ap 8 _ m a2 a3 a4 a5=>bif frzQ 0 a2 a3 a4 a5 then n.beq m else false | _=>false
def frzS (n c:SI):SI:=bif n.beq c.fl then c else bif frzL n c then c else .ap 8 c n (.c 0) (.c 0) (.c 11) (.c 0)
theorem flay_small:lall (fun l=>Nat.ble (llen l) 24) flayL=true:=by kernel_rfl
theorem flay_nil:∀ (l:List (List Kd)) (i:Nat),lall (fun l=>Nat.ble (llen l) 24) l=true→(List.rec (motive:=fun _=>Nat→List Kd) (fun _=>[]) (fun a _ ih n=>Nat.rec (motive:=fun _=>List Kd) a (fun m _=>ih m) n) l i:List Kd).length≤24
 | [],i,_=>by simp
 | a::l,0,h=>by
   have:=lall_iff.1 h a (by simp)
   have:=Nat.le_of_ble_eq_true this
   rw [llen_eq] at this
   exact this
 | a::l,i+1,h=>flay_nil l i (lall_iff.2 fun x hx=>lall_iff.1 h x (List.mem_cons_of_mem _ hx))
theorem flay_len (i:Nat):(flay i).length≤24:=flay_nil flayL i flay_small
theorem findLay_ok {l:List Kd} {i:Nat} (h:findLay l=some i):l=flay i:=by
 have:∀ (L:List (List Kd)) (k i:Nat),(List.rec (motive:=fun _=>Nat→Option Nat) (fun _=>none) (fun a _ ih n=>bif layEq l a then some n else ih (Nat.succ n)) L k:Option Nat)=some i→
   k≤i∧l=(List.rec (motive:=fun _=>Nat→List Kd) (fun _=>[]) (fun a _ ih n=>Nat.rec (motive:=fun _=>List Kd) a (fun m _=>ih m) n) L (i - k):List Kd):=by
  intro L
  induction L with
  | nil=>intro k i h;cases h
  | cons a L ih=>
    intro k i h
    have h':(bif layEq l a then some k else (List.rec (motive:=fun _=>Nat→Option Nat) (fun _=>none) (fun a _ ih n=>bif layEq l a then some n else ih (Nat.succ n)) L (k+1):Option Nat))=some i:=h
    cases hb:layEq l a with
    | true=>
      rw [hb] at h';cases h'
      rw [layEq_eq hb,Nat.sub_self]
      exact ⟨Nat.le_refl _,rfl⟩
    | false=>
      rw [hb] at h'
      obtain ⟨h1,h2⟩:=ih (k+1) i h'
      refine ⟨by omega,?_⟩
      obtain ⟨m,rfl⟩:∃ m,i=k+1+m:=⟨i - (k+1),by omega⟩
      rw [show k+1+m - (k+1)=m by omega] at h2
      rw [show k+1+m - k=m+1 by omega]
      exact h2
 obtain ⟨_,h2⟩:=this flayL 0 i h
 exact h2
theorem frzS_ok (hcc:cc.Ok C) {n c:SI} {cv:Int} {nv:Nat} (hc:c.den C.σ ρ=some cv) (hn:n.den C.σ ρ=some (Int.ofNat nv)):∃ y,(frzS n c).den C.σ ρ=some y∧flen C.σ y=nv∧∀ (κ:Kd) (j f:Nat),f < 24→κ.val C.σ y j f=κ.val C.σ cv j f:=by
 unfold frzS
 cases hb:n.beq c.fl with
 | true=>
   have:=SI.beq_eq hb;subst this
   simp only [SI.den,hc,Option.bind_some,Option.some.injEq] at hn
   exact ⟨cv,hc,hn,fun _ _ _ _=>rfl⟩
 | false=>
   cases hq:frzL n c with
   | true=>
     refine ⟨cv,hc,?_,fun _ _ _ _=>rfl⟩
     unfold frzL at hq
     split at hq
     ·rename_i c' m a2 a3 a4 a5
      rw [cond_true_iff] at hq
      obtain ⟨hq,hm⟩:=hq
      have:=SI.beq_eq hm;subst this
      unfold frzQ at hq
      simp only [cond_true_iff] at hq
      obtain ⟨q4,q5,q3,q2,_⟩:=hq
      have:=SI.beq_eq q4;subst this
      have:=SI.beq_eq q5;subst this
      have:=SI.beq_eq q3;subst this
      have:=SI.beq_eq q2;subst this
      simp only [SI.den,hn,Option.bind_eq_some_iff,Option.some.injEq] at hc
      obtain ⟨c0,e0,n0,e1,g0,rfl,x0,rfl,o0,rfl,z1,rfl,rfl⟩:=hc
      subst e1
      exact hcc.al.fl nv c0
     ·cases hq
   | false=>
   refine ⟨frz C.σ nv cv,by simp only [cond_false,SI.den,hc,hn,Option.bind_some];rfl,hcc.al.fl nv cv,fun κ j f hf=>hcc.al.fc κ nv cv j f hf⟩
def Dyn.setFz (ρ:Dyn) (b:Nat) (o:Obj):Dyn:={ ρ with fz:=fun j=>if j=b then some o else ρ.fz j }
theorem Dyn.le_setFz {ρ:Dyn} {b:Nat} {o:Obj} (h:∀ o',ρ.fz b=some o'→o'=o):ρ.Le (ρ.setFz b o):=
 ⟨fun _ _ e=>e,fun _ _ e=>e,fun _ _ e=>e,fun j x e=>by
  show (if j=b then some o else ρ.fz j)=some x
  split
  ·rename_i hj;subst hj;rw [h x e]
  ·exact e⟩
theorem HpRel.setFz (h:HpRel C hc w0 ρ H w) {b:Nat} {o:Obj} (hb:w.heap[b]? = some o) (hh:hc b=none) (hw:¬ Own ρ H.heap b) (h0:w0.heap.size≤b∨C.X b):ρ.Le (ρ.setFz b o)∧HpRel C hc w0 (ρ.setFz b o) H w∧Tn ρ H w (ρ.setFz b o) H w:=by
 have hle:ρ.Le (ρ.setFz b o):=Dyn.le_setFz fun o' e=>by
  have:=(h.fz b o' e).1.1
  rw [hb] at this;exact (Option.some.inj this).symm
 refine ⟨hle,⟨fun id bk e1 e2=>?_,h.inj,h.fb,h.fd,h.fv,h.lt,h.hb,h.hid,h.nh,fun f hf=>SB.den_mono hle _ _ (h.facts f hf),h.bd,fun j hj=>C.mono j ρ _ _ _ hle (fun _ _ hu=>hu) (h.phis j hj),fun c o' e=>?_,h.os,h.tape,h.output,h.size⟩,⟨⟨fun _ _=>rfl,fun _ _=>rfl,fun _ _=>rfl,hle.fz⟩,Hp.Ext.refl H,Nat.le_refl _,fun _ _ _ _ h=>.inl h,fun _ _ _ _ _=>rfl⟩⟩
 ·obtain ⟨c,o',h1,h2,h3⟩:=h.blk id bk e1 e2
  exact ⟨c,o',h1,h2,Bk.is_mono hle h3⟩
 ·have e':(if c=b then some o else ρ.fz c)=some o':=e
  split at e'
  ·rename_i hcb;subst hcb;cases e'
   exact ⟨⟨hb,hh,hw⟩,.inr h0⟩
  ·exact h.fz c o' e'
def appA1 (cc:Cc) (H:Hp) (e:TypeId) (lay:List Kd) (s:SV) (src:Src) (tot:SI):OpR:=
 match s with
 | .sn=>match dec (bdOf cc H) H.facts (.eq src.len (.c 0)) with
   | .yes true=>.val .sn H
   | .yes false=>catV cc H lay s src fun c=>growB H e lay c tot
   | .ask p=>.ask p
 | .fe=>bif lmem cc.ow e then (match dec (bdOf cc H) H.facts (.eq src.len (.c 0)) with
   | .yes true=>.val .fe H
   | .yes false=>catV cc H lay s src fun c=>growB H e lay c tot
   | .ask p=>.ask p)
   else match findLay lay with
    | some i=>catV cc H lay s src fun c=>.val (.fs i (frzS src.len c)) H
    | none=>.bad 336
 | .sl r o n cap=>match ownA H e lay r o cap with
   | some id=>match dec (bdOf cc H) H.facts (.le tot cap) with
     | .yes true=>catV cc H lay s src fun c=>.val (.sl (.n id) (.c 0) tot cap) (H.put id (.arr lay c tot e cap))
     | _=>catV cc H lay s src fun c=>.val (.sl (.n H.nb) (.c 0) tot (.d H.nd)) (((H.num tot).alloc (.arr lay c tot e (.d H.nd))).put id .gone)
   | none=>match dec (bdOf cc H) H.facts (.le tot cap) with
     | .yes false=>catV cc H lay s src fun c=>growB H e lay c tot
     | .yes true=>need cc H (.eq src.len (.c 0)) 333 (.val (.sl r o n cap) H)
     | .ask p=>.ask p
 | _=>.bad 334
def askB (cc:Cc) (H:Hp) (tot:SI):OpR:=match dec (bdOf cc H) H.facts (.le tot (.c 16777216)) with | .ask p=>.ask p | _=>.bad 335
theorem askB_ok (hcc:cc.Ok C) (h:HpRel C hc w0 ρ H w) {tot:SI} {x:Int} (ht:tot.den C.σ ρ=some x) (s:Sem Next):(askB cc H tot).Ok cc C hc w0 ρ H w s:=by
 unfold askB
 split
 ·rename_i p hd
  exact ask_den (bdOf_ok hcc h) h.facts (p:=.le tot (.c 16777216)) (x:=decide (x≤16777216)) (by simp [SB.den,ht,SI.den]) hd
 ·trivial
theorem lenA_den {s:SV} {us:Value} (hs:s.Is C.σ ρ us):∃ x,(lenA s).den C.σ ρ=some x:=by
 cases s<;>simp only [lenA]<;>try exact ⟨0,rfl⟩
 ·simp only [SV.Is] at hs
  obtain ⟨_,_,_,_,_,_,e3,_⟩:=hs
  exact ⟨_,e3⟩
 ·simp only [SV.Is] at hs
  obtain ⟨yv,e1,_⟩:=hs
  exact ⟨_,SI.fl_den e1⟩
def appA (cc:Cc) (H:Hp) (e:TypeId) (lay:List Kd) (bytes:Nat) (s x:SV):OpR:=
 match srcB cc H lay x with
 | .ask p=>.ask p
 | .no=>.bad 332
 | src=>bif fitsB cc H (SI.add (lenA s) src.len) bytes then appA1 cc H e lay s src (SI.add (lenA s) src.len) else askB cc H (SI.add (lenA s) src.len)
theorem firstCells_inj {P:Program} {w w':World} {k n:Nat} {u:Value} {a b:List Value} (h1:(Builtin.firstCells k n u).run P w=.ok a.toArray w') (h2:(Builtin.firstCells k n u).run P w=.ok b.toArray w'):a=b:=by
 rw [h1] at h2
 injection h2 with h2
 exact congrArg Array.toList h2
theorem cat_ar {σ:Sta} {F:Nat→Option Obj} {lay:List Kd} {cv' bv sv:Int} {jv nv mv:Nat} {os us rest:List Value} (hos:os.length=nv * lay.length) (hus:us.length=mv * lay.length)
  (h1:∀ i,i < nv→∀ f κ,lay[f]? = some κ→KR σ F κ (κ.val σ sv (jv+i) f) (os[i * lay.length+f]?)) (h2:∀ i,i < nv→∀ (κ:Kd) (f:Nat),κ.val σ bv i f=κ.val σ sv (jv+i) f)
  (h3:∀ i,i < nv+mv→∀ f κ,lay[f]? = some κ→(i < nv→κ.val σ cv' i f=κ.val σ bv i f)∧(¬ i < nv→KR σ F κ (κ.val σ cv' i f) (us[(i - nv) * lay.length+f]?))) :
  ArIs σ F lay cv' (nv+mv) 0 (fun i=>(os++us++rest)[i]?):=by
 intro i hi f κ hκ
 have hf:f < lay.length:=(List.getElem?_eq_some_iff.1 hκ).1
 dsimp only
 obtain ⟨k1,k2⟩:=h3 i hi f κ hκ
 rw [Nat.zero_add]
 by_cases hin:i < nv
 ·have:(i+1) * lay.length≤nv * lay.length:=Nat.mul_le_mul_right _ hin
  rw [Nat.add_mul] at this
  rw [k1 hin,h2 i hin κ f,List.append_assoc,List.getElem?_append_left (by omega)]
  exact h1 i hin f κ hκ
 ·have k2':=k2 hin
  obtain ⟨q,rfl⟩:∃ q,i=nv+q:=⟨i - nv,by omega⟩
  have:(q+1) * lay.length≤mv * lay.length:=Nat.mul_le_mul_right _ (by omega)
  rw [Nat.add_mul] at this ⊢
  rw [List.append_assoc,List.getElem?_append_right (by omega),List.getElem?_append_left (by omega),hos]
  have e2:nv+q - nv=q:=by omega
  rw [e2] at k2'
  rw [show nv * lay.length+q * lay.length+f - nv * lay.length=q * lay.length+f by omega]
  exact k2'
theorem run_append_in0 {P:Program} {w:World} (t ty e:TypeId) (i:TypeInfo) (ht:P.underlying t=some (.slice e)) (hi:P.info? e=some i) (x:Addr) (a:Option Addr) (c:Nat)
  (hf:(Builtin.firstCells i.size 0 (.slice a 0 c)).run P w=.ok #[] w) :
  (Builtin.append_ #[t,t] ty #[.slice (some x) 0 0,.slice a 0 c]).run P w=.ok (.slice (some x) 0 0) w:=by
 simp [Builtin.append_,run_underlying ht,sizeOf,typeInfo,hi,Builtin.lenOf,hf,storeCells]
theorem appA_ok (hcc:cc.Ok C) (h:HpRel C hc w0 ρ H w) {t ty e:TypeId} {i:TypeInfo} {z:Value} (ht:cc.P.underlying t=some (.slice e)) (hi:cc.P.info? e=some i) (hz:i.zero=some z) (hzs:z.cells.size=i.size) {lay:List Kd} (hlay:0 < lay.length) (hli:lay.length=i.size)
  {s x:SV} {us ux:Value} (hs:s.Is C.σ ρ us) (hx:x.Is C.σ ρ ux):(appA cc H e lay i.bytes s x).Ok cc C hc w0 ρ H w (do pure (.value (← Builtin.append_ #[t,t] ty #[us,ux]))):=by
 have hsrc:=srcB_ok hcc h hlay hx
 unfold appA
 have main:∀ src:Src,(∃ a cap mv vs,ux=.slice a mv cap∧src.Is cc C ρ lay vs mv∧vs.length=mv * lay.length∧(∀ v∈vs,v.oneCell'=true)∧∀ w2:World,w2.heap=w.heap→(Builtin.firstCells lay.length mv (.slice a mv cap)).run cc.P w2=.ok vs.toArray w2)→
   (bif fitsB cc H (SI.add (lenA s) src.len) i.bytes then appA1 cc H e lay s src (SI.add (lenA s) src.len) else askB cc H (SI.add (lenA s) src.len)).Ok cc C hc w0 ρ H w (do pure (.value (← Builtin.append_ #[t,t] ty #[us,ux]))):=by
  rintro src ⟨a,capx,mv,vs,rfl,hsi,hvl,hv1,hfx⟩
  have hm:=Src.len_den hsi
  obtain ⟨lx,hlx⟩:=lenA_den hs
  have htd:=SI.add_den hlx hm
  obtain ⟨tot,htt⟩:∃ tot,tot=SI.add (lenA s) src.len:=⟨_,rfl⟩
  rw [← htt] at htd ⊢
  cases hfit:fitsB cc H tot i.bytes with
  | false=>exact askB_ok hcc h htd _
  | true=>
    simp only [cond_true]
    have hcat:∀ (r:SI→OpR),(∀ (c':SI) (cv' bv sv:Int) (jv nv:Nat) (os:List Value) (aS:Option Addr) (capS:Nat),us=.slice aS nv capS→(lenA s).den C.σ ρ=some (Int.ofNat nv)→c'.den C.σ ρ=some cv'→os.length=nv * lay.length→
      (∀ i,i < nv→∀ f κ,lay[f]? = some κ→KR C.σ ρ.fz κ (κ.val C.σ sv (jv+i) f) (os[i * lay.length+f]?))→(∀ i,i < nv→∀ (κ:Kd) (f:Nat),κ.val C.σ bv i f=κ.val C.σ sv (jv+i) f)→
      (∀ i,i < nv+mv→∀ f κ,lay[f]? = some κ→(i < nv→κ.val C.σ cv' i f=κ.val C.σ bv i f)∧(¬ i < nv→KR C.σ ρ.fz κ (κ.val C.σ cv' i f) (vs[(i - nv) * lay.length+f]?)))→
      (∀ w2:World,w2.heap=w.heap→(Builtin.firstCells lay.length nv (.slice aS nv capS)).run cc.P w2=.ok os.toArray w2)→(r c').Ok cc C hc w0 ρ H w (do pure (.value (← Builtin.append_ #[t,t] ty #[us,.slice a mv capx]))))→
      (catV cc H lay s src r).Ok cc C hc w0 ρ H w (do pure (.value (← Builtin.append_ #[t,t] ty #[us,.slice a mv capx]))):=by
     intro r hr
     unfold catV
     have hvw:=viewA_ok hcc h hlay hs
     cases hvS:viewA cc H lay s with
     | no=>trivial
     | ask p=>rw [hvS] at hvw;exact hvw
     | ok c j n=>
       rw [hvS] at hvw
       obtain ⟨aS,capS,nv,sv,jv,os,hus,g1,g2,g3,g4,g5,_,g6⟩:=hvw
       obtain ⟨bv,b1,b2⟩:=baseC_ok hcc g1 g2 g3
       dsimp only
       cases hcb:catB cc H lay (baseC c j n) n src with
       | no=>trivial
       | ask p=>exact catB_ask hcc h hsi hcb
       | ok c'=>
         obtain ⟨cv',k1,k2⟩:=catB_ok hcc h hlay b1 g3 hsi hvl hcb
         have hlen:(lenA s).den C.σ ρ=some (Int.ofNat nv):=by
          cases s<;>simp only [viewA,viewA1] at hvS<;>try (cases hvS;done)
          ·simp only [SV.Is] at hs
           obtain ⟨b',k',len',cap',f1,f2,f3,f4,hu'⟩:=hs
           rw [hus] at hu'
           injection hu' with _ hu' _
           subst hu'
           exact f3
          ·simp only [SV.Is] at hs
           rw [hus] at hs
           injection hs with _ hs _
           subst hs
           rfl
          ·simp only [SV.Is] at hs
           obtain ⟨yv,f1,f2⟩:=hs
           obtain ⟨a',len',cap',hu',_,f3,_⟩:=f2.cells
           rw [hus] at hu'
           injection hu' with _ hu' _
           subst hu'
           simp only [lenA,SI.den,f1,Option.bind_some]
           exact congrArg some f3
          ·simp only [SV.Is] at hs
           obtain ⟨a',hu',_⟩:=hs
           rw [hus] at hu'
           injection hu' with _ hu' _
           subst hu'
           rfl
         exact hr c' cv' bv sv jv nv os aS capS hus hlen k1 g4 g5 b2 k2 g6
    have hgrow:∀ (c':SI) (cv' bv sv:Int) (jv nv:Nat) (os:List Value) (aS:Option Addr) (capS:Nat),us=.slice aS nv capS→(lenA s).den C.σ ρ=some (Int.ofNat nv)→c'.den C.σ ρ=some cv'→os.length=nv * lay.length→
      (∀ i,i < nv→∀ f κ,lay[f]? = some κ→KR C.σ ρ.fz κ (κ.val C.σ sv (jv+i) f) (os[i * lay.length+f]?))→(∀ i,i < nv→∀ (κ:Kd) (f:Nat),κ.val C.σ bv i f=κ.val C.σ sv (jv+i) f)→
      (∀ i,i < nv+mv→∀ f κ,lay[f]? = some κ→(i < nv→κ.val C.σ cv' i f=κ.val C.σ bv i f)∧(¬ i < nv→KR C.σ ρ.fz κ (κ.val C.σ cv' i f) (vs[(i - nv) * lay.length+f]?)))→
      (∀ w2:World,w2.heap=w.heap→(Builtin.firstCells lay.length nv (.slice aS nv capS)).run cc.P w2=.ok os.toArray w2)→capS < nv+mv→
      (growB H e lay c' tot).Ok cc C hc w0 ρ H w (do pure (.value (← Builtin.append_ #[t,t] ty #[us,.slice a mv capx]))):=by
     intro c' cv' bv sv jv nv os aS capS hus hln k1 g4 g5 b2 k2 g6 hlt
     have htot:tot.den C.σ ρ=some (Int.ofNat (nv+mv)):=by
      rw [htt,SI.add_den hln hm];rfl
     obtain ⟨f1,f2⟩:=fitsB_ok hcc h htot hfit
     have hrun:=run_append_out (P:=cc.P) (w:=w) t ty e i z ht hi hz aS nv capS a mv capx os vs (by rw [← hli];exact g6 w.drew rfl) (by rw [← hli];exact hfx w.drew rfl) hlt f1 f2
     rw [hus]
     refine growB_ok (cap:=grownCap w (nv+mv) capS e) h k1 htot (grownCap_ge w (nv+mv) capS e) ?_ ?_ hrun
     ·have hge:=grownCap_ge w (nv+mv) capS e
      simp only [Array.size_append,List.size_toArray,size_zeroCells,hzs,← hli,g4,hvl]
      rw [← Nat.add_mul,← Nat.add_mul]
      congr 1;omega
     ·have:=cat_ar (rest:=(Builtin.zeroCells z.cells (grownCap w (nv+mv) capS e - (nv+mv))).toList) g4 hvl g5 b2 k2
      intro j hj f κ hκ
      have:=this j hj f κ hκ
      dsimp only at this ⊢
      rw [← Array.getElem?_toList]
      simpa using this
    unfold appA1
    have hmeq:(SB.eq src.len (.c 0)).den C.σ ρ=some (decide ((Int.ofNat mv)=0)):=by simp [SB.den,SI.den,hm]
    split
    ·rename_i sx
     split
     ·rename_i hd
      have:=dec_ok (bdOf_ok hcc h) h.facts hmeq hd
      have hm0:mv=0:=by simpa using this.symm
      subst hm0
      simp only [SV.Is] at hs
      subst hs
      exact OpR.ok_pure h (u:=.slice none 0 0) (run_append_none t ty e i ht hi a capx (by
       rw [← hli]
       have:=hfx w rfl
       have hv0:vs=[]:=List.eq_nil_of_length_eq_zero (by rw [hvl];simp)
       rw [hv0] at this;exact this)) (by simp only [SV.Is])
     ·rename_i hd
      have:=dec_ok (bdOf_ok hcc h) h.facts hmeq hd
      have hm0:mv≠0:=by simpa using this.symm
      refine hcat _ fun c' cv' bv sv jv nv os aS capS hus hln k1 g4 g5 b2 k2 g6=>hgrow c' cv' bv sv jv nv os aS capS hus hln k1 g4 g5 b2 k2 g6 ?_
      simp only [SV.Is] at hs
      rw [hus] at hs
      injection hs with _ _ hs
      subst hs;omega
     ·rename_i p hd
      exact ask_den (bdOf_ok hcc h) h.facts hmeq hd
    ·rename_i sx
     have hs0:=hs
     simp only [SV.Is] at hs0
     obtain ⟨a0,hu0,ha0⟩:=hs0
     have none0:mv=0→(Builtin.append_ #[t,t] ty #[us,.slice a mv capx]).run cc.P w=.ok us w:=by
      intro hm0
      subst hm0
      have hv0:vs=[]:=List.eq_nil_of_length_eq_zero (by rw [hvl];simp)
      have hf0:=hfx w rfl
      rw [hv0] at hf0
      rw [hu0]
      rcases ha0 with rfl | ⟨x0,rfl⟩
      ·exact run_append_none t ty e i ht hi a capx (by rw [← hli];exact hf0)
      ·exact run_append_in0 (P:=cc.P) (w:=w) t ty e i ht hi x0 a capx (by rw [← hli];exact hf0)
     cases how:lmem cc.ow e with
     | true=>
       simp only [cond_true]
       split
       ·rename_i hd
        have:=dec_ok (bdOf_ok hcc h) h.facts hmeq hd
        have hm0:mv=0:=by simpa using this.symm
        exact OpR.ok_pure h (u:=us) (none0 hm0) hs
       ·rename_i hd
        have:=dec_ok (bdOf_ok hcc h) h.facts hmeq hd
        have hm0:mv≠0:=by simpa using this.symm
        refine hcat _ fun c' cv' bv sv jv nv os aS capS hus hln k1 g4 g5 b2 k2 g6=>hgrow c' cv' bv sv jv nv os aS capS hus hln k1 g4 g5 b2 k2 g6 ?_
        rw [hus] at hu0
        injection hu0 with _ hu1 hu2
        subst hu1 hu2;omega
       ·rename_i p hd
        exact ask_den (bdOf_ok hcc h) h.facts hmeq hd
     | false=>
       simp only [cond_false]
       split
       ·rename_i fi hfi
        have hlf:=findLay_ok hfi
        refine hcat _ fun c' cv' bv sv jv nv os aS capS hus hln k1 g4 g5 b2 k2 g6=>?_
        have hu1:=hu0
        rw [hus] at hu1
        injection hu1 with hu1 hu2 hu3
        subst hu1 hu2 hu3
        obtain ⟨y,y1,y2,y3⟩:=frzS_ok hcc k1 hm
        have hlen1000:=flay_len fi
        by_cases hm0:mv=0
        ·refine OpR.ok_pure h (u:=us) (none0 hm0) ?_
         simp only [SV.Is]
         refine ⟨y,y1,?_⟩
         rw [hus]
         exact .nil _ _ _ _ (by rw [y2,hm0];rfl) ha0
        ·have htot:tot.den C.σ ρ=some (Int.ofNat (0+mv)):=by
          rw [htt,SI.add_den hln hm];rfl
         obtain ⟨f1,f2⟩:=fitsB_ok hcc h htot hfit
         have hrun:=run_append_out (P:=cc.P) (w:=w) t ty e i z ht hi hz aS 0 0 a mv capx os vs (by rw [← hli];exact g6 w.drew rfl) (by rw [← hli];exact hfx w.drew rfl) (by omega) f1 f2
         have hos0:os=[]:=List.eq_nil_of_length_eq_zero (by rw [g4];simp)
         subst hos0
         have hAr:=cat_ar (rest:=(Builtin.zeroCells z.cells (grownCap w (0+mv) 0 e - (0+mv))).toList) g4 hvl g5 b2 k2
         have hge:=grownCap_ge w (0+mv) 0 e
         generalize hA:(([]:List Value).toArray++vs.toArray++Builtin.zeroCells z.cells (grownCap w (0+mv) 0 e - (0+mv)))=A at hrun
         have hAl:A.toList=[]++vs++(Builtin.zeroCells z.cells (grownCap w (0+mv) 0 e - (0+mv))).toList:=by rw [← hA];simp
         have hb0:Below w.heap.size w (w.drew.alloc (.cells A e (0,0))):=((Below.refl _ w).drew).alloc (Nat.le_refl _) _
         have h2:=h.below hb0
         have hnew:(w.drew.alloc (.cells A e (0,0))).heap[w.heap.size]? = some (.cells A e (0,0)):=by
          show (w.heap.push _)[w.heap.size]? = _
          simp
         obtain ⟨q1,q2,q3⟩:=h2.setFz hnew (h.hc_lt (Nat.le_refl _)) (fun ⟨id,bk,e1,e2,e3⟩=>by have:=h.lt id _ e3;omega) (.inl h.size)
         refine ⟨_,.value (.slice (some ⟨w.heap.size,0,none⟩) (0+mv) (grownCap w (0+mv) 0 e)),.slice (some ⟨w.heap.size,0,none⟩) (0+mv) (grownCap w (0+mv) 0 e),_,(Tn.of_below hb0).trans q3,?_,.inl rfl,?_,q2⟩
         ·simp [hus,hrun]
         ·simp only [SV.Is]
          refine ⟨y,SI.den_mono q1 _ _ y1,Fz.of (A:=A) (t:=e) (g:=(0,0)) (by show (if w.heap.size=w.heap.size then some _ else _)=_;rw [if_pos rfl]) (by rw [y2];simp) hge fun j hj f κ hκ=>?_⟩
          have hf:f < (flay fi).length:=(List.getElem?_eq_some_iff.1 hκ).1
          rw [← hlf] at hκ ⊢
          have:=hAr j hj f κ hκ
          rw [y3 κ j f (by omega)]
          dsimp only at this
          rw [← hAl] at this
          have:=this.mono q1.fz
          rw [Array.getElem?_toList] at this
          exact this
       ·trivial
    ·rename_i sx r o n cap
     have hs0:=hs
     simp only [SV.Is] at hs0
     obtain ⟨b,k,nv0,capv,e1,e2,e3,e4,hu0⟩:=hs0
     split
     ·rename_i id hown
      obtain ⟨bk,A,o1,o2,o3,o4,o5,o6⟩:=ownA_ok h e1 e2 e4 hown
      subst o4
      split
      ·rename_i hdec
       refine hcat _ fun c' cv' bv sv jv nv os aS capS hus hln k1 g4 g5 b2 k2 g6=>?_
       rw [hus] at hu0
       injection hu0 with hu1 hu2 hu3
       subst hu1 hu2 hu3
       have htot:tot.den C.σ ρ=some (Int.ofNat (nv+mv)):=by
        rw [htt,SI.add_den hln hm];rfl
       have hroom:nv+mv≤capS:=by
        have hle:(SB.le tot cap).den C.σ ρ=some (decide (Int.ofNat (nv+mv)≤Int.ofNat capS)):=by simp [SB.den,htot,e4]
        have:=dec_ok (bdOf_ok hcc h) h.facts hle hdec
        exact Int.ofNat_le.1 (by simpa using this.symm)
       have hmul:(nv+mv) * lay.length≤capS * lay.length:=Nat.mul_le_mul_right _ hroom
       rw [Nat.add_mul] at hmul
       have hA1:(A.toList.take (nv * lay.length)).length=nv * lay.length:=by
        have:A.toList.length=A.size:=by simp
        rw [List.length_take];omega
       have hosA:os=A.toList.take (nv * lay.length):=by
        refine firstCells_inj (g6 w rfl) (run_firstCells_some w _ _ _ _ _ _ hA1 fun p v hp=>?_)
        rw [addr_add]
        rw [List.getElem?_take] at hp
        split at hp
        ·simp only [World.cell?,o5]
         simpa using hp
        ·cases hp
       have hst:=run_storeCells_at (P:=cc.P) b (nv * lay.length) e vs 0 A w o5 (by simp;omega) hv1
       have hlist:(A.toList.take (nv * lay.length+0)++vs++A.toList.drop (nv * lay.length+0+vs.length))=os++vs++A.toList.drop (nv * lay.length+vs.length):=by rw [hosA];rfl
       rw [hlist] at hst
       have hrun:=run_append_in (P:=cc.P) t ty e i ht hi b 0 nv capS a mv capx vs (by rw [← hli];exact hfx w rfl) hroom (by rw [Nat.zero_add,← hli];exact hst)
       have hbk:(Bk.arr lay c' tot e cap).Is C.σ ρ (.cells (os++vs++A.toList.drop (nv * lay.length+vs.length)).toArray e (0,0)):=by
        refine ⟨cv',nv+mv,capS,_,k1,htot,e4,hroom,?_,?_,rfl⟩
        ·have:A.toList.length=A.size:=by simp
         simp only [List.size_toArray,List.length_append,List.length_drop,g4,hvl];omega
        ·have:=cat_ar (rest:=A.toList.drop (nv * lay.length+vs.length)) g4 hvl g5 b2 k2
         intro j hj f κ hκ
         have:=this j hj f κ hκ
         simpa using this
       have h2:=h.put o1 o2 (b:=b) o3 (bk':=.arr lay c' tot e cap) rfl hbk (w':=w.setRow b (os++vs++A.toList.drop (nv * lay.length+vs.length)).toArray)
        (fun j hj=>setRow_other _ _ _ _ hj) (setRow_heap _ _ _ _ _ _ o5) (by simp) rfl rfl rfl
       refine ⟨ρ,.value (.slice (some ⟨b,0,none⟩) (nv+mv) capS),.slice (some ⟨b,0,none⟩) (nv+mv) capS,_,Tn.of_put o3 (fun j hj=>setRow_other _ _ _ _ hj) (by simp),?_,.inl rfl,?_,h2⟩
       ·simp [hus,hrun]
       ·simp only [SV.Is,SR.den]
        exact ⟨b,0,nv+mv,capS,o3,rfl,htot,e4,rfl⟩
      ·refine hcat _ fun c' cv' bv sv jv nv os aS capS hus hln k1 g4 g5 b2 k2 g6=>?_
       rw [hus] at hu0
       injection hu0 with hu1 hu2 hu3
       subst hu1 hu2 hu3
       have htot:tot.den C.σ ρ=some (Int.ofNat (nv+mv)):=by
        rw [htt,SI.add_den hln hm];rfl
       by_cases hroom:nv+mv≤capS
       ·
        have hmul:(nv+mv) * lay.length≤capS * lay.length:=Nat.mul_le_mul_right _ hroom
        rw [Nat.add_mul] at hmul
        have hA1:(A.toList.take (nv * lay.length)).length=nv * lay.length:=by
         have:A.toList.length=A.size:=by simp
         rw [List.length_take];omega
        have hosA:os=A.toList.take (nv * lay.length):=by
         refine firstCells_inj (g6 w rfl) (run_firstCells_some w _ _ _ _ _ _ hA1 fun p v hp=>?_)
         rw [addr_add]
         rw [List.getElem?_take] at hp
         split at hp
         ·simp only [World.cell?,o5]
          simpa using hp
         ·cases hp
        have hst:=run_storeCells_at (P:=cc.P) b (nv * lay.length) e vs 0 A w o5 (by simp;omega) hv1
        have hlist:(A.toList.take (nv * lay.length+0)++vs++A.toList.drop (nv * lay.length+0+vs.length))=os++vs++A.toList.drop (nv * lay.length+vs.length):=by rw [hosA];rfl
        rw [hlist] at hst
        have hrun:=run_append_in (P:=cc.P) t ty e i ht hi b 0 nv capS a mv capx vs (by rw [← hli];exact hfx w rfl) hroom (by rw [Nat.zero_add,← hli];exact hst)
        have h1:=h.num (lo:=tot) (n:=capS) (k:=nv+mv) htot hroom
        have hle1:ρ.Le (ρ.setDi H.nd capS):=Dyn.le_setDi (h.fd _ (Nat.le_refl _))
        have hd:(SI.d H.nd).den C.σ (ρ.setDi H.nd capS)=some (Int.ofNat capS):=by
         show ((ρ.setDi H.nd capS).di H.nd).map Int.ofNat=_
         rw [Dyn.setDi_same];rfl
        have hbk:(Bk.arr lay c' tot e (.d H.nd)).Is C.σ (ρ.setDi H.nd capS) (.cells (os++vs++A.toList.drop (nv * lay.length+vs.length)).toArray e (0,0)):=by
         refine ⟨cv',nv+mv,capS,_,SI.den_mono hle1 _ _ k1,SI.den_mono hle1 _ _ htot,hd,hroom,?_,?_,rfl⟩
         ·have:A.toList.length=A.size:=by simp
          simp only [List.size_toArray,List.length_append,List.length_drop,g4,hvl];omega
         ·have:=cat_ar (rest:=A.toList.drop (nv * lay.length+vs.length)) g4 hvl g5 b2 k2
          intro j hj f κ hκ
          have:=this j hj f κ hκ
          refine KR.mono (F:=ρ.fz) (fun _ _ h=>h) ?_
          simpa using this
        have hg1:get (H.num tot).heap id=some bk:=o1
        have h2:=h1.put hg1 o2 (b:=b) o3 (bk':=.arr lay c' tot e (.d H.nd)) rfl hbk (w':=w.setRow b (os++vs++A.toList.drop (nv * lay.length+vs.length)).toArray)
         (fun j hj=>setRow_other _ _ _ _ hj) (setRow_heap _ _ _ _ _ _ o5) (by simp) rfl rfl rfl
        have hg2:get ((H.num tot).put id (.arr lay c' tot e (.d H.nd))).heap id=some (.arr lay c' tot e (.d H.nd)):=by
         show get ((id,_)::_) id=_
         rw [get_cons,if_pos rfl]
        have h3:=h2.rename hg2 rfl (b:=b) o3
        have hlog:∀ j,get ((((H.num tot).put id (.arr lay c' tot e (.d H.nd))).alloc (.arr lay c' tot e (.d H.nd))).put id .gone).heap j=get (((H.num tot).alloc (.arr lay c' tot e (.d H.nd))).put id .gone).heap j:=by
         intro j
         simp only [Hp.put,Hp.alloc,Hp.num,get_cons]
         by_cases hj:id=j
         ·simp [hj]
         ·simp [hj]
        have h5:=h3.relog (H':=((H.num tot).alloc (.arr lay c' tot e (.d H.nd))).put id .gone) hlog rfl rfl rfl rfl rfl rfl
        have hrs:Tn ρ H w ((ρ.setDi H.nd capS).setBl H.nb b) (((H.num tot).alloc (.arr lay c' tot e (.d H.nd))).put id .gone) (w.setRow b (os++vs++A.toList.drop (nv * lay.length+vs.length)).toArray):=by
         have hl:∀ l',(((H.num tot).alloc (.arr lay c' tot e (.d H.nd))).put id .gone).heap=l'++H.heap→l'=[(id,.gone),(H.nb,.arr lay c' tot e (.d H.nd))]:=fun l' hl'=>
          List.append_cancel_right (bs:=H.heap) (by rw [← hl'];rfl)
         refine ⟨⟨fun j hj=>?_,fun j hj=>?_,fun _ _=>rfl,fun _ _ h=>h⟩,⟨⟨[(id,.gone),(H.nb,_)],rfl⟩,Nat.le_succ _,Nat.le_succ _,Nat.le_refl _,⟨[_],rfl⟩,⟨[],rfl⟩⟩,by simp,fun l' hl' j c2 ej=>?_,fun l' hl' c2 _ hno=>?_⟩
         ·show (if j=H.nb then some b else ρ.bl j)=_;rw [if_neg (by omega)]
         ·show (if j=H.nd then some capS else ρ.di j)=_;rw [if_neg (by omega)]
         ·have ej':(if j=H.nb then some b else ρ.bl j)=some c2:=ej
          split at ej'
          ·cases ej'
           refine .inr (.inr ⟨id,o3,?_⟩)
           rw [hl l' hl',get_cons,if_pos rfl];simp
          ·exact .inl ej'
         ·refine setRow_other _ _ _ _ fun ec=>?_
          subst ec
          have:=hno id o3
          rw [hl l' hl',get_cons,if_pos rfl] at this;cases this
        refine ⟨_,.value (.slice (some ⟨b,0,none⟩) (nv+mv) capS),.slice (some ⟨b,0,none⟩) (nv+mv) capS,_,hrs,?_,.inl rfl,?_,h5⟩
        ·simp [hus,hrun]
        ·simp only [SV.Is,SR.den]
         exact ⟨b,0,nv+mv,capS,Dyn.setBl_same _ _ _,rfl,SI.den_mono (hle1.trans (Dyn.le_setBl (h.fb _ (Nat.le_refl _)))) _ _ htot,hd,rfl⟩
       ·
        have hg1:=hgrow c' cv' bv sv jv nv os (some ⟨b,0,none⟩) capS hus hln k1 g4 g5 b2 k2 g6 (by omega)
        obtain ⟨ρ2,nx,u2,w2,p1,p2,p3,p4,p5⟩:=hg1
        have hid2:=h.hb id _ o1
        exact ⟨ρ2,nx,u2,w2,p1.trans Tn.of_drop,p2,p3,p4,p5.drop (Nat.lt_succ_of_lt hid2)⟩
     ·have htot0:tot.den C.σ ρ=some (Int.ofNat (nv0+mv)):=by
       rw [htt]
       show (SI.add n src.len).den C.σ ρ=_
       rw [SI.add_den e3 hm];rfl
      have hle:(SB.le tot cap).den C.σ ρ=some (decide (Int.ofNat (nv0+mv)≤Int.ofNat capv)):=by simp [SB.den,htot0,e4]
      split
      ·rename_i hd
       have:=dec_ok (bdOf_ok hcc h) h.facts hle hd
       have hlt:capv < nv0+mv:=by
        have:¬ (Int.ofNat (nv0+mv)≤Int.ofNat capv):=by simpa using this.symm
        have:¬ (nv0+mv≤capv):=fun hh=>this (Int.ofNat_le.2 hh)
        omega
       refine hcat _ fun c' cv' bv sv jv nv os aS capS hus hln k1 g4 g5 b2 k2 g6=>hgrow c' cv' bv sv jv nv os aS capS hus hln k1 g4 g5 b2 k2 g6 ?_
       rw [hus] at hu0
       injection hu0 with hu1 hu2 hu3
       subst hu2 hu3;exact hlt
      ·rename_i hd
       have:=dec_ok (bdOf_ok hcc h) h.facts hle hd
       have hroom:nv0+mv≤capv:=by
        have:(Int.ofNat (nv0+mv)≤Int.ofNat capv):=by simpa using this.symm
        exact Int.ofNat_le.1 this
       refine need_ok hcc h hmeq fun h0=>?_
       have hm0:mv=0:=by simpa using h0
       subst hm0
       have hv0:vs=[]:=List.eq_nil_of_length_eq_zero (by rw [hvl];simp)
       subst hv0
       refine OpR.ok_pure h (u:=us) ?_ hs
       have:=run_append_in (P:=cc.P) (w:=w) (w':=w) t ty e i ht hi b k nv0 capv a 0 capx [] (by rw [← hli];exact hfx w rfl) hroom rfl
       rw [hu0];exact this
      ·rename_i p hd
       exact ask_den (bdOf_ok hcc h) h.facts hle hd
    ·trivial
 cases hsb:srcB cc H lay x with
 | ask p=>rw [hsb] at hsrc;exact hsrc
 | no=>trivial
 | ex l m=>rw [hsb] at hsrc;exact main _ hsrc
 | vw c j m=>rw [hsb] at hsrc;exact main _ hsrc
def opAppendB (cc:Cc) (H:Hp) (ts:Array TypeId) (xs:List SV):OpR:=
 match opAppend cc H ts xs with
 | .bad n=>match ts.toList,xs with
   | [t,t'],[s,x]=>bif Nat.beq t t' then
     (match cc.P.underlying t with
     | some (.slice e)=>match cc.P.info? e,layT cc.P 6 e with
       | some i,some lay=>match i.zero with
         | some z=>bif Nat.beq z.cells.size i.size && (Nat.blt 0 (llen lay) && Nat.beq (llen lay) i.size) then appA cc H e lay i.bytes s x else .bad n
         | none=>.bad 341
       | _,_=>.bad 342
     | _=>.bad 343)
     else .bad 344
   | _,_=>.bad n
 | r=>r
theorem opAppendB_ok (hcc:cc.Ok C) (h:HpRel C hc w0 ρ H w) {ts:Array TypeId} {ty:TypeId} {xs:List SV} {us:List Value} (hx:SV.IsL C.σ ρ xs us):(opAppendB cc H ts xs).Ok cc C hc w0 ρ H w (do pure (.value (← Builtin.append_ ts ty us.toArray))):=by
 have h0:=opAppend_ok hcc h (ts:=ts) (ty:=ty) hx
 unfold opAppendB
 split
 ·split
  ·rename_i t t' s x hts _
   rw [SV.isL_cons] at hx
   obtain ⟨u,r,rfl,h1,h2⟩:=hx
   rw [SV.isL_cons] at h2
   obtain ⟨v,r',rfl,h2,h3⟩:=h2
   rw [SV.isL_nil] at h3
   subst h3
   cases hb:Nat.beq t t' with
   | false=>trivial
   | true=>
     have:=Nat.eq_of_beq_eq_true hb
     subst this
     have hts':ts=#[t,t]:=by apply Array.ext';exact hts
     subst hts'
     simp only [cond_true]
     split
     ·rename_i e he
      split
      ·rename_i i lay hi hl
       split
       ·rename_i z hz
        cases hck:(Nat.beq z.cells.size i.size && (Nat.blt 0 (llen lay) && Nat.beq (llen lay) i.size)) with
        | false=>trivial
        | true=>
          simp only [Bool.and_eq_true] at hck
          obtain ⟨q1,q2,q3⟩:=hck
          rw [llen_eq] at q2 q3
          exact appA_ok hcc h he hi hz (Nat.eq_of_beq_eq_true q1) (by simpa [Nat.blt_eq] using q2) (Nat.eq_of_beq_eq_true q3) h1 h2
       ·trivial
      ·trivial
     ·trivial
  ·trivial
 ·exact h0
end
end
end Go.Sx
namespace Go.Sx
set_option linter.unusedVariables false
set_option linter.unusedSimpArgs false
open Go.RowKit
inductive StR where
 | ok (H:Hp)
 | ask (p:SB)
 | no
noncomputable def stoB (cc:Cc) (H:Hp) (id:Nat) (j cnt c' j':SI):StR:=
 match get H.heap id with
 | some (.arr lay c n t cp)=>match dec (bdOf cc H) H.facts (.le (SI.add j cnt) cp) with
   | .yes true=>match dec (bdOf cc H) H.facts (.le (SI.add j cnt) n) with
     | .yes true=>.ok (H.put id (.arr lay (.ap 9 c j c' j' cnt (.c 0)) n t cp))
     | .yes false=>match dec (bdOf cc H) H.facts (.le j n) with
       | .yes true=>.ok (H.put id (.arr lay (.ap 9 c j c' j' cnt (.c 0)) (SI.add j cnt) t cp))
       | .yes false=>.no
       | .ask p=>.ask p
     | .ask p=>.ask p
   | .yes false=>.no
   | .ask p=>.ask p
 | _=>.no
section
variable {cc:Cc} {C:Ct} {hc:Nat→Option Obj} {w0:World} {ρ:Dyn} {H:Hp} {w:World}
theorem stoB_ask (hcc:cc.Ok C) (h:HpRel C hc w0 ρ H w) {id:Nat} {j cnt c' j':SI} {jv mv:Nat} (hj:j.den C.σ ρ=some (Int.ofNat jv)) (hm:cnt.den C.σ ρ=some (Int.ofNat mv)) {q:SB} (hs:stoB cc H id j cnt c' j'=.ask q):∃ b,q.den C.σ ρ=some b:=by
 unfold stoB at hs
 split at hs
 ·rename_i lay c n t cp hg
  obtain ⟨b,o,e1,e2,cv,nv,cpv,A,h1,h2,h3,h4⟩:=h.blk id _ hg rfl
  have hadd:=SI.add_den hj hm
  have d1:(SB.le (SI.add j cnt) cp).den C.σ ρ=some (decide (Int.ofNat jv+Int.ofNat mv≤Int.ofNat cpv)):=by simp [SB.den,hadd,h3]
  have d2:(SB.le (SI.add j cnt) n).den C.σ ρ=some (decide (Int.ofNat jv+Int.ofNat mv≤Int.ofNat nv)):=by simp [SB.den,hadd,h2]
  have d3:(SB.le j n).den C.σ ρ=some (decide (Int.ofNat jv≤Int.ofNat nv)):=by simp [SB.den,hj,h2]
  split at hs
  ·split at hs
   ·cases hs
   ·split at hs
    ·cases hs
    ·cases hs
    ·rename_i p hd;cases hs;exact ask_den (bdOf_ok hcc h) h.facts d3 hd
   ·rename_i p hd;cases hs;exact ask_den (bdOf_ok hcc h) h.facts d2 hd
  ·cases hs
  ·rename_i p hd;cases hs;exact ask_den (bdOf_ok hcc h) h.facts d1 hd
 ·cases hs
theorem blit_ar {σ:Sta} {F:Nat→Option Obj} (al:ArrLaw σ) {lay:List Kd} {A:List Value} {us:List Value} {cv cv':Int} {jv jv' mv nv n2:Nat} (hlen:us.length=mv * lay.length) (hA:(jv+mv) * lay.length≤A.length)
  (ha:∀ i,i < nv→∀ (f:Nat) (κ:Kd),lay[f]? = some κ→KR σ F κ (κ.val σ cv i f) (A[i * lay.length+f]?)) (hu:∀ i,i < mv→∀ (f:Nat) (κ:Kd),lay[f]? = some κ→KR σ F κ (κ.val σ cv' (jv'+i) f) (us[i * lay.length+f]?))
  (hn:n2≤nv∨(jv≤nv∧n2=jv+mv)):∀ i,i < n2→∀ (f:Nat) (κ:Kd),lay[f]? = some κ→KR σ F κ (κ.val σ (σ.fi 9 cv jv cv' jv' mv 0) i f) ((A.take (jv * lay.length)++us++A.drop (jv * lay.length+us.length))[i * lay.length+f]?):=by
 intro i hi f κ hκ
 have hf:f < lay.length:=(List.getElem?_eq_some_iff.1 hκ).1
 have e1:(jv+mv) * lay.length=jv * lay.length+mv * lay.length:=Nat.add_mul _ _ _
 rw [splice_get _ _ _ _ (by omega),al.b]
 by_cases h1:jv≤i∧i < jv+mv
 ·obtain ⟨q,rfl⟩:∃ q,i=jv+q:=⟨i - jv,by omega⟩
  have e2:(jv+q) * lay.length=jv * lay.length+q * lay.length:=Nat.add_mul _ _ _
  have e3:(q+1) * lay.length≤mv * lay.length:=Nat.mul_le_mul_right _ (by omega)
  rw [Nat.add_mul] at e3
  rw [if_pos h1,if_pos (by omega)]
  have:=hu q (by omega) f κ hκ
  have e4:jv+q - jv=q:=by omega
  rw [e4,show (jv+q) * lay.length+f - jv * lay.length=q * lay.length+f by omega]
  exact this
 ·rw [if_neg h1]
  have hin:i < nv:=by omega
  have:¬ (jv * lay.length≤i * lay.length+f∧i * lay.length+f < jv * lay.length+us.length):=by
   rintro ⟨g1,g2⟩
   apply h1
   constructor
   ·apply Nat.le_of_not_lt
    intro hlt
    have:(i+1) * lay.length≤jv * lay.length:=Nat.mul_le_mul_right _ hlt
    rw [Nat.add_mul] at this;omega
   ·apply Nat.lt_of_not_le
    intro hle
    have:(jv+mv) * lay.length≤i * lay.length:=Nat.mul_le_mul_right _ hle
    omega
  rw [if_neg this]
  exact ha i hin f κ hκ
theorem stoB_ok (hcc:cc.Ok C) (h:HpRel C hc w0 ρ H w) {id b:Nat} {lay:List Kd} {c n cp:SI} {t:TypeId} (hg:get H.heap id=some (.arr lay c n t cp)) (hb:ρ.bl id=some b) {j cnt c' j':SI} {jv mv jv':Nat} {cv':Int} (hj:j.den C.σ ρ=some (Int.ofNat jv)) (hm:cnt.den C.σ ρ=some (Int.ofNat mv))
  (hc':c'.den C.σ ρ=some cv') (hj':j'.den C.σ ρ=some (Int.ofNat jv')) {us:List Value} (hlen:us.length=mv * lay.length) (hu:∀ i,i < mv→∀ (f:Nat) (κ:Kd),lay[f]? = some κ→KR C.σ ρ.fz κ (κ.val C.σ cv' (jv'+i) f) (us[i * lay.length+f]?)) (hone:∀ u∈us,u.oneCell'=true)
  {H':Hp} (hs:stoB cc H id j cnt c' j'=.ok H'):∃ w',(storeCells ⟨b,jv * lay.length,none⟩ us 0).run cc.P w=.ok () w'∧Tn ρ H w ρ H' w'∧HpRel C hc w0 ρ H' w':=by
 obtain ⟨b',o,e1,e2,cv,nv,cpv,A,h1,h2,h3,h4,h5,h6,rfl⟩:=h.blk id _ hg rfl
 have:b'=b:=by rw [e1] at hb;exact Option.some.inj hb
 subst this
 have hadd:=SI.add_den hj hm
 have hAl:A.toList.length=A.size:=by simp
 have done:jv+mv≤cpv→∀ (n2:SI) (nv2:Nat),n2.den C.σ ρ=some (Int.ofNat nv2)→nv2≤cpv→(nv2≤nv∨(jv≤nv∧nv2=jv+mv))→
   ∃ w',(storeCells ⟨b',jv * lay.length,none⟩ us 0).run cc.P w=.ok () w'∧Tn ρ H w ρ (H.put id (.arr lay (.ap 9 c j c' j' cnt (.c 0)) n2 t cp)) w'∧HpRel C hc w0 ρ (H.put id (.arr lay (.ap 9 c j c' j' cnt (.c 0)) n2 t cp)) w':=by
  intro hroom n2 nv2 hn2 hc2 hor
  have hmul:(jv+mv) * lay.length≤cpv * lay.length:=Nat.mul_le_mul_right _ hroom
  have hsp:(jv+mv) * lay.length=jv * lay.length+mv * lay.length:=Nat.add_mul _ _ _
  have hst:=run_storeCells_at (P:=cc.P) b' (jv * lay.length) t us 0 A w e2 (by simp;omega) hone
  rw [Nat.add_zero] at hst
  have hbk:(Bk.arr lay (.ap 9 c j c' j' cnt (.c 0)) n2 t cp).Is C.σ ρ (.cells (A.toList.take (jv * lay.length)++us++A.toList.drop (jv * lay.length+us.length)).toArray t (0,0)):=by
   refine ⟨C.σ.fi 9 cv jv cv' jv' mv 0,nv2,cpv,_,?_,hn2,h3,hc2,?_,?_,rfl⟩
   ·simp only [SI.den,h1,hj,hc',hj',hm,Option.bind_some];rfl
   ·simp only [List.size_toArray]
    rw [splice_length _ _ _ (by rw [hAl,h5];omega),hAl,h5]
   ·have:=blit_ar hcc.al (A:=A.toList) (us:=us) (cv:=cv) (cv':=cv') (jv:=jv) (jv':=jv') (mv:=mv) (nv:=nv) (n2:=nv2) hlen (by rw [hAl,h5];omega) (fun i hi f κ hκ=>by
     have:=h6 i hi f κ hκ
     rw [Nat.zero_add] at this
     rw [Array.getElem?_toList];exact this) hu hor
    intro i hi f κ hκ
    have:=this i hi f κ hκ
    rw [Nat.zero_add]
    simpa using this
  refine ⟨_,hst,Tn.of_put e1 (fun i hi=>setRow_other _ _ _ _ hi) (by simp),h.put hg rfl (b:=b') e1 rfl hbk (fun i hi=>setRow_other _ _ _ _ hi) (setRow_heap _ _ _ _ _ _ e2) (by simp) rfl rfl rfl⟩
 unfold stoB at hs
 rw [hg] at hs
 dsimp only at hs
 have d1:(SB.le (SI.add j cnt) cp).den C.σ ρ=some (decide (Int.ofNat jv+Int.ofNat mv≤Int.ofNat cpv)):=by simp [SB.den,hadd,h3]
 have d2:(SB.le (SI.add j cnt) n).den C.σ ρ=some (decide (Int.ofNat jv+Int.ofNat mv≤Int.ofNat nv)):=by simp [SB.den,hadd,h2]
 have d3:(SB.le j n).den C.σ ρ=some (decide (Int.ofNat jv≤Int.ofNat nv)):=by simp [SB.den,hj,h2]
 have nat:∀ {a b:Nat},(Int.ofNat a≤Int.ofNat b)→a≤b:=fun hh=>Int.ofNat_le.1 hh
 split at hs
 ·rename_i q1
  have r1:=dec_ok (bdOf_ok hcc h) h.facts d1 q1
  have r1:jv+mv≤cpv:=nat (by simpa using r1.symm)
  split at hs
  ·cases hs
   exact done r1 n nv h2 h4 (.inl (Nat.le_refl _))
  ·rename_i q2
   split at hs
   ·rename_i q3
    cases hs
    have r3:=dec_ok (bdOf_ok hcc h) h.facts d3 q3
    have r3:jv≤nv:=nat (by simpa using r3.symm)
    exact done r1 _ (jv+mv) hadd r1 (.inr ⟨r3,rfl⟩)
   ·cases hs
   ·cases hs
  ·cases hs
 ·cases hs
 ·cases hs
noncomputable def opCopy (cc:Cc) (H:Hp) (ts:Array TypeId) (xs:List SV):OpR:=
 match lnth ts.toList 0,xs with
 | some t,[.sl (.n id) o dl dc,s]=>match cc.P.underlying t,get H.heap id with
   | some (.slice e),some (.arr lay _ _ _ _)=>match cc.P.info? e,splitA none (llen lay) o,viewA cc H lay s with
     | some i,some (j,f),.ok c' j' m=>bif Nat.beq f 0 && (Nat.blt 0 (llen lay) && Nat.beq (llen lay) i.size) then
       (match dec (bdOf cc H) H.facts (.le m dl) with
       | .yes true=>(match stoB cc H id j m c' j' with | .ok H'=>.val (.it .i64 m) H' | .ask p=>.ask p | .no=>.bad 351)
       | .yes false=>(match stoB cc H id j dl c' j' with | .ok H'=>.val (.it .i64 dl) H' | .ask p=>.ask p | .no=>.bad 352)
       | .ask p=>.ask p) else .bad 353
     | some _,some _,.ask p=>bif Nat.blt 0 (llen lay) then .ask p else .bad 357
     | _,_,_=>.bad 354
   | _,_=>.bad 355
 | _,_=>.bad 356
theorem run_copy {P:Program} {w w':World} {ts:Array TypeId} (t ty e:TypeId) (h0:ts[0]? = some t) (i:TypeInfo) (ht:P.underlying t=some (.slice e)) (hi:P.info? e=some i) (b k n cap:Nat) (a:Option Addr) (m c q:Nat) (us:List Value) (hq:q=min m n)
  (hf:(Builtin.firstCells i.size q (.slice a m c)).run P w=.ok us.toArray w) (hst:(storeCells ⟨b,k,none⟩ us 0).run P w=.ok () w') :
  (Builtin.copy_ ts ty #[.slice (some ⟨b,k,none⟩) n cap,.slice a m c]).run P w=.ok (.int .i64 q) w':=by
 subst hq
 simp [Builtin.copy_,h0,run_underlying ht,sizeOf,typeInfo,hi,Builtin.lenOf,hf,hst,goInt]
theorem opCopy_ok (hcc:cc.Ok C) (h:HpRel C hc w0 ρ H w) {ts:Array TypeId} {ty:TypeId} {xs:List SV} {us:List Value} (hx:SV.IsL C.σ ρ xs us):(opCopy cc H ts xs).Ok cc C hc w0 ρ H w (do pure (.value (← Builtin.copy_ ts ty us.toArray))):=by
 unfold opCopy
 split
 ·rename_i t id o dl dc s ht
  rw [lnth_eq] at ht
  have h0:ts[0]? = some t:=by simpa using ht
  rw [SV.isL_cons] at hx
  obtain ⟨u,r,rfl,hd,h2⟩:=hx
  rw [SV.isL_cons] at h2
  obtain ⟨v,r',rfl,hs,h3⟩:=h2
  rw [SV.isL_nil] at h3
  subst h3
  simp only [SV.Is] at hd
  obtain ⟨b,k,len,cap,e1,e2,e3,e4,rfl⟩:=hd
  simp only [SR.den] at e1
  split
  ·rename_i e lay c n t' cp hu hg
   split
   ·rename_i i j f c' j' m hi hsp hv
    cases hck:(Nat.beq f 0 && (Nat.blt 0 (llen lay) && Nat.beq (llen lay) i.size)) with
    | false=>trivial
    | true=>
      simp only [Bool.and_eq_true] at hck
      obtain ⟨q1,q2,q3⟩:=hck
      rw [llen_eq] at q2 q3
      have q1:=Nat.eq_of_beq_eq_true q1
      subst q1
      have hlay:0 < lay.length:=by simpa [Nat.blt_eq] using q2
      have hli:=Nat.eq_of_beq_eq_true q3
      rw [llen_eq] at hsp
      obtain ⟨y,hy,hk⟩:=splitA_ok (bn:=0) rfl hsp e2
      have hy0:0≤y:=by
       have h1:(0:Int)≤y * lay.length:=by
        have:(Int.ofNat k)=(k:Int):=rfl
        omega
       rcases Int.lt_or_le y 0 with hlt | hge
       ·have:=Int.mul_neg_of_neg_of_pos hlt (show (0:Int) < lay.length by omega);omega
       ·exact hge
      obtain ⟨jv,rfl⟩:∃ jv:Nat,y=Int.ofNat jv:=⟨y.toNat,by show y=(y.toNat:Int);omega⟩
      have hk':k=jv * lay.length:=by
       have:(k:Int)=(jv:Int) * lay.length:=by
        have e:(Int.ofNat k)=(k:Int):=rfl
        have e':(Int.ofNat jv)=(jv:Int):=rfl
        rw [e,e'] at hk;omega
       exact_mod_cast this
      have hvw:=viewA_ok hcc h hlay hs
      rw [hv] at hvw
      obtain ⟨aS,capS,mv,cv',jv',vs,rfl,g1,g2,g3,g4,g5,g6,g7⟩:=hvw
      have hone:=VwOk.one g4 g5 hlay
      have hle:(SB.le m dl).den C.σ ρ=some (decide (Int.ofNat mv≤Int.ofNat len)):=by simp [SB.den,g3,e3]
      have main:∀ (cnt:SI) (qv:Nat),cnt.den C.σ ρ=some (Int.ofNat qv)→qv=min mv len→∀ H',stoB cc H id j cnt c' j'=.ok H'→(OpR.val (.it .i64 cnt) H').Ok cc C hc w0 ρ H w (do pure (.value (← Builtin.copy_ ts ty [.slice (some ⟨b,k,none⟩) len cap,.slice aS mv capS].toArray))):=by
       intro cnt qv hcnt hq H' hst
       have hqm:qv≤mv:=by omega
       have hmul:qv * lay.length≤mv * lay.length:=Nat.mul_le_mul_right _ hqm
       have hl1:(vs.take (qv * lay.length)).length=qv * lay.length:=by rw [List.length_take];omega
       obtain ⟨w',s1,s2,s3⟩:=stoB_ok hcc h hg e1 hy hcnt g1 g2 (us:=vs.take (qv * lay.length)) hl1 (fun i' hi' f κ hκ=>by
        have hf:=(List.getElem?_eq_some_iff.1 hκ).1
        have:(i'+1) * lay.length≤qv * lay.length:=Nat.mul_le_mul_right _ hi'
        rw [Nat.add_mul] at this
        rw [List.getElem?_take,if_pos (by omega)]
        exact g5 i' (by omega) f κ hκ) (fun u hu=>hone u (List.mem_of_mem_take hu)) hst
       have hf:(Builtin.firstCells i.size qv (.slice aS mv capS)).run cc.P w=.ok (vs.take (qv * lay.length)).toArray w:=by
        cases aS with
        | none=>
          by_cases hq0:qv=0
          ·subst hq0;simp [Builtin.firstCells]
          ·exfalso
           have:=g7 w rfl
           simp [Builtin.firstCells] at this
           have hv0:vs=[]:=this
           rw [hv0] at g4
           have:0 < mv * lay.length:=Nat.mul_pos (by omega) hlay
           simp at g4;omega
        | some aa=>
          rw [← hli]
          exact run_firstCells_some w lay.length qv aa mv capS _ hl1 fun p v hp=>by
           rw [List.getElem?_take] at hp
           split at hp
           ·exact g6 aa rfl p v hp
           ·cases hp
       rw [hk']
       refine ⟨ρ,.value (.int .i64 qv),.int .i64 qv,w',s2,?_,.inl rfl,?_,s3⟩
       ·have:=run_copy (ty:=ty) t e h0 i hu hi b (jv * lay.length) len cap aS mv capS qv _ hq hf s1
        simp [this]
       ·simp only [SV.Is];exact ⟨_,hcnt,rfl⟩
      dsimp only [cond_true]
      split
      ·rename_i hd
       have:=dec_ok (bdOf_ok hcc h) h.facts hle hd
       have hml:mv≤len:=Int.ofNat_le.1 (by simpa using this.symm)
       split
       ·rename_i H' hst;exact main m mv g3 (by omega) H' hst
       ·rename_i p hst;exact stoB_ask hcc h hy g3 hst
       ·trivial
      ·rename_i hd
       have:=dec_ok (bdOf_ok hcc h) h.facts hle hd
       have hml:¬ mv≤len:=fun hh=>by
        have:¬ (Int.ofNat mv≤Int.ofNat len):=by simpa using this.symm
        exact this (Int.ofNat_le.2 hh)
       split
       ·rename_i H' hst;exact main dl len e3 (by omega) H' hst
       ·rename_i p hst;exact stoB_ask hcc h hy e3 hst
       ·trivial
      ·rename_i p hd
       exact ask_den (bdOf_ok hcc h) h.facts hle hd
   ·rename_i i j f p hi hsp hv
    cases hb:Nat.blt 0 (llen lay) with
    | false=>trivial
    | true=>
      rw [llen_eq] at hb
      have hvw:=viewA_ok hcc h (lay:=lay) (by simpa [Nat.blt_eq] using hb) hs
      rw [hv] at hvw;exact hvw
   ·trivial
  ·trivial
 ·trivial
def Kd.zv:Kd→Value
 | .nt k=>.int k 0
 | .tv=>.bool false
 | .fs _=>.slice none 0 0
theorem Kd.zv_R {σ:Sta} {F:Nat→Option Obj} (h0:flen σ 0=0) (κ:Kd):κ.R σ F (κ.of 0) κ.zv:=by
 cases κ with
 | nt k=>
   have hw:k.wrap 0=0:=wrap_in k 0 (by cases k<;>decide) (by cases k<;>decide)
   show Value.int k 0=Value.int k (k.wrap 0)
   rw [hw]
 | tv=>rfl
 | fs i=>exact ⟨0,rfl,.nil _ _ _ _ h0 (.inl rfl)⟩
theorem Kd.zv_one (κ:Kd):κ.zv.oneCell'=true:=by cases κ<;>rfl
def zc1 (κ:Kd) (v:Value):Bool:=match κ,v with
 | .nt k,.int k' n=>keq k k' && ieq n 0
 | .tv,.bool b=>!b
 | .fs _,.slice none 0 0=>true
 | _,_=>false
theorem zc1_ok {κ:Kd} {v:Value} (h:zc1 κ v=true):v=κ.zv:=by
 unfold zc1 at h
 split at h
 ·rename_i k k' n
  rw [Bool.and_eq_true] at h
  have:=keq_eq h.1;subst this
  have:=ieq_iff.1 h.2;subst this
  rfl
 ·rename_i b
  cases b with
  | true=>cases h
  | false=>rfl
 ·rfl
 ·cases h
noncomputable def zcs (lay:List Kd):List Value→Bool:=
 List.rec (motive:=fun _=>List Value→Bool) (fun l=>match l with | []=>true | _=>false) (fun κ _ ih l=>match l with | v::r=>bif zc1 κ v then ih r else false | []=>false) lay
theorem zcs_ok:∀ {lay:List Kd} {l:List Value},zcs lay l=true→l.length=lay.length∧∀ (f:Nat) (κ:Kd),lay[f]? = some κ→l[f]? = some κ.zv
 | [],[],_=>⟨rfl,fun f κ h=>by simp at h⟩
 | [],_::_,h=>by cases h
 | _::_,[],h=>by cases h
 | κ0::lay,v::l,h=>by
   have h':(bif zc1 κ0 v then zcs lay l else false)=true:=h
   rw [cond_true_iff] at h'
   obtain ⟨e1,e2⟩:=zcs_ok h'.2
   refine ⟨by simp [e1],fun f κ hf=>?_⟩
   cases f with
   | zero=>simp at hf;subst hf;rw [zc1_ok h'.1];rfl
   | succ f=>simpa using e2 f κ (by simpa using hf)
theorem zero_cells {lay:List Kd} {z:Array Value} {n:Nat} (h:zcs lay z.toList=true) (hlay:0 < lay.length) :
  (Builtin.zeroCells z n).toList.length=n * lay.length∧(∀ i,i < n→∀ (f:Nat) (κ:Kd),lay[f]? = some κ→(Builtin.zeroCells z n).toList[i * lay.length+f]? = some κ.zv)∧∀ u∈(Builtin.zeroCells z n).toList,u.oneCell'=true:=by
 obtain ⟨e1,e2⟩:=zcs_ok h
 have hs:z.size=lay.length:=by simpa using e1
 have hget:∀ i,i < n→∀ (f:Nat) (κ:Kd),lay[f]? = some κ→(Builtin.zeroCells z n).toList[i * lay.length+f]? = some κ.zv:=by
  intro i hi f κ hκ
  have hf:=(List.getElem?_eq_some_iff.1 hκ).1
  have hb:(i+1) * lay.length≤n * lay.length:=Nat.mul_le_mul_right _ hi
  rw [Nat.add_mul] at hb
  obtain ⟨h1,h2⟩:=row_split (i:=i) hf
  have:=e2 f κ hκ
  rw [Array.getElem?_toList] at this ⊢
  simp only [Builtin.zeroCells,hs,Array.getElem?_map]
  rw [Array.getElem?_range,if_pos (by omega)]
  simp only [Option.map_some,h2]
  rw [getElem!_def,this]
 refine ⟨by simp [size_zeroCells,hs],hget,fun u hu=>?_⟩
 obtain ⟨p,hp⟩:=List.getElem?_of_mem hu
 have hlt:p < n * lay.length:=by
  have:=(List.getElem?_eq_some_iff.1 hp).1
  simpa [size_zeroCells,hs] using this
 have hm:=Nat.mod_lt p hlay
 have hκ:=List.getElem?_eq_getElem hm
 have:=hget (p / lay.length) (Nat.div_lt_of_lt_mul (by rw [Nat.mul_comm];exact hlt)) _ _ hκ
 have hd:=Nat.div_add_mod p lay.length
 rw [Nat.mul_comm,hd,hp] at this
 cases this
 exact Kd.zv_one _
noncomputable def opClear (cc:Cc) (H:Hp) (ts:Array TypeId) (xs:List SV):OpR:=
 match lnth ts.toList 0,xs with
 | some t,[.sl (.n id) o l dc]=>match cc.P.underlying t,get H.heap id with
   | some (.slice e),some (.arr lay _ _ _ _)=>match cc.P.info? e,splitA none (llen lay) o with
     | some i,some (j,f)=>match i.zero with
       | some z=>bif Nat.beq f 0 && (Nat.blt 0 (llen lay) && (Nat.beq (llen lay) i.size && zcs lay z.cells.toList)) then
         (match stoB cc H id j l (.c 0) (.c 0) with | .ok H'=>.val (.tp []) H' | .ask p=>.ask p | .no=>.bad 361)
         else .bad 362
       | none=>.bad 363
     | _,_=>.bad 364
   | _,_=>.bad 365
 | _,_=>.bad 366
theorem run_clear {P:Program} {w w':World} {ts:Array TypeId} (t ty e:TypeId) (h0:ts[0]? = some t) (i:TypeInfo) (z:Value) (ht:P.underlying t=some (.slice e)) (hi:P.info? e=some i) (hz:i.zero=some z) (b k n cap:Nat)
  (hst:(storeCells ⟨b,k,none⟩ (Builtin.zeroCells z.cells n).toList 0).run P w=.ok () w') :
  (Builtin.clear_ ts ty #[.slice (some ⟨b,k,none⟩) n cap]).run P w=.ok (.tuple #[]) w':=by
 cases n with
 | zero=>
   have e:(Builtin.zeroCells z.cells 0).toList=[]:=by simp [Builtin.zeroCells]
   rw [e] at hst
   have hw:w'=w:=by simp [storeCells] at hst;exact hst.symm
   subst hw
   simp [Builtin.clear_,h0,run_underlying ht]
 | succ n=>
   simp [Builtin.clear_,h0,run_underlying ht,zeroValue,typeInfo,hi,hz,hst]
theorem opClear_ok (hcc:cc.Ok C) (h:HpRel C hc w0 ρ H w) {ts:Array TypeId} {ty:TypeId} {xs:List SV} {us:List Value} (hx:SV.IsL C.σ ρ xs us):(opClear cc H ts xs).Ok cc C hc w0 ρ H w (do pure (.value (← Builtin.clear_ ts ty us.toArray))):=by
 unfold opClear
 split
 ·rename_i t id o l dc ht
  rw [lnth_eq] at ht
  have h0:ts[0]? = some t:=by simpa using ht
  rw [SV.isL_cons] at hx
  obtain ⟨u,r,rfl,hd,h2⟩:=hx
  rw [SV.isL_nil] at h2
  subst h2
  simp only [SV.Is] at hd
  obtain ⟨b,k,len,cap,e1,e2,e3,e4,rfl⟩:=hd
  simp only [SR.den] at e1
  split
  ·rename_i e lay c n t' cp hu hg
   split
   ·rename_i i j f hi hsp
    split
    ·rename_i z hz
     cases hck:(Nat.beq f 0 && (Nat.blt 0 (llen lay) && (Nat.beq (llen lay) i.size && zcs lay z.cells.toList))) with
     | false=>trivial
     | true=>
       simp only [Bool.and_eq_true] at hck
       obtain ⟨q1,q2,q3,q4⟩:=hck
       rw [llen_eq] at q2 q3
       have q1:=Nat.eq_of_beq_eq_true q1
       subst q1
       have hlay:0 < lay.length:=by simpa [Nat.blt_eq] using q2
       rw [llen_eq] at hsp
       obtain ⟨y,hy,hk⟩:=splitA_ok (bn:=0) rfl hsp e2
       have hy0:0≤y:=by
        have h1:(0:Int)≤y * lay.length:=by
         have:(Int.ofNat k)=(k:Int):=rfl
         omega
        rcases Int.lt_or_le y 0 with hlt | hge
        ·have:=Int.mul_neg_of_neg_of_pos hlt (show (0:Int) < lay.length by omega);omega
        ·exact hge
       obtain ⟨jv,rfl⟩:∃ jv:Nat,y=Int.ofNat jv:=⟨y.toNat,by show y=(y.toNat:Int);omega⟩
       have hk':k=jv * lay.length:=by
        have:(k:Int)=(jv:Int) * lay.length:=by
         have e:(Int.ofNat k)=(k:Int):=rfl
         have e':(Int.ofNat jv)=(jv:Int):=rfl
         rw [e,e'] at hk;omega
        exact_mod_cast this
       obtain ⟨z1,z2,z3⟩:=zero_cells (z:=z.cells) (n:=len) q4 hlay
       dsimp only [cond_true]
       split
       ·rename_i H' hst
        obtain ⟨w',s1,s2,s3⟩:=stoB_ok hcc h hg e1 hy e3 (c':=.c 0) (j':=.c 0) (cv':=0) (jv':=0) rfl rfl z1 (fun i' hi' f κ hκ=>by rw [hcc.al.z];exact ⟨_,z2 i' hi' f κ hκ,Kd.zv_R hcc.al.f0 κ⟩) z3 hst
        rw [hk']
        refine ⟨ρ,.value (.tuple #[]),.tuple #[],w',s2,?_,.inl rfl,?_,s3⟩
        ·have:=run_clear (ty:=ty) t e h0 i z hu hi hz b (jv * lay.length) len cap s1
         simp [this]
        ·simp only [SV.Is];exact ⟨[],by simp [SV.IsL],rfl⟩
       ·rename_i p hst;exact stoB_ask hcc h hy e3 hst
       ·trivial
    ·trivial
   ·trivial
  ·trivial
 ·trivial
end
end Go.Sx
namespace Go.Sx
noncomputable section
set_option linter.unusedVariables false
set_option linter.unusedSimpArgs false
open Go.RowKit
section
variable {cc:Cc} {C:Ct} {hc:Nat→Option Obj} {w0:World} {ρ:Dyn} {H:Hp} {w:World}
def opMakeS (cc:Cc) (H:Hp) (t:TypeId) (l c:SV):OpR:=
 match l,c with
 | .it _ n,.it _ m=>bif n.beq m then
   (match cc.P.underlying t with
   | some (.slice e)=>match cc.P.info? e,layT cc.P 6 e with
     | some i,some lay=>match i.zero with
       | some z=>bif Nat.blt 0 (llen lay) && (Nat.beq (llen lay) i.size && (zcs lay z.cells.toList && fitsB cc H n i.bytes)) then
         (match dec (bdOf cc H) H.facts (.le (.c 0) n) with
         | .yes true=>.val (.sl (.n H.nb) (.c 0) n n) (H.alloc (.arr lay (.c 0) n e n))
         | .yes false=>.bad 370
         | .ask p=>.ask p) else .bad 371
       | none=>.bad 372
     | _,_=>.bad 373
   | _=>.bad 374)
   else .bad 375
 | _,_=>.bad 376
theorem opMakeS_ok (hcc:cc.Ok C) (h:HpRel C hc w0 ρ H w) {t:TypeId} {l c:SV} {u v:Value} (hl:l.Is C.σ ρ u) (hcv:c.Is C.σ ρ v):(opMakeS cc H t l c).Ok cc C hc w0 ρ H w (do pure (.value (← Instr.makeSlice t u v))):=by
 unfold opMakeS
 split
 ·rename_i kl n kc m
  cases hnm:n.beq m with
  | false=>trivial
  | true=>
    have:=SI.beq_eq hnm
    subst this
    simp only [cond_true]
    simp only [SV.Is] at hl hcv
    obtain ⟨x,e1,rfl⟩:=hl
    obtain ⟨y,e2,rfl⟩:=hcv
    rw [e1] at e2
    cases e2
    split
    ·rename_i e hu
     split
     ·rename_i i lay hi hlay
      split
      ·rename_i z hz
       cases hck:(Nat.blt 0 (llen lay) && (Nat.beq (llen lay) i.size && (zcs lay z.cells.toList && fitsB cc H n i.bytes))) with
       | false=>trivial
       | true=>
         simp only [Bool.and_eq_true] at hck
         obtain ⟨q1,q2,q3,q4⟩:=hck
         rw [llen_eq] at q1 q2
         have hl0:0 < lay.length:=by simpa [Nat.blt_eq] using q1
         have hli:=Nat.eq_of_beq_eq_true q2
         have hle:(SB.le (.c 0) n).den C.σ ρ=some (decide ((0:Int)≤x)):=by simp [SB.den,SI.den,e1]
         simp only [cond_true]
         split
         ·rename_i hd
          have hx0:(0:Int)≤x:=by simpa using (dec_ok (bdOf_ok hcc h) h.facts hle hd).symm
          obtain ⟨k,rfl⟩:∃ k:Nat,x=Int.ofNat k:=⟨x.toNat,by show x=(x.toNat:Int);omega⟩
          obtain ⟨f1,f2⟩:=fitsB_ok hcc h e1 q4
          have hb:(i.bytes:Int) * (k:Int)≤281474976710656:=by
           have:((k * i.bytes:Nat):Int)≤140737488355328:=Int.ofNat_le.2 f2
           rw [Int.natCast_mul,Int.mul_comm] at this;omega
          have hr:=run_make (P:=cc.P) w t e i z hu hi hz kl kc k k hx0 (Int.le_refl _) hb (by omega)
          simp only [Int.toNat_natCast] at hr
          obtain ⟨z1,z2,z3⟩:=zero_cells (z:=z.cells) (n:=k) q3 hl0
          have hzs:z.cells.size=i.size:=by
           have:=(zcs_ok q3).1
           rw [← hli];simpa using this
          have hmz:madeCells z.cells (k * i.size)=Builtin.zeroCells z.cells k:=by unfold madeCells Builtin.zeroCells;rw [hzs]
          rw [hmz] at hr
          have hle2:=h.le_alloc w.heap.size
          refine ⟨ρ.setBl H.nb w.heap.size,.value (.slice (some ⟨w.heap.size,0,none⟩) k k),.slice (some ⟨w.heap.size,0,none⟩) k k,w.alloc (.cells (Builtin.zeroCells z.cells k) e),Tn.of_alloc ρ H w _ _,?_,.inl rfl,?_,?_⟩
          ·have hr':Sem.run cc.P (Instr.makeSlice t (.int kl (Int.ofNat k)) (.int kc (Int.ofNat k))) w=_:=hr
           simp only [Sem.run_bind,hr',Result.andThen_ok,Sem.run_pure]
          ·simp only [SV.Is,SR.den];exact ⟨_,0,k,k,Dyn.setBl_same _ _ _,rfl,SI.den_mono hle2 _ _ e1,SI.den_mono hle2 _ _ e1,rfl⟩
          ·refine h.alloc' ⟨0,k,k,_,rfl,SI.den_mono hle2 _ _ e1,SI.den_mono hle2 _ _ e1,Nat.le_refl _,?_,fun j hj f κ hκ=>?_,rfl⟩
           ·rw [← Array.length_toList,z1]
           ·have:=z2 j hj f κ hκ
            rw [hcc.al.z,Nat.zero_add]
            rw [Array.getElem?_toList] at this
            exact ⟨_,this,Kd.zv_R hcc.al.f0 κ⟩
         ·trivial
         ·rename_i p hd
          exact ask_den (bdOf_ok hcc h) h.facts hle hd
      ·trivial
     ·trivial
    ·trivial
 ·trivial
theorem run_append_zeros {P:Program} {w:World} (t t' ty e:TypeId) {ki:IntKind} (i:TypeInfo) (z:Value) (ht:P.underlying t=some (.slice e)) (ht':P.underlying t'=some (.int ki)) (hi:P.info? e=some i) (hz:i.zero=some z) (hzs:z.cells.size=i.size) (s:Option Addr) (n cap:Nat) (k:IntKind) (m:Nat) (olds:List Value)
  (hfo:(Builtin.firstCells i.size n (.slice s n cap)).run P w.drew=.ok olds.toArray w.drew) (hg:cap < n+m) (h63:n+m≤9223372036854775807) (hfit:(n+m) * i.bytes≤140737488355328) :
  (Builtin.append_ #[t,t'] ty #[.slice s n cap,.int k (m:Int)]).run P w =
   .ok (.slice (some ⟨w.heap.size,0,none⟩) (n+m) (grownCap w (n+m) cap e)) (w.drew.alloc (.cells (olds.toArray++Builtin.zeroCells z.cells m++Builtin.zeroCells z.cells (grownCap w (n+m) cap e - (n+m))) e)):=by
 have hn:¬ (n+m≤cap):=by omega
 have h63':¬ (9223372036854775807 < ((n:Int)+(m:Int))):=by omega
 have hfit':=growslice_fits (old:=cap) (need:=n+m) hg hfit
 have h48':¬ (281474976710656 < Builtin.nextslicecap (n+m) cap * i.bytes):=by omega
 have hw:IntKind.i64.wrap (m:Int)=(m:Int):=wrap_in .i64 _ (by show (-9223372036854775808:Int)≤m;omega) (by show (m:Int)≤9223372036854775807;omega)
 have hm0:¬ ((m:Int) < 0):=by omega
 have hmb:¬ (281474976710656 < (m:Int) * (i.bytes:Int)):=by
  have h1:m * i.bytes≤(n+m) * i.bytes:=Nat.mul_le_mul_right _ (by omega)
  have h2:((m * i.bytes:Nat):Int)≤281474976710656:=by omega
  rw [Int.natCast_mul] at h2;omega
 by_cases hz0:m * i.size=0
 ·have e0:Builtin.zeroCells z.cells m=#[]:=by
   unfold Builtin.zeroCells
   rw [hzs,hz0];simp
  simp [Builtin.append_,run_underlying ht,run_underlying ht',sizeOf,typeInfo,zeroValue,hi,hz,asInt,asIntOf,hw,hm0,hmb,hn,h63',h48',Question.forced,hfo,newRow,grownCap,hz0,e0]
 ·have hz1:¬ (m=0∨i.size=0):=fun h=>hz0 (Nat.mul_eq_zero.2 h)
  simp [Builtin.append_,run_underlying ht,run_underlying ht',sizeOf,typeInfo,zeroValue,hi,hz,asInt,asIntOf,hw,hm0,hmb,hn,h63',h48',Question.forced,hfo,newRow,grownCap,hz0,hz1]
def appZ (cc:Cc) (H:Hp) (e:TypeId) (lay:List Kd) (bytes:Nat) (s:SV) (n:SI):OpR:=
 match s with
 | .sl _ _ len cap=>bif fitsB cc H (SI.add len n) bytes then
   (match dec (bdOf cc H) H.facts (.le (.c 0) n) with
   | .yes true=>(match dec (bdOf cc H) H.facts (.le (SI.add len n) cap) with
     | .yes false=>catV cc H lay s (.vw (.c 0) (.c 0) n) fun c=>growB H e lay c (SI.add len n)
     | .yes true=>.bad 390
     | .ask p=>.ask p)
   | .yes false=>.bad 391
   | .ask p=>.ask p) else .bad 392
 | .fe=>bif lmem cc.ow e then (bif fitsB cc H n bytes then (match dec (bdOf cc H) H.facts (.le n (.c 0)) with
   | .yes false=>catV cc H lay .fe (.vw (.c 0) (.c 0) n) fun c=>growB H e lay c n
   | .yes true=>.bad 388
   | .ask p=>.ask p) else .bad 387) else .bad 386
 | .sn=>bif fitsB cc H n bytes then (match dec (bdOf cc H) H.facts (.le n (.c 0)) with
   | .yes false=>catV cc H lay .sn (.vw (.c 0) (.c 0) n) fun c=>growB H e lay c n
   | .yes true=>.bad 388
   | .ask p=>.ask p) else .bad 387
 | _=>.bad 393
set_option maxHeartbeats 1000000 in
theorem appZ_ok (hcc:cc.Ok C) (h:HpRel C hc w0 ρ H w) {t t' ty e:TypeId} {ki:IntKind} {i:TypeInfo} {z:Value} (ht:cc.P.underlying t=some (.slice e)) (ht':cc.P.underlying t'=some (.int ki)) (hi:cc.P.info? e=some i) (hz:i.zero=some z) (hzs:z.cells.size=i.size) {lay:List Kd} (hlay:0 < lay.length) (hli:lay.length=i.size) (hzc:zcs lay z.cells.toList=true)
  {s:SV} {us:Value} {n:SI} {k:IntKind} {nx:Int} (hs:s.Is C.σ ρ us) (hx:n.den C.σ ρ=some nx):(appZ cc H e lay i.bytes s n).Ok cc C hc w0 ρ H w (do pure (.value (← Builtin.append_ #[t,t'] ty #[us,.int k nx]))):=by
 unfold appZ
 split
 ·rename_i sx r o len cap
  obtain ⟨tot,htt⟩:∃ tot,tot=SI.add len n:=⟨_,rfl⟩
  rw [← htt]
  cases hfit:fitsB cc H tot i.bytes with
  | false=>trivial
  | true=>
    simp only [cond_true]
    have hle0:(SB.le (.c 0) n).den C.σ ρ=some (decide ((0:Int)≤nx)):=by simp [SB.den,SI.den,hx]
    split
    ·rename_i hd0
     have hx0:(0:Int)≤nx:=by simpa using (dec_ok (bdOf_ok hcc h) h.facts hle0 hd0).symm
     obtain ⟨mv,rfl⟩:∃ k:Nat,nx=Int.ofNat k:=⟨nx.toNat,by show nx=(nx.toNat:Int);omega⟩
     have hs0:=hs
     simp only [SV.Is] at hs0
     obtain ⟨b,kk,nv0,capv,e1,e2,e3,e4,hu0⟩:=hs0
     have htot:tot.den C.σ ρ=some (Int.ofNat (nv0+mv)):=by rw [htt,SI.add_den e3 hx];rfl
     have hle:(SB.le tot cap).den C.σ ρ=some (decide (Int.ofNat (nv0+mv)≤Int.ofNat capv)):=by simp [SB.den,htot,e4]
     obtain ⟨f1,f2⟩:=fitsB_ok hcc h htot hfit
     split
     ·rename_i hd
      have:=dec_ok (bdOf_ok hcc h) h.facts hle hd
      have hlt:capv < nv0+mv:=by
       have:¬ (Int.ofNat (nv0+mv)≤Int.ofNat capv):=by simpa using this.symm
       have:¬ (nv0+mv≤capv):=fun hh=>this (Int.ofNat_le.2 hh)
       omega
      unfold catV
      have hvw:=viewA_ok hcc h hlay hs
      cases hvS:viewA cc H lay (.sl r o len cap) with
      | no=>trivial
      | ask p=>rw [hvS] at hvw;exact hvw
      | ok c j nn=>
        rw [hvS] at hvw
        obtain ⟨aS,capS,nv,sv,jv,os,hus,g1,g2,g3,g4,g5,_,g6⟩:=hvw
        rw [hus] at hu0
        injection hu0 with hu1 hu2 hu3
        subst hu1 hu2 hu3
        obtain ⟨bv,b1,b2⟩:=baseC_ok hcc g1 g2 g3
        dsimp only
        obtain ⟨z1,z2,z3⟩:=zero_cells (z:=z.cells) (n:=mv) hzc hlay
        have hsi:(Src.vw (.c 0) (.c 0) n).Is cc C ρ lay (Builtin.zeroCells z.cells mv).toList mv:=
         ⟨0,0,rfl,rfl,hx,fun i' hi' f κ hκ=>by rw [hcc.al.z];exact ⟨_,z2 i' hi' f κ hκ,Kd.zv_R hcc.al.f0 κ⟩⟩
        cases hcb:catB cc H lay (baseC c j nn) nn (.vw (.c 0) (.c 0) n) with
        | no=>trivial
        | ask p=>exact catB_ask hcc h hsi hcb
        | ok c'=>
          obtain ⟨cv',k1,k2⟩:=catB_ok hcc h hlay b1 g3 hsi z1 hcb
          have hrun:=run_append_zeros (P:=cc.P) (w:=w) t t' ty e i z ht ht' hi hz hzs (some ⟨b,kk,none⟩) nv capS k mv os (by rw [← hli];exact g6 w.drew rfl) hlt f1 f2
          rw [hus]
          refine growB_ok (cap:=grownCap w (nv+mv) capS e) h k1 htot (grownCap_ge w (nv+mv) capS e) ?_ ?_ hrun
          ·have hge:=grownCap_ge w (nv+mv) capS e
           simp only [Array.size_append,List.size_toArray,size_zeroCells,hzs,← hli,g4]
           rw [← Nat.add_mul,← Nat.add_mul]
           congr 1;omega
          ·have:=cat_ar (rest:=(Builtin.zeroCells z.cells (grownCap w (nv+mv) capS e - (nv+mv))).toList) g4 z1 g5 b2 k2
           intro j hj f κ hκ
           have:=this j hj f κ hκ
           dsimp only at this ⊢
           rw [← Array.getElem?_toList]
           simpa using this
     ·trivial
     ·rename_i p hd
      exact ask_den (bdOf_ok hcc h) h.facts hle hd
    ·trivial
    ·rename_i p hd
     exact ask_den (bdOf_ok hcc h) h.facts hle0 hd
 ·cases hown:lmem cc.ow e with
  | false=>trivial
  | true=>
  simp only [cond_true]
  cases hfit:fitsB cc H n i.bytes with
  | false=>trivial
  | true=>
  simp only [cond_true]
  have hle0:(SB.le n (.c 0)).den C.σ ρ=some (decide (nx≤0)):=by simp [SB.den,SI.den,hx]
  split
  ·rename_i hd0
   have hx0:¬ nx≤0:=by simpa using (dec_ok (bdOf_ok hcc h) h.facts hle0 hd0).symm
   obtain ⟨mv,rfl⟩:∃ k:Nat,nx=Int.ofNat k:=⟨nx.toNat,by show nx=(nx.toNat:Int);omega⟩
   have hmv:0 < mv:=by
    have:¬ ((mv:Int)≤0):=hx0
    omega
   have hs0:=hs
   simp only [SV.Is] at hs0
   obtain ⟨a0,hu0,_⟩:=hs0
   have htot:n.den C.σ ρ=some (Int.ofNat (0+mv)):=by rw [Nat.zero_add];exact hx
   obtain ⟨f1,f2⟩:=fitsB_ok hcc h htot hfit
   unfold catV
   have hvw:=viewA_ok hcc h hlay hs
   cases hvS:viewA cc H lay .fe with
   | no=>trivial
   | ask p=>rw [hvS] at hvw;exact hvw
   | ok c j nn=>
     rw [hvS] at hvw
     obtain ⟨aS,capS,nv,sv,jv,os,hus,g1,g2,g3,g4,g5,_,g6⟩:=hvw
     rw [hus] at hu0
     injection hu0 with hu1 hu2 hu3
     subst hu1 hu2 hu3
     obtain ⟨bv,b1,b2⟩:=baseC_ok hcc g1 g2 g3
     dsimp only
     obtain ⟨z1,z2,z3⟩:=zero_cells (z:=z.cells) (n:=mv) hzc hlay
     have hsi:(Src.vw (.c 0) (.c 0) n).Is cc C ρ lay (Builtin.zeroCells z.cells mv).toList mv:=
      ⟨0,0,rfl,rfl,hx,fun i' hi' f κ hκ=>by rw [hcc.al.z];exact ⟨_,z2 i' hi' f κ hκ,Kd.zv_R hcc.al.f0 κ⟩⟩
     cases hcb:catB cc H lay (baseC c j nn) nn (.vw (.c 0) (.c 0) n) with
     | no=>trivial
     | ask p=>exact catB_ask hcc h hsi hcb
     | ok c'=>
       obtain ⟨cv',k1,k2⟩:=catB_ok hcc h hlay b1 g3 hsi z1 hcb
       have hrun:=run_append_zeros (P:=cc.P) (w:=w) t t' ty e i z ht ht' hi hz hzs aS 0 0 k mv os (by rw [← hli];exact g6 w.drew rfl) (by omega) f1 f2
       rw [hus]
       refine growB_ok (cap:=grownCap w (0+mv) 0 e) h k1 htot (grownCap_ge w (0+mv) 0 e) ?_ ?_ hrun
       ·have hge:=grownCap_ge w (0+mv) 0 e
        simp only [Array.size_append,List.size_toArray,size_zeroCells,hzs,← hli,g4]
        rw [← Nat.add_mul,← Nat.add_mul]
        congr 1;omega
       ·have:=cat_ar (rest:=(Builtin.zeroCells z.cells (grownCap w (0+mv) 0 e - (0+mv))).toList) g4 z1 g5 b2 k2
        intro j hj f κ hκ
        have:=this j hj f κ hκ
        dsimp only at this ⊢
        rw [← Array.getElem?_toList]
        simpa using this
  ·trivial
  ·rename_i p hd
   exact ask_den (bdOf_ok hcc h) h.facts hle0 hd
 ·cases hfit:fitsB cc H n i.bytes with
  | false=>trivial
  | true=>
  simp only [cond_true]
  have hle0:(SB.le n (.c 0)).den C.σ ρ=some (decide (nx≤0)):=by simp [SB.den,SI.den,hx]
  split
  ·rename_i hd0
   have hx0:¬ nx≤0:=by simpa using (dec_ok (bdOf_ok hcc h) h.facts hle0 hd0).symm
   obtain ⟨mv,rfl⟩:∃ k:Nat,nx=Int.ofNat k:=⟨nx.toNat,by show nx=(nx.toNat:Int);omega⟩
   have hmv:0 < mv:=by
    have:¬ ((mv:Int)≤0):=hx0
    omega
   have hs0:=hs
   simp only [SV.Is] at hs0
   have hu0:=hs0
   have htot:n.den C.σ ρ=some (Int.ofNat (0+mv)):=by rw [Nat.zero_add];exact hx
   obtain ⟨f1,f2⟩:=fitsB_ok hcc h htot hfit
   unfold catV
   have hvw:=viewA_ok hcc h hlay hs
   cases hvS:viewA cc H lay .sn with
   | no=>trivial
   | ask p=>rw [hvS] at hvw;exact hvw
   | ok c j nn=>
     rw [hvS] at hvw
     obtain ⟨aS,capS,nv,sv,jv,os,hus,g1,g2,g3,g4,g5,_,g6⟩:=hvw
     rw [hus] at hu0
     injection hu0 with hu1 hu2 hu3
     subst hu1 hu2 hu3
     obtain ⟨bv,b1,b2⟩:=baseC_ok hcc g1 g2 g3
     dsimp only
     obtain ⟨z1,z2,z3⟩:=zero_cells (z:=z.cells) (n:=mv) hzc hlay
     have hsi:(Src.vw (.c 0) (.c 0) n).Is cc C ρ lay (Builtin.zeroCells z.cells mv).toList mv:=
      ⟨0,0,rfl,rfl,hx,fun i' hi' f κ hκ=>by rw [hcc.al.z];exact ⟨_,z2 i' hi' f κ hκ,Kd.zv_R hcc.al.f0 κ⟩⟩
     cases hcb:catB cc H lay (baseC c j nn) nn (.vw (.c 0) (.c 0) n) with
     | no=>trivial
     | ask p=>exact catB_ask hcc h hsi hcb
     | ok c'=>
       obtain ⟨cv',k1,k2⟩:=catB_ok hcc h hlay b1 g3 hsi z1 hcb
       have hrun:=run_append_zeros (P:=cc.P) (w:=w) t t' ty e i z ht ht' hi hz hzs none 0 0 k mv os (by rw [← hli];exact g6 w.drew rfl) (by omega) f1 f2
       rw [hus]
       refine growB_ok (cap:=grownCap w (0+mv) 0 e) h k1 htot (grownCap_ge w (0+mv) 0 e) ?_ ?_ hrun
       ·have hge:=grownCap_ge w (0+mv) 0 e
        simp only [Array.size_append,List.size_toArray,size_zeroCells,hzs,← hli,g4]
        rw [← Nat.add_mul,← Nat.add_mul]
        congr 1;omega
       ·have:=cat_ar (rest:=(Builtin.zeroCells z.cells (grownCap w (0+mv) 0 e - (0+mv))).toList) g4 z1 g5 b2 k2
        intro j hj f κ hκ
        have:=this j hj f κ hκ
        dsimp only at this ⊢
        rw [← Array.getElem?_toList]
        simpa using this
  ·trivial
  ·rename_i p hd
   exact ask_den (bdOf_ok hcc h) h.facts hle0 hd
 ·trivial
def rowFits (cc:Cc) (H:Hp) (lay:List Kd) (s x:SV):Bool:=
 match s with
 | .sl (.n id) (.c (.ofNat 0)) n (.d d)=>match get H.heap id with
   | some (.row none _ _ _ _)=>match dec (bdOf cc H) H.facts (.le (SI.add n (srcB cc H lay x).len) (.d d)) with
     | .yes b=>b
     | .ask _=>false
   | _=>false
 | _=>false
def opAppendC (cc:Cc) (H:Hp) (ts:Array TypeId) (xs:List SV):OpR:=
 match ts.toList,xs with
 | [t,t'],[s,.it _ n]=>match cc.P.underlying t,cc.P.underlying t' with
   | some (.slice e),some (.int _)=>match cc.P.info? e,layT cc.P 6 e with
     | some i,some lay=>match i.zero with
       | some z=>bif Nat.beq z.cells.size i.size && (Nat.blt 0 (llen lay) && (Nat.beq (llen lay) i.size && zcs lay z.cells.toList)) then appZ cc H e lay i.bytes s n else .bad 394
       | none=>.bad 395
     | _,_=>.bad 396
   | _,_=>.bad 397
 | [t,t'],[s,x]=>bif Nat.beq t t' then
   (match cc.P.underlying t with
   | some (.slice e)=>match cc.P.info? e,layT cc.P 6 e with
     | some i,some lay=>match i.zero with
       | some z=>bif Nat.beq z.cells.size i.size && (Nat.blt 0 (llen lay) && (Nat.beq (llen lay) i.size && rowFits cc H lay s x)) then appA cc H e lay i.bytes s x else opAppendB cc H ts xs
       | none=>opAppendB cc H ts xs
     | _,_=>opAppendB cc H ts xs
   | _=>opAppendB cc H ts xs) else opAppendB cc H ts xs
 | _,_=>opAppendB cc H ts xs
theorem opAppendC_ok (hcc:cc.Ok C) (h:HpRel C hc w0 ρ H w) {ts:Array TypeId} {ty:TypeId} {xs:List SV} {us:List Value} (hx:SV.IsL C.σ ρ xs us):(opAppendC cc H ts xs).Ok cc C hc w0 ρ H w (do pure (.value (← Builtin.append_ ts ty us.toArray))):=by
 unfold opAppendC
 split
 ·rename_i t t' s k n hts
  rw [SV.isL_cons] at hx
  obtain ⟨u,r,rfl,h1,h2⟩:=hx
  rw [SV.isL_cons] at h2
  obtain ⟨v,r',rfl,h2,h3⟩:=h2
  rw [SV.isL_nil] at h3
  subst h3
  simp only [SV.Is] at h2
  obtain ⟨nx,e1,rfl⟩:=h2
  have hts':ts=#[t,t']:=by apply Array.ext';exact hts
  subst hts'
  split
  ·rename_i e ki he he'
   split
   ·rename_i i lay hi hl
    split
    ·rename_i z hz
     cases hck:(Nat.beq z.cells.size i.size && (Nat.blt 0 (llen lay) && (Nat.beq (llen lay) i.size && zcs lay z.cells.toList))) with
     | false=>trivial
     | true=>
       simp only [Bool.and_eq_true] at hck
       obtain ⟨q1,q2,q3,q4⟩:=hck
       rw [llen_eq] at q2 q3
       exact appZ_ok hcc h he he' hi hz (Nat.eq_of_beq_eq_true q1) (by simpa [Nat.blt_eq] using q2) (Nat.eq_of_beq_eq_true q3) q4 h1 e1
    ·trivial
   ·trivial
  ·trivial
 ·rename_i t t' s x hns hts
  have hB:=opAppendB_ok (ts:=ts) (ty:=ty) hcc h hx
  cases hb:Nat.beq t t' with
  | false=>exact hB
  | true=>
    have:=Nat.eq_of_beq_eq_true hb
    subst this
    have hts':ts=#[t,t]:=by apply Array.ext';exact hts
    subst hts'
    simp only [cond_true]
    split
    ·rename_i e he
     split
     ·rename_i i lay hi hl
      split
      ·rename_i z hz
       cases hck:(Nat.beq z.cells.size i.size && (Nat.blt 0 (llen lay) && (Nat.beq (llen lay) i.size && rowFits cc H lay s x))) with
       | false=>exact hB
       | true=>
         simp only [Bool.and_eq_true] at hck
         obtain ⟨q1,q2,q3,q4⟩:=hck
         rw [llen_eq] at q2 q3
         rw [SV.isL_cons] at hx
         obtain ⟨u,r,rfl,h1,h2⟩:=hx
         rw [SV.isL_cons] at h2
         obtain ⟨v,r',rfl,h2,h3⟩:=h2
         rw [SV.isL_nil] at h3
         subst h3
         exact appA_ok hcc h he hi hz (Nat.eq_of_beq_eq_true q1) (by simpa [Nat.blt_eq] using q2) (Nat.eq_of_beq_eq_true q3) h1 h2
      ·exact hB
     ·exact hB
    ·exact hB
 ·exact opAppendB_ok hcc h hx
def arrfy (cc:Cc) (H:Hp) (id:Nat) (lay:List Kd):Option Hp:=
 match get H.heap id with
 | some (.row none l t cp sz)=>bif Nat.beq sz (llen lay) && (Nat.blt 0 (llen lay) && Nat.beq (Nat.mul (Nat.div (llen l) sz) sz) (llen l)) then
   (match setsA cc H lay l (.c 0) (.c 0) 0 with | .ok c=>some (H.put id (.arr lay c (.c (.ofNat (Nat.div (llen l) sz))) t cp)) | _=>none) else none
 | _=>none
theorem arrfy_ok (hcc:cc.Ok C) (h:HpRel C hc w0 ρ H w) {id:Nat} {lay:List Kd} {H1:Hp} (ha:arrfy cc H id lay=some H1):HpRel C hc w0 ρ H1 w∧Tn ρ H w ρ H1 w:=by
 unfold arrfy at ha
 split at ha
 ·rename_i l t cp sz hg
  cases hck:(Nat.beq sz (llen lay) && (Nat.blt 0 (llen lay) && Nat.beq (Nat.mul (Nat.div (llen l) sz) sz) (llen l))) with
  | false=>rw [hck] at ha;cases ha
  | true=>
    rw [hck,cond_true] at ha
    simp only [Bool.and_eq_true] at hck
    obtain ⟨q1,q2,q3⟩:=hck
    rw [llen_eq] at q1 q2
    have q1:=Nat.eq_of_beq_eq_true q1
    subst q1
    have hl0:0 < lay.length:=by simpa [Nat.blt_eq] using q2
    have q3:=Nat.eq_of_beq_eq_true q3
    rw [llen_eq] at q3
    split at ha
    ·rename_i c hc'
     cases ha
     obtain ⟨b,o,e1,e2,us,sp,n,e3,e4,e5,rfl⟩:=h.blk id _ hg rfl
     obtain ⟨cv,g1,g2⟩:=setsA_ok hcc h (cv:=0) (jv:=0) e3 rfl rfl hl0 hc'
     have hul:us.length=l.length:=SV.isL_length e3
     have hdv:l.length / lay.length * lay.length=l.length:=q3
     have hbk:(Bk.arr lay c (.c (.ofNat (Nat.div (llen l) lay.length))) t cp).Is C.σ ρ (.cells (preL C.σ none++us++sp).toArray t (0,0)):=by
      refine ⟨cv,l.length / lay.length,n,_,g1,by rw [llen_eq];rfl,e4,?_,?_,?_,rfl⟩
      ·have:l.length / lay.length * lay.length≤n * lay.length:=by simp [preL] at e5;omega
       exact Nat.le_of_mul_le_mul_right this (by omega)
      ·simp [preL] at e5 ⊢;omega
      ·intro j hj f κ hκ
       have hf:f < lay.length:=(List.getElem?_eq_some_iff.1 hκ).1
       have:=g2 j f κ hκ
       have hb:(j+1) * lay.length≤l.length / lay.length * lay.length:=Nat.mul_le_mul_right _ hj
       rw [Nat.add_mul,hdv] at hb
       have hlt:j * lay.length+f < us.length:=by omega
       have:=this.1 (by omega)
       rw [show j * lay.length+f - (0 * lay.length+0)=j * lay.length+f by omega] at this
       simp only [preL,List.nil_append,Nat.zero_add]
       rw [List.getElem?_toArray,List.getElem?_append_left hlt]
       exact this
     exact ⟨h.put hg rfl (b:=b) e1 rfl hbk (fun _ _=>rfl) e2 rfl rfl rfl rfl,Tn.of_put e1 (fun _ _=>rfl) rfl⟩
    ·cases ha
 ·cases ha
theorem OpR.ok_pre {H1:Hp} {s:Sem Next} (ht:Tn ρ H w ρ H1 w) {r:OpR} (hr:r.Ok cc C hc w0 ρ H1 w s):r.Ok cc C hc w0 ρ H w s:=by
 cases r with
 | val z H'=>
   obtain ⟨ρ',n,u,w',h1,h2,h3,h4,h5⟩:=hr
   exact ⟨ρ',n,u,w',ht.trans h1,h2,h3,h4,h5⟩
 | enter f args=>exact hr
 | round id args=>exact hr
 | ask p=>exact hr
 | bad n=>trivial
def opCopyT (cc:Cc) (H:Hp) (ts:Array TypeId) (xs:List SV):OpR:=
 match opCopy cc H ts xs with
 | .bad n=>match xs with
   | [.sl rd od dl dc,.sl r o m c]=>match dec (bdOf cc H) H.facts (.le dl m) with
     | .yes true=>opCopy cc H ts [.sl rd od dl dc,.sl r o dl c]
     | _=>.bad n
   | _=>.bad n
 | r=>r
theorem run_copy_cut {P:Program} {w:World} {ts:Array TypeId} {ty:TypeId} (ad:Option Addr) (n cap:Nat) (a:Addr) (m c:Nat) (h:n≤m) :
  (Builtin.copy_ ts ty #[.slice ad n cap,.slice (some a) m c]).run P w=(Builtin.copy_ ts ty #[.slice ad n cap,.slice (some a) n c]).run P w:=by
 have e1:Nat.min m n=n:=Nat.min_eq_right h
 have e2:Nat.min n n=n:=Nat.min_eq_right (Nat.le_refl n)
 cases h0:ts[0]? with
 | none=>simp [Builtin.copy_,h0]
 | some t=>
   cases hu:P.underlying t with
   | none=>simp [Builtin.copy_,Builtin.lenOf,Builtin.firstCells,h0,underlying,hu,e1,e2]
   | some d=>cases d<;>simp [Builtin.copy_,Builtin.lenOf,Builtin.firstCells,h0,underlying,hu,e1,e2]
theorem opCopyT_ok (hcc:cc.Ok C) (h:HpRel C hc w0 ρ H w) {ts:Array TypeId} {ty:TypeId} {xs:List SV} {us:List Value} (hx:SV.IsL C.σ ρ xs us):(opCopyT cc H ts xs).Ok cc C hc w0 ρ H w (do pure (.value (← Builtin.copy_ ts ty us.toArray))):=by
 have h0:=opCopy_ok (ts:=ts) (ty:=ty) hcc h hx
 unfold opCopyT
 split
 ·split
  ·rename_i rd od dl dc r o m c _
   split
   ·rename_i hd
    rw [SV.isL_cons] at hx
    obtain ⟨u,r',rfl,h1,h2⟩:=hx
    rw [SV.isL_cons] at h2
    obtain ⟨v,r'',rfl,h2,h3⟩:=h2
    rw [SV.isL_nil] at h3
    subst h3
    have h1':=h1
    simp only [SV.Is] at h1 h2
    obtain ⟨b,k,len,cap,e1,e2,e3,e4,rfl⟩:=h1
    obtain ⟨b2,k2,len2,cap2,g1,g2,g3,g4,rfl⟩:=h2
    have hle:(SB.le dl m).den C.σ ρ=some (decide (Int.ofNat len≤Int.ofNat len2)):=by simp [SB.den,e3,g3]
    have hlen:len≤len2:=Int.ofNat_le.1 (by simpa using (dec_ok (bdOf_ok hcc h) h.facts hle hd).symm)
    refine OpR.ok_congr (opCopy_ok (ts:=ts) (ty:=ty) hcc h (us:=[.slice (some ⟨b,k,none⟩) len cap,.slice (some ⟨b2,k2,none⟩) len cap2]) ?_) ?_
    ·rw [SV.isL_cons_cons,SV.isL_cons_cons]
     exact ⟨h1',by simp only [SV.Is];exact ⟨b2,k2,len,cap2,g1,g2,e3,g4,rfl⟩,SV.isL_nil.2 rfl⟩
    ·simp only [Sem.run_bind,run_copy_cut _ _ _ _ _ _ hlen]
   ·trivial
  ·trivial
 ·exact h0
def opCopyB (cc:Cc) (H:Hp) (ts:Array TypeId) (xs:List SV):OpR:=
 match opCopyT cc H ts xs with
 | .bad n=>match lnth ts.toList 0,xs with
   | some t,[.sl (.n id) _ _ _,_]=>match cc.P.underlying t with
     | some (.slice e)=>match layT cc.P 6 e with
       | some lay=>match arrfy cc H id lay with
         | some H1=>opCopyT cc H1 ts xs
         | none=>.bad n
       | none=>.bad n
     | _=>.bad n
   | _,_=>.bad n
 | r=>r
theorem opCopyB_ok (hcc:cc.Ok C) (h:HpRel C hc w0 ρ H w) {ts:Array TypeId} {ty:TypeId} {xs:List SV} {us:List Value} (hx:SV.IsL C.σ ρ xs us):(opCopyB cc H ts xs).Ok cc C hc w0 ρ H w (do pure (.value (← Builtin.copy_ ts ty us.toArray))):=by
 have h0:=opCopyT_ok (ts:=ts) (ty:=ty) hcc h hx
 unfold opCopyB
 split
 ·split
  ·split
   ·split
    ·split
     ·rename_i H1 ha
      obtain ⟨h1,h2⟩:=arrfy_ok hcc h ha
      exact OpR.ok_pre h2 (opCopyT_ok hcc h1 hx)
     ·trivial
    ·trivial
   ·trivial
  ·trivial
 ·exact h0
def opClearB (cc:Cc) (H:Hp) (ts:Array TypeId) (xs:List SV):OpR:=
 match opClear cc H ts xs with
 | .bad n=>match lnth ts.toList 0,xs with
   | some t,[.sl (.n id) _ _ _]=>match cc.P.underlying t with
     | some (.slice e)=>match layT cc.P 6 e with
       | some lay=>match arrfy cc H id lay with
         | some H1=>opClear cc H1 ts xs
         | none=>.bad n
       | none=>.bad n
     | _=>.bad n
   | _,_=>.bad n
 | r=>r
theorem opClearB_ok (hcc:cc.Ok C) (h:HpRel C hc w0 ρ H w) {ts:Array TypeId} {ty:TypeId} {xs:List SV} {us:List Value} (hx:SV.IsL C.σ ρ xs us):(opClearB cc H ts xs).Ok cc C hc w0 ρ H w (do pure (.value (← Builtin.clear_ ts ty us.toArray))):=by
 have h0:=opClear_ok (ts:=ts) (ty:=ty) hcc h hx
 unfold opClearB
 split
 ·split
  ·split
   ·split
    ·split
     ·rename_i H1 ha
      obtain ⟨h1,h2⟩:=arrfy_ok hcc h ha
      exact OpR.ok_pre h2 (opClear_ok hcc h1 hx)
     ·trivial
    ·trivial
   ·trivial
  ·trivial
 ·exact h0
def ownCs (bk:Bk):Bool:=match bk with | .arr _ _ _ _ _=>true | .cells _ _=>true | .row _ _ _ _ _=>true | _=>false
theorem ownCs_ok {bk:Bk} {o:Obj} (h:bk.Is C.σ ρ o) (hb:ownCs bk=true):∃ A t,o=.cells A t (0,0):=by
 cases bk<;>first | cases hb | skip
 ·obtain ⟨_,_,_,_,_,_,_,_,_,_,rfl⟩:=h;exact ⟨_,_,rfl⟩
 ·obtain ⟨_,_,rfl⟩:=h;exact ⟨_,_,rfl⟩
 ·obtain ⟨_,_,_,_,_,_,rfl⟩:=h;exact ⟨_,_,rfl⟩
def opOv (cc:Cc) (H:Hp) (fn:Func) (args:List SV):OpR:=
 match args with
 | [.sl (.n i) _ _ _,.sl (.n j) _ _ _]=>bif Nat.beq i j then .bad 380 else
   (match get H.heap i,get H.heap j with
   | some x,some y=>bif ownCs x && ownCs y then
     (match fn.params[0]? with
     | some t=>match cc.P.underlying t with
       | some (.slice e)=>match cc.P.info? e with
         | some _=>.val (.bo (.c false)) H
         | none=>.bad 381
       | _=>.bad 382
     | none=>.bad 383) else .bad 384
   | _,_=>.bad 385)
 | _=>.bad 386
theorem run_overlaps_no {P:Program} {w:World} {ps rs:Array TypeId} {t e:TypeId} {i:TypeInfo} (hp:ps[0]? = some t) (hu:P.underlying t=some (.slice e)) (hi:P.info? e=some i) {a b:Nat} (hab:a≠b) {A B:Array Value} {ta tb:TypeId}
  (ha:w.heap[a]? = some (.cells A ta (0,0))) (hb:w.heap[b]? = some (.cells B tb (0,0))) (x y la ca lb cb:Nat) :
  (Extern.SlicesOverlaps.overlaps ps rs #[.slice (some ⟨a,x,none⟩) la ca,.slice (some ⟨b,y,none⟩) lb cb]).run P w=.ok (.bool false) w:=by
 have e0:Extern.SlicesOverlaps.overlaps ps rs #[.slice (some ⟨a,x,none⟩) la ca,.slice (some ⟨b,y,none⟩) lb cb]=(do
  let some t:=ps[0]? | stuck "slices.overlaps: no parameter types"
  let .slice elem ← underlying t | stuck "slices.overlaps: slice type expected"
  let size ← sizeOf elem
  if la=0∨lb=0∨size=0 then pure (.bool false)
  else if (⟨a,x,none⟩:Addr).block != (⟨b,y,none⟩:Addr).block && (← frozen ⟨a,x,none⟩) && (← frozen ⟨b,y,none⟩) then unsupported .addressObserved
  else do
   if (⟨a,x,none⟩:Addr).block != (⟨b,y,none⟩:Addr).block then do
    noView ⟨a,x,none⟩;noView ⟨b,y,none⟩
    if ← mayBeOne ⟨a,x,none⟩ ⟨b,y,none⟩ then return .bool ((← choose (.extern "sameAddr.stringBytes" 2)) == 1)
   pure (.bool ((⟨a,x,none⟩:Addr).block == (⟨b,y,none⟩:Addr).block && (⟨a,x,none⟩:Addr).off < (⟨b,y,none⟩:Addr).off+lb * size && (⟨b,y,none⟩:Addr).off < (⟨a,x,none⟩:Addr).off+la * size))):=rfl
 rw [e0]
 by_cases h0:la=0∨lb=0∨i.size=0
 ·simp [hp,run_underlying hu,sizeOf,typeInfo,hi,h0]
 ·simp [hp,run_underlying hu,sizeOf,typeInfo,hi,h0,hab,World.frozen?,ha,hb,noView,viewAt,World.shape?,mayBeOne,stringish]
theorem opOv_ok (hcc:cc.Ok C) (h:HpRel C hc w0 ρ H w) {g:FuncId} {fn:Func} (hfn:cc.P.funcs[g]? = some fn) (hov:isOv fn=true) {args:List SV} {us:List Value} (ha:SV.IsL C.σ ρ args us) :
  (opOv cc H fn args).Ok cc C hc w0 ρ H w (callFunc g us.toArray):=by
 obtain ⟨hb,hn,hf⟩:=ovOk_ok hov (hcc.ov g fn hfn)
 have hnm:=hcc.names g fn hfn
 unfold opOv
 split
 ·rename_i i o l c j o' l' c'
  cases hij:Nat.beq i j with
  | true=>trivial
  | false=>
    have hne:i≠j:=fun e=>by subst e;simp at hij
    simp only [cond_false]
    split
    ·rename_i bx bz gx gz
     cases hck:(ownCs bx && ownCs bz) with
     | false=>trivial
     | true=>
       rw [Bool.and_eq_true] at hck
       simp only [cond_true]
       split
       ·rename_i t ht
        split
        ·rename_i e hu
         split
         ·rename_i ti hi
          rw [SV.isL_cons] at ha
          obtain ⟨u,r,rfl,h1,h2⟩:=ha
          rw [SV.isL_cons] at h2
          obtain ⟨v,r',rfl,h2,h3⟩:=h2
          rw [SV.isL_nil] at h3
          subst h3
          simp only [SV.Is,SR.den] at h1 h2
          obtain ⟨a,x,la,ca,a1,_,_,_,rfl⟩:=h1
          obtain ⟨b,y,lb,cb,b1,_,_,_,rfl⟩:=h2
          have lx:bx.live=true:=by cases bx<;>first | rfl | cases hck.1
          have lz:bz.live=true:=by cases bz<;>first | rfl | cases hck.2
          obtain ⟨a',oa,a2,a3,a4⟩:=h.blk i bx gx lx
          obtain ⟨b',ob,b2,b3,b4⟩:=h.blk j bz gz lz
          rw [a1] at a2;cases a2
          rw [b1] at b2;cases b2
          obtain ⟨A,ta,rfl⟩:=ownCs_ok a4 hck.1
          obtain ⟨B,tb,rfl⟩:=ownCs_ok b4 hck.2
          have hab:a≠b:=fun e=>by subst e;exact hne (h.inj i j bx bz a gx lx gz lz a1 b1)
          have hr:=run_overlaps_no (rs:=fn.resultTypes) ht hu hi hab a3 b3 x y la ca lb cb
          refine ⟨ρ,.value (.bool false),.bool false,w,Tn.refl ρ H w,?_,.inl rfl,by simp only [SV.Is];exact ⟨false,rfl,rfl⟩,h⟩
          have hnm':¬ fn.name = "runtime.NumGoroutine" := by simpa using hnm
          simp [callFunc,hfn,hnm',hb,hn,hf,hr]
         ·trivial
        ·trivial
       ·trivial
    ·trivial
 ·trivial
end
end
end Go.Sx
