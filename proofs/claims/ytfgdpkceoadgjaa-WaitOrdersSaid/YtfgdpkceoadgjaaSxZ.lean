/- A symbolic executor: a state, seen as an instance of a template, whole. -/
import Derived.Test.YtfgdpkceoadgjaaSxY
namespace Go.Sx
set_option linter.unusedSectionVars false
set_option linter.unusedVariables false
set_option linter.unusedSimpArgs false
open Go.RowKit
structure Tm where
 f:Fr
 fs:List Fr
 H:Hp
 vs:List Nat
noncomputable def mI (vs:List Nat) (x:SI):SI→In→In:=
 SI.rec (motive:=fun _=>SI→In→In) (fun _ _ I=>I)
  (fun i y I=>bif lmem vs i then (match get I.s.i i with | none=>⟨⟨(i,y)::I.s.i,I.s.b⟩,I.bm,I.dm,I.km⟩ | some _=>I) else I)
  (fun i y I=>match get I.dm i with | none=>⟨I.s,I.bm,(i,y)::I.dm,I.km⟩ | some _=>I)
  (fun f _ _ ha hb y I=>match y with | .op g a b=>bif Nat.beq f.code g.code then hb b (ha a I) else I | _=>I)
  (fun k _ ha y I=>match y with | .wk _ a=>ha a I | _=>I)
  (fun f _ _ _ _ _ _ h0 h1 h2 h3 h4 h5 y I=>match y with | .ap g a0 a1 a2 a3 a4 a5=>bif Nat.beq f g then h5 a5 (h4 a4 (h3 a3 (h2 a2 (h1 a1 (h0 a0 I))))) else I | _=>I) x
noncomputable def mB (vs:List Nat) (x y:SB) (I:In):In:=
 match x with
 | .v i=>bif lmem vs i then (match get I.s.b i with | none=>⟨⟨I.s.i,(i,y)::I.s.b⟩,I.bm,I.dm,I.km⟩ | some _=>I) else I
 | _=>I
noncomputable def mId (i j:Nat) (I:In):In:=match get I.bm i with | none=>⟨I.s,(i,j)::I.bm,I.dm,I.km⟩ | some _=>I
noncomputable def mR (x y:SR) (I:In):In:=
 match x,y with
 | .n i,.n j=>mId i j I
 | .k i,.k j=>bif Nat.beq i j then I else (match get I.km i with | none=>⟨I.s,I.bm,I.dm,(i,.k j)::I.km⟩ | some _=>I)
 | .k i,r=>match get I.km i with | none=>⟨I.s,I.bm,I.dm,(i,r)::I.km⟩ | some _=>I
 | _,_=>I
mutual
noncomputable def mV (vs:List Nat):SV→SV→In→In
 | .it _ e,.it _ e',I=>mI vs e e' I
 | .bo p,.bo q,I=>mB vs p q I
 | .pt r o,.pt r' o',I=>mI vs o o' (mR r r' I)
 | .sl r o l c,.sl r' o' l' c',I=>mI vs c c' (mI vs l l' (mI vs o o' (mR r r' I)))
 | .mp r,.mp r',I=>mR r r' I
 | .fn _ a c,.fn _ a' c',I=>mVL vs c c' (mVL vs a a' I)
 | .yl i,.yl j,I=>mId i j I
 | .fc _ x,.fc _ y,I=>mV vs x y I
 | .ag l,.ag l',I=>mVL vs l l' I
 | .tp l,.tp l',I=>mVL vs l l' I
 | _,_,I=>I
noncomputable def mVL (vs:List Nat):List SV→List SV→In→In
 | a::l,b::l',I=>mVL vs l l' (mV vs a b I)
 | _,_,I=>I
end
noncomputable def mT (vs:List Nat) (T T':List (Nat×SV)) (I:In):In:=
 List.rec (motive:=fun _=>In→In) (fun I=>I) (fun p _ ih I=>match get T' p.1 with | some z=>ih (mV vs p.2 z I) | none=>ih I) T I
noncomputable def mIds (l:List Nat):List Nat→In→In:=
 List.rec (motive:=fun _=>List Nat→In→In) (fun _ I=>I) (fun i _ ih l' I=>match l' with | j::r=>ih r (mId i j I) | []=>I) l
noncomputable def mTd (l:List It):List It→In→In:=
 List.rec (motive:=fun _=>List It→In→In) (fun _ I=>I) (fun x _ ih l' I=>match l' with
  | y::r=>ih r (match x,y with | .inRangeFunc i,.inRangeFunc j=>mId i j I | .endRangeFunc i,.endRangeFunc j=>mId i j I | _,_=>I)
  | []=>I) l
noncomputable def mF (vs:List Nat) (f0 f:Fr) (I:In):In:=
 let I1:=mTd f0.todo f.todo (mIds f0.df f.df (mT vs f0.tm f.tm I))
 match f0.rd,f.rd with | some i,some j=>mId i j I1 | _,_=>I1
noncomputable def mFs (vs:List Nat) (l:List Fr):List Fr→In→In:=
 List.rec (motive:=fun _=>List Fr→In→In) (fun _ I=>I) (fun x _ ih l' I=>match l' with | y::r=>ih r (mF vs x y I) | []=>I) l
noncomputable def codeL (L:Nat) (l:List SV):SI→Nat→Nat→SI:=
 List.rec (motive:=fun _=>SI→Nat→Nat→SI) (fun c _ _=>c) (fun z _ ih c j f=>
  let e:=match z with | .it _ e=>e | .bo (.c true)=>.c 1 | _=>.c 0
  bif Nat.beq (Nat.succ f) L then ih (.ap 8 c (.c (.ofNat j)) (.c (.ofNat f)) e (.c 0) (.c 0)) (Nat.succ j) 0 else ih (.ap 8 c (.c (.ofNat j)) (.c (.ofNat f)) e (.c 0) (.c 0)) j (Nat.succ f)) l
noncomputable def mBk (vs:List Nat) (x y:Bk) (I:In):In:=
 match x,y with
 | .arr _ c n _ cp,.arr _ c' n' _ cp'=>mI vs cp cp' (mI vs n n' (mI vs c c' I))
 | .arr lay c n _ cp,.row none l _ cp' sz=>mI vs cp cp' (mI vs n (.c (.ofNat (Nat.div (llen l) sz))) (mI vs c (codeL (llen lay) l (.c 0) 0 0) I))
 | .arr lay c n _ cp,.cells l _=>mI vs cp (.c (.ofNat (Nat.div (llen l) (llen lay)))) (mI vs n (.c (.ofNat (Nat.div (llen l) (llen lay)))) (mI vs c (codeL (llen lay) l (.c 0) 0 0) I))
 | .cells l _,.cells l' _=>mVL vs l l' I
 | .row _ l _ cp _,.row _ l' _ cp' _=>mI vs cp cp' (mVL vs l l' I)
 | .loop _ _ _ _ tm _ _ _ df,.loop _ _ _ _ tm' _ _ _ df'=>mId df df' (mT vs tm tm' I)
 | .mapc _ _ c,.mapc _ _ c'=>mI vs c c' I
 | _,_=>I
noncomputable def mH1 (vs:List Nat) (H:Hp) (l:List (Nat×Bk)):In→In:=
 List.rec (motive:=fun _=>In→In) (fun I=>I) (fun p _ ih I=>match get I.bm p.1 with
  | some j=>match get H.heap j with | some z=>ih (mBk vs p.2 z I) | none=>ih I
  | none=>ih I) l
noncomputable def mH (vs:List Nat) (H:Hp) (l:List (Nat×Bk)) (n:Nat):In→In:=
 Nat.rec (motive:=fun _=>In→In) (fun I=>I) (fun _ ih I=>ih (mH1 vs H l I)) n
noncomputable def mTm (T:Tm) (f:Fr) (fs:List Fr) (H:Hp):In:=
 mH T.vs H T.H.heap (llen T.H.heap) (mFs T.vs T.fs fs (mF T.vs T.f f ⟨⟨[],[]⟩,[],[],[]⟩))
noncomputable def SI.okd (ds:List Nat) (x:SI):Bool:=
 SI.rec (motive:=fun _=>Bool) (fun _=>true) (fun _=>true) (fun i=>lmem ds i) (fun _ _ _ a b=>bif a then b else false) (fun _ _ a=>a)
  (fun _ _ _ _ _ _ _ a b c d e g=>bif a then (bif b then (bif c then (bif d then (bif e then g else false) else false) else false) else false) else false) x
noncomputable def SB.okd (ds:List Nat) (x:SB):Bool:=
 SB.rec (motive:=fun _=>Bool) (fun _=>true) (fun _=>true) (fun x y=>bif x.okd ds then y.okd ds else false) (fun x y=>bif x.okd ds then y.okd ds else false) (fun x y=>bif x.okd ds then y.okd ds else false)
  (fun _ _=>true) (fun f a b c d e g=>(SI.ap f a b c d e g).okd ds) (fun _ a=>a) (fun _ _ a b=>bif a then b else false) (fun _ _ a b=>bif a then b else false) x
noncomputable def dsOf (F:List (SB×Bool)):List Nat:=
 List.rec (motive:=fun _=>List Nat) [] (fun p _ ih=>match p.1 with | .le _ (.d i)=>i::ih | _=>ih) F
section
variable {σ:Sta} {ρ:Dyn}
theorem dsOf_ok:∀ {F:List (SB×Bool)},(∀ f∈F,f.1.den σ ρ=some f.2)→∀ i∈dsOf F,∃ n,ρ.di i=some n
 | [],_,i,hi=>by cases hi
 | p::F,h,i,hi=>by
   have ih:=dsOf_ok (F:=F) fun f hf=>h f (List.mem_cons_of_mem _ hf)
   have h0:=h p (by simp)
   have hi':i∈(match p.1 with | .le _ (.d i)=>i::dsOf F | _=>dsOf F):=hi
   split at hi'
   ·rename_i x k hk
    rcases List.mem_cons.1 hi' with rfl | hi'
    ·rw [hk] at h0
     simp only [SB.den] at h0
     obtain ⟨a,_,h0⟩:=Option.bind_eq_some_iff.1 h0
     obtain ⟨b,hb,_⟩:=Option.bind_eq_some_iff.1 h0
     simp only [SI.den] at hb
     cases hd:ρ.di i with
     | none=>rw [hd] at hb;cases hb
     | some n=>exact ⟨n,rfl⟩
    ·exact ih i hi'
   ·exact ih i hi'
theorem SI.okd_den {ds:List Nat} (hd:∀ i∈ds,∃ n,ρ.di i=some n):∀ {x:SI},x.okd ds=true→∃ a,x.den σ ρ=some a:=by
 intro x
 induction x with
 | c n=>exact fun _=>⟨n,rfl⟩
 | v i=>exact fun _=>⟨_,rfl⟩
 | d i=>
   intro h
   obtain ⟨n,hn⟩:=hd i (lmem_iff.1 h)
   exact ⟨n,by simp [SI.den,hn]⟩
 | op f a b ha hb=>
   intro h
   have h':(bif a.okd ds then b.okd ds else false)=true:=h
   rw [cond_true_iff] at h'
   obtain ⟨x,hx⟩:=ha h'.1
   obtain ⟨y,hy⟩:=hb h'.2
   exact ⟨_,by simp [SI.den,hx,hy];rfl⟩
 | wk k a ha=>
   intro h
   obtain ⟨x,hx⟩:=ha h
   exact ⟨_,by simp [SI.den,hx];rfl⟩
 | ap f a0 a1 a2 a3 a4 a5 h0 h1 h2 h3 h4 h5=>
   intro h
   have h':(bif a0.okd ds then (bif a1.okd ds then (bif a2.okd ds then (bif a3.okd ds then (bif a4.okd ds then a5.okd ds else false) else false) else false) else false) else false)=true:=h
   simp only [cond_true_iff] at h'
   obtain ⟨q0,q1,q2,q3,q4,q5⟩:=h'
   obtain ⟨x0,e0⟩:=h0 q0
   obtain ⟨x1,e1⟩:=h1 q1
   obtain ⟨x2,e2⟩:=h2 q2
   obtain ⟨x3,e3⟩:=h3 q3
   obtain ⟨x4,e4⟩:=h4 q4
   obtain ⟨x5,e5⟩:=h5 q5
   exact ⟨_,by simp only [SI.den,e0,e1,e2,e3,e4,e5,Option.bind_some];rfl⟩
theorem SB.okd_den {ds:List Nat} (hd:∀ i∈ds,∃ n,ρ.di i=some n):∀ {x:SB},x.okd ds=true→∃ a,x.den σ ρ=some a:=by
 intro x
 induction x with
 | c n=>exact fun _=>⟨n,rfl⟩
 | v i=>exact fun _=>⟨_,rfl⟩
 | seq a b=>exact fun _=>⟨_,rfl⟩
 | lt a b=>
   intro h
   have h':(bif a.okd ds then b.okd ds else false)=true:=h
   rw [cond_true_iff] at h'
   obtain ⟨x,hx⟩:=SI.okd_den (σ:=σ) hd h'.1
   obtain ⟨y,hy⟩:=SI.okd_den (σ:=σ) hd h'.2
   exact ⟨_,by simp [SB.den,hx,hy];rfl⟩
 | le a b=>
   intro h
   have h':(bif a.okd ds then b.okd ds else false)=true:=h
   rw [cond_true_iff] at h'
   obtain ⟨x,hx⟩:=SI.okd_den (σ:=σ) hd h'.1
   obtain ⟨y,hy⟩:=SI.okd_den (σ:=σ) hd h'.2
   exact ⟨_,by simp [SB.den,hx,hy];rfl⟩
 | eq a b=>
   intro h
   have h':(bif a.okd ds then b.okd ds else false)=true:=h
   rw [cond_true_iff] at h'
   obtain ⟨x,hx⟩:=SI.okd_den (σ:=σ) hd h'.1
   obtain ⟨y,hy⟩:=SI.okd_den (σ:=σ) hd h'.2
   exact ⟨_,by simp [SB.den,hx,hy];rfl⟩
 | ap f a0 a1 a2 a3 a4 a5=>
   intro h
   have h':(bif a0.okd ds then (bif a1.okd ds then (bif a2.okd ds then (bif a3.okd ds then (bif a4.okd ds then a5.okd ds else false) else false) else false) else false) else false)=true:=h
   simp only [cond_true_iff] at h'
   obtain ⟨q0,q1,q2,q3,q4,q5⟩:=h'
   obtain ⟨x0,e0⟩:=SI.okd_den (σ:=σ) hd q0
   obtain ⟨x1,e1⟩:=SI.okd_den (σ:=σ) hd q1
   obtain ⟨x2,e2⟩:=SI.okd_den (σ:=σ) hd q2
   obtain ⟨x3,e3⟩:=SI.okd_den (σ:=σ) hd q3
   obtain ⟨x4,e4⟩:=SI.okd_den (σ:=σ) hd q4
   obtain ⟨x5,e5⟩:=SI.okd_den (σ:=σ) hd q5
   exact ⟨_,by simp only [SB.den,e0,e1,e2,e3,e4,e5,Option.bind_some];rfl⟩
 | not p hp=>
   intro h
   obtain ⟨x,hx⟩:=hp h
   exact ⟨!x,by simp [SB.den,hx]⟩
 | and p q hp hq=>
   intro h
   have h':(bif p.okd ds then q.okd ds else false)=true:=h
   rw [cond_true_iff] at h'
   obtain ⟨x,hx⟩:=hp h'.1
   obtain ⟨y,hy⟩:=hq h'.2
   exact ⟨x && y,by simp [SB.den,hx,hy]⟩
 | or p q hp hq=>
   intro h
   have h':(bif p.okd ds then q.okd ds else false)=true:=h
   rw [cond_true_iff] at h'
   obtain ⟨x,hx⟩:=hp h'.1
   obtain ⟨y,hy⟩:=hq h'.2
   exact ⟨x || y,by simp [SB.den,hx,hy]⟩
end
noncomputable def cpOf (H:Hp) (e:SI):Bool:=
 List.rec (motive:=fun _=>Bool) false (fun p _ ih=>match get H.heap p.1 with | some (.arr _ _ _ _ cp)=>(bif cp.beq e then true else ih) | some (.row _ _ _ cp _)=>(bif cp.beq e then true else ih) | _=>ih) H.heap
theorem cpOf_ok {C:Ct} {hc:Nat→Option Obj} {w0:World} {ρ:Dyn} {H:Hp} {w:World} (h:HpRel C hc w0 ρ H w) {e:SI} (he:cpOf H e=true):∃ n:Nat,e.den C.σ ρ=some (Int.ofNat n):=by
 unfold cpOf at he
 have:∀ l:List (Nat×Bk),(List.rec (motive:=fun _=>Bool) false (fun p _ ih=>match get H.heap p.1 with | some (.arr _ _ _ _ cp)=>(bif cp.beq e then true else ih) | some (.row _ _ _ cp _)=>(bif cp.beq e then true else ih) | _=>ih) l)=true→∃ n:Nat,e.den C.σ ρ=some (Int.ofNat n):=by
  intro l
  induction l with
  | nil=>intro h;cases h
  | cons p l ih=>
    intro hl
    dsimp only at hl
    split at hl
    ·rename_i lay c n t cp hg
     cases hb:cp.beq e with
     | false=>rw [hb] at hl;exact ih hl
     | true=>
       have:=SI.beq_eq hb;subst this
       obtain ⟨b,o,_,_,cv,nv,cpv,A,_,_,h3,_⟩:=h.blk _ _ hg rfl
       exact ⟨cpv,h3⟩
    ·rename_i pre l' t cp sz hg
     cases hb:cp.beq e with
     | false=>rw [hb] at hl;exact ih hl
     | true=>
       have:=SI.beq_eq hb;subst this
       obtain ⟨b,o,_,_,us,sp,n,_,h3,_⟩:=h.blk _ _ hg rfl
       exact ⟨n,h3⟩
    ·exact ih hl
 exact this _ he
noncomputable def In.chk (cc:Cc) (H:Hp) (I:In):Bool:=
 let ds:=dsOf H.facts
 bif lall (fun p=>p.2.okd ds) I.s.i then (bif lall (fun p=>p.2.okd ds) I.s.b then (bif lall (fun p=>bif p.2.okd ds then (bif nonneg (bdOf cc H) p.2 then true else cpOf H p.2) else false) I.dm then
  lall (fun p=>match p.2 with | .n id=>(match get H.heap id with | some bk=>bk.live | none=>false) | _=>true) I.km else false) else false) else false
section
variable {cc:Cc} {C:Ct} {hc:Nat→Option Obj} {w0:World} {cs:List Frame} {ρ:Dyn} {f:Fr} {fs:List Fr} {H:Hp} {w:World} {I:In}
theorem In.chk_ok (hcc:cc.Ok C) (h:HpRel C hc w0 ρ H w) (hI:I.chk cc H=true):I.Def C.σ ρ:=by
 have hI':(bif lall (fun p=>p.2.okd (dsOf H.facts)) I.s.i then (bif lall (fun p=>p.2.okd (dsOf H.facts)) I.s.b then (bif lall (fun p=>bif p.2.okd (dsOf H.facts) then (bif nonneg (bdOf cc H) p.2 then true else cpOf H p.2) else false) I.dm then
  lall (fun p=>match p.2 with | .n id=>(match get H.heap id with | some bk=>bk.live | none=>false) | _=>true) I.km else false) else false) else false)=true:=hI
 simp only [cond_true_iff] at hI'
 obtain ⟨h1,h2,h3,h4⟩:=hI'
 have hd:=dsOf_ok h.facts
 refine ⟨fun j e he=>SI.okd_den hd (lall_iff.1 h1 _ (get_mem he)),fun j e he=>SB.okd_den hd (lall_iff.1 h2 _ (get_mem he)),fun j e he=>?_,fun j r he=>?_⟩
 ·have:=lall_iff.1 h3 _ (get_mem he)
  simp only [cond_true_iff] at this
  obtain ⟨a,ha⟩:=SI.okd_den hd this.1
  cases hn:nonneg (bdOf cc H) e with
  | true=>
    obtain ⟨n,rfl⟩:=nonneg_ok (bdOf_ok hcc h) hn ha
    exact ⟨n,ha⟩
  | false=>
    have h2:=this.2
    rw [hn] at h2
    exact cpOf_ok h h2
 ·have:=lall_iff.1 h4 _ (get_mem he)
  cases r with
  | n id=>
    dsimp only at this
    split at this
    ·rename_i bk hg
     obtain ⟨b,o,e1,_⟩:=h.blk id bk hg this
     exact ⟨b,e1⟩
    ·cases this
  | k i=>exact ⟨_,rfl⟩
  | g i=>exact ⟨_,rfl⟩
noncomputable def idsEq (l:List Nat):List Nat→Bool:=
 List.rec (motive:=fun _=>List Nat→Bool) (fun l'=>match l' with | []=>true | _=>false) (fun a _ ih l'=>match l' with | b::r=>bif Nat.beq a b then ih r else false | []=>false) l
theorem idsEq_eq:∀ {l l':List Nat},idsEq l l'=true→l=l'
 | [],[],_=>rfl
 | [],_::_,h=>by cases h
 | _::_,[],h=>by cases h
 | a::l,b::l',h=>by
   have h':(bif Nat.beq a b then idsEq l l' else false)=true:=h
   rw [cond_true_iff] at h'
   rw [Nat.eq_of_beq_eq_true h'.1,idsEq_eq h'.2]
noncomputable def rdCmp (I:In) (a b:Option Nat):Bool:=match a,b with | none,none=>true | some i,some j=>(match get I.bm i with | some k=>Nat.beq k j | none=>false) | _,_=>false
noncomputable def frCmp (I:In) (f0 f:Fr):Option (List Ob):=
 bif Nat.beq f0.fn f.fn then (bif Nat.beq f0.nt f.nt then (bif rdCmp I f0.rd f.rd then (match tmIns I f0.tm,idsIns I f0.df with
  | some tm,some df=>bif idsEq df f.df then tmCmp tm f.tm else none
  | _,_=>none) else none) else none) else none
theorem frCmp_ok (hI:I.Def C.σ ρ) {f0:Fr} {fr:Frame} {L:List Ob} (h:frCmp I f0 f=some L) (hL:Obs C.σ ρ L) (htd:tdIns I f0.todo=some f.todo) (hf:FrIs C.σ ρ f fr):FrIs (I.sta C.σ ρ) (I.dyn C.σ ρ) f0 fr∧f0.fn=f.fn∧f0.rd.isNone=f.rd.isNone:=by
 unfold frCmp at h
 cases h1:Nat.beq f0.fn f.fn with
 | false=>rw [h1] at h;cases h
 | true=>
 cases h2:Nat.beq f0.nt f.nt with
 | false=>rw [h1,h2] at h;cases h
 | true=>
 cases h3:rdCmp I f0.rd f.rd with
 | false=>rw [h1,h2,h3] at h;cases h
 | true=>
 rw [h1,h2,h3] at h
 simp only [cond_true] at h
 split at h
 ·rename_i tm df htm hdf
  cases h4:idsEq df f.df with
  | false=>rw [h4] at h;cases h
  | true=>
    rw [h4] at h
    have h1:=Nat.eq_of_beq_eq_true h1
    have h2:=Nat.eq_of_beq_eq_true h2
    have h4:=idsEq_eq h4
    obtain ⟨tmps,dfs,k,ro,heq,htmr,htdr,hdfr,hrdr⟩:=hf
    refine ⟨⟨tmps,dfs,k,ro,by rw [h1];exact heq,?_,tdIns_rel htd htdr,idsIns_rel hdf (by rw [h4];exact hdfr),?_⟩,h1,?_⟩
    ·rw [h2]
     exact (tmIns_rel hI htm).1 ⟨htmr.size,tmCmp_ok htmr h hL⟩
    ·unfold rdCmp at h3
     split at h3
     ·rename_i e1 e2
      rw [e2] at hrdr
      rw [e1];exact hrdr
     ·rename_i i j e1 e2
      rw [e2] at hrdr
      rw [e1]
      obtain ⟨b,g1,g2⟩:=hrdr
      split at h3
      ·rename_i kk hk
       have:=Nat.eq_of_beq_eq_true h3;subst this
       exact ⟨b,by show (get I.bm i).bind ρ.bl=some b;rw [hk];exact g1,g2⟩
      ·cases h3
     ·cases h3
    ·unfold rdCmp at h3
     split at h3
     ·rename_i e1 e2;rw [e1,e2]
     ·rename_i i j e1 e2;rw [e1,e2];rfl
     ·cases h3
 ·cases h
noncomputable def fsCmp (I:In) (l:List Fr):List Fr→Option (List Ob):=
 List.rec (motive:=fun _=>List Fr→Option (List Ob)) (fun l'=>match l' with | []=>some [] | _=>none) (fun f0 _ ih l'=>match l' with | f::r=>oapp (frCmp I f0 f) (ih r) | []=>none) l
theorem fsCmp_ok (hI:I.Def C.σ ρ):∀ {l l':List Fr} {frs:List Frame} {L:List Ob},fsCmp I l l'=some L→Obs C.σ ρ L→l.map (fun f0=>tdIns I f0.todo)=l'.map (fun f=>some f.todo)→FsRel C.σ ρ l' frs→FsRel (I.sta C.σ ρ) (I.dyn C.σ ρ) l frs∧l.map (fun f=>(f.fn,f.rd.isNone))=l'.map (fun f=>(f.fn,f.rd.isNone))
 | [],l',frs,L,h,hL,htd,hr=>by
   cases l' with
   | nil=>exact ⟨hr,rfl⟩
   | cons=>cases h
 | f0::l,l',frs,L,h,hL,htd,hr=>by
   cases l' with
   | nil=>cases h
   | cons f l'=>
     have h':oapp (frCmp I f0 f) (fsCmp I l l')=some L:=h
     obtain ⟨x,y,k1,k2,k3,k4⟩:=oapp_ok h' hL
     obtain ⟨fr,t,rfl,g1,g2⟩:=hr
     simp only [List.map_cons,List.cons.injEq] at htd
     obtain ⟨q1,q2,q3⟩:=frCmp_ok hI k1 k3 htd.1 g1
     obtain ⟨r1,r2⟩:=fsCmp_ok hI k2 k4 htd.2 g2
     exact ⟨⟨fr,t,rfl,q1,r1⟩,by rw [List.map_cons,List.map_cons,r2,q2,q3]⟩
noncomputable def nnOb (cc:Cc) (H:Hp) (bk:Bk):List Ob:=match bk with | .arr _ _ n _ _=>bif nonneg (bdOf cc H) n then [] else [.fa (.le (.c 0) n) true] | _=>[]
noncomputable def bkCmp (cc:Cc) (H:Hp) (I:In) (i:Nat) (bk:Bk):Option (List Ob):=
 bif bk.live then (match get I.bm i,bk.ins I with
  | some j,some bk'=>match get H.heap j with
    | some z=>bif z.live then oapp (Bk.cmp bk' z) (some (nnOb cc H bk')) else none
    | none=>none
  | _,_=>none) else none
noncomputable def hpCmp (cc:Cc) (H:Hp) (I:In) (l:List (Nat×Bk)):Option (List Ob):=
 List.rec (motive:=fun _=>Option (List Ob)) (some []) (fun p _ ih=>oapp (bkCmp cc H I p.1 p.2) ih) l
noncomputable def cdA (H:Hp) (I:In) (i:Nat):Option (Option Code×Array Tmp×Code×Code):=match get I.bm i with | some j=>(match get H.heap j with | some z=>z.code | none=>none) | none=>none
theorem Bk.ins_code {bk bk':Bk} (h:bk.ins I=some bk'):bk'.code=bk.code:=by
 unfold Bk.ins at h
 split at h
 case h_5=>split at h<;>cases h<;>rfl
 all_goals first
  | (cases h;rfl)
  | (split at h<;>cases h<;>rfl)
  | cases h
theorem hpCmp_ok (hcc:cc.Ok C) (h:HpRel C hc w0 ρ H w) (hI:I.Def C.σ ρ):∀ {l:List (Nat×Bk)} {L:List Ob},hpCmp cc H I l=some L→Obs C.σ ρ L→l.map (fun p=>p.2.code)=l.map (fun p=>cdA H I p.1)→∀ i bk,(i,bk)∈l→
  bk.live=true∧∃ j z b o,get I.bm i=some j∧get H.heap j=some z∧z.live=true∧ρ.bl j=some b∧w.heap[b]? = some o∧bk.Is (I.sta C.σ ρ) (I.dyn C.σ ρ) o
 | [],L,_,_,_,i,bk,hm=>by cases hm
 | p::l,L,hh,hL,hcd,i,bk,hm=>by
   have hh':oapp (bkCmp cc H I p.1 p.2) (hpCmp cc H I l)=some L:=hh
   obtain ⟨x,y,k1,k2,k3,k4⟩:=oapp_ok hh' hL
   simp only [List.map_cons,List.cons.injEq] at hcd
   rcases List.mem_cons.1 hm with e | hm
   ·subst e
    unfold bkCmp at k1
    cases hl:bk.live with
    | false=>simp only [hl,cond_false] at k1;cases k1
    | true=>
      simp only [hl,cond_true] at k1
      split at k1
      ·rename_i j bk' hj hins
       split at k1
       ·rename_i z hz
        cases hzl:z.live with
        | false=>rw [hzl] at k1;cases k1
        | true=>
          rw [hzl] at k1
          simp only [cond_true] at k1
          obtain ⟨x1,x2,m1,m2,m3,m4⟩:=oapp_ok k1 k3
          cases m2
          obtain ⟨b,o,g1,g2,g3⟩:=h.blk j z hz hzl
          obtain ⟨q1,q2⟩:=Bk.ins_is (o:=o) hI hins
          refine ⟨rfl,j,z,b,o,hj,hz,hzl,g1,g2,q1.1 (Bk.cmp_ok ?_ m1 m3 ?_ g3)⟩
          ·intro lay c n t cp e
           subst e
           have hsrc:∃ c0 n0:SI,c0.ins I=some c∧n0.ins I=some n:=by
            unfold Bk.ins at hins
            split at hins
            ·split at hins
             ·rename_i c0 n0 _ _ _ _ _ hc hn hcp
              cases hins
              exact ⟨_,_,hc,hn⟩
             ·cases hins
            all_goals first
             | (cases hins;done)
             | (split at hins<;>cases hins)
           obtain ⟨c0,n0,i1,i2⟩:=hsrc
           obtain ⟨a,a1,_⟩:=SI.ins_ok hI i1
           obtain ⟨v,v1,_⟩:=SI.ins_ok hI i2
           refine ⟨⟨a,a1⟩,?_⟩
           cases hnn:nonneg (bdOf cc H) n with
           | true=>
             obtain ⟨m,rfl⟩:=nonneg_ok (bdOf_ok hcc h) hnn v1
             exact ⟨m,v1⟩
           | false=>
             have:=m4 (.fa (.le (.c 0) n) true) (by simp [nnOb,hnn])
             simp only [Ob.Ok,SB.den,SI.den,v1,Option.bind_some,Option.some.injEq,decide_eq_true_eq] at this
             exact ⟨v.toNat,by rw [v1];congr 1;simp;omega⟩
          ·rw [Bk.ins_code hins]
           have:=hcd.1
           simp only [cdA,hj,hz] at this
           exact this
       ·cases k1
      ·cases k1
   ·exact hpCmp_ok hcc h hI k2 k4 hcd.2 i bk hm
noncomputable def nodup (l:List Nat):Bool:=List.rec (motive:=fun _=>Bool) true (fun a r ih=>bif lmem r a then false else ih) l
noncomputable def bmL (I:In) (l:List (Nat×Bk)):List Nat:=List.rec (motive:=fun _=>List Nat) [] (fun p _ ih=>match get I.bm p.1 with | some j=>j::ih | none=>ih) l
theorem bm_mem_aux:∀ {l:List (Nat×Bk)} {i:Nat} {bk:Bk} {j:Nat},(i,bk)∈l→get I.bm i=some j→j∈bmL I l
 | [],_,_,_,h,_=>by cases h
 | q::l,i,bk,j,h,e=>by
   show j∈(match get I.bm q.1 with | some j=>j::bmL I l | none=>bmL I l)
   rcases List.mem_cons.1 h with e' | h
   ·subst e';rw [e];simp
   ·have:=bm_mem_aux h e
    cases get I.bm q.1 with
    | none=>exact this
    | some b=>exact List.mem_cons_of_mem _ this
theorem bm_inj:∀ {l:List (Nat×Bk)},nodup (bmL I l)=true→∀ i i' bk bk' j,(i,bk)∈l→(i',bk')∈l→get I.bm i=some j→get I.bm i'=some j→i=i'
 | [],_,i,_,_,_,_,h,_,_,_=>by cases h
 | p::l,hn,i,i',bk,bk',j,h1,h2,e1,e2=>by
   cases g:get I.bm p.1 with
   | none=>
     have hn':nodup (bmL I l)=true:=by
      have hn':nodup (match get I.bm p.1 with | some j=>j::bmL I l | none=>bmL I l)=true:=hn
      rw [g] at hn';exact hn'
     rcases List.mem_cons.1 h1 with e | h1
     ·subst e;rw [g] at e1;cases e1
     ·rcases List.mem_cons.1 h2 with e | h2
      ·subst e;rw [g] at e2;cases e2
      ·exact bm_inj hn' i i' bk bk' j h1 h2 e1 e2
   | some a=>
     have hn':(bif lmem (bmL I l) a then false else nodup (bmL I l))=true:=by
      have hn':nodup (match get I.bm p.1 with | some j=>j::bmL I l | none=>bmL I l)=true:=hn
      rw [g] at hn';exact hn'
     cases ha:lmem (bmL I l) a with
     | true=>rw [ha] at hn';cases hn'
     | false=>
       rw [ha] at hn'
       have hna:a ∉ bmL I l:=fun hm=>by rw [lmem_iff.2 hm] at ha;cases ha
       rcases List.mem_cons.1 h1 with e | h1'
       ·have ea:get I.bm i=some a:=by rw [← g,← e]
        rw [e1] at ea;cases ea
        rcases List.mem_cons.1 h2 with e' | h2'
        ·rw [← e'] at e;cases e;rfl
        ·exact absurd (bm_mem_aux h2' e2) hna
       ·rcases List.mem_cons.1 h2 with e | h2'
        ·have ea:get I.bm i'=some a:=by rw [← g,← e]
         rw [e2] at ea;cases ea
         exact absurd (bm_mem_aux h1' e1) hna
        ·exact bm_inj hn' i i' bk bk' j h1' h2' e1 e2
end
end Go.Sx
