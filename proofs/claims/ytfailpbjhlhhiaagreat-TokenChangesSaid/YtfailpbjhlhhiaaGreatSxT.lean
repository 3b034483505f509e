/- A symbolic executor: a state, seen as an instance of a template, whole. -/
import Derived.Test.YtfailpbjhlhhiaaGreatSxY
namespace Go.Sx
noncomputable section
set_option linter.unusedVariables false
set_option linter.unusedSimpArgs false
open Go.RowKit
structure Tm where
 f:Fr
 fs:List Fr
 H:Hp
 vs:List Nat
def SI.dvk (k:Nat) (x:SI):Option SI:=
 SI.rec (motive:=fun _=>Option SI) (fun n=>match n with | .ofNat n=>bif Nat.beq (Nat.mod n k) 0 then some (.c (.ofNat (Nat.div n k))) else none | _=>none) (fun _=>none) (fun _=>none)
  (fun f a b ha hb=>bif Nat.beq f.code IB.mul.code then (match ha,hb with | some a',_=>some (SI.mul b a') | none,some b'=>some (SI.mul a b') | none,none=>none)
   else (bif Nat.beq f.code IB.add.code then (match ha,hb with | some a',some b'=>some (SI.add a' b') | _,_=>none) else none))
  (fun _ _ _=>none) (fun _ _ _ _ _ _ _ _ _ _ _ _ _=>none) x
def mDv (f:IB) (b:SI) (ha:SI→In→In) (y:SI) (I:In):In:=
 bif Nat.beq f.code IB.mul.code then (match b with | .c (.ofNat k)=>(match SI.dvk k y with | some z=>ha z I | none=>I) | _=>I) else I
def mI (vs:List Nat) (x:SI):SI→In→In:=
 SI.rec (motive:=fun _=>SI→In→In) (fun _ _ I=>I)
  (fun i y I=>bif lmem vs i then (match get I.s.i i with | none=>⟨⟨(i,y)::I.s.i,I.s.b⟩,I.bm,I.dm,I.km⟩ | some _=>I) else I)
  (fun i y I=>match get I.dm i with | none=>⟨I.s,I.bm,(i,y)::I.dm,I.km⟩ | some _=>I)
  (fun f _ b0 ha hb y I=>bif Nat.beq f.code IB.mul.code then mDv f b0 ha y I else (match y with | .op g a b=>bif Nat.beq f.code g.code then hb b (ha a I) else I | _=>I))
  (fun k _ ha y I=>match y with | .wk _ a=>ha a I | _=>I)
  (fun f _ _ _ _ _ _ h0 h1 h2 h3 h4 h5 y I=>match y with | .ap g a0 a1 a2 a3 a4 a5=>bif Nat.beq f g then h5 a5 (h4 a4 (h3 a3 (h2 a2 (h1 a1 (h0 a0 I))))) else I | _=>I) x
def mB (vs:List Nat) (x y:SB) (I:In):In:=
 match x with
 | .v i=>bif lmem vs i then (match get I.s.b i with | none=>⟨⟨I.s.i,(i,y)::I.s.b⟩,I.bm,I.dm,I.km⟩ | some _=>I) else I
 | _=>I
def mId (i j:Nat) (I:In):In:=match get I.bm i with | none=>⟨I.s,(i,j)::I.bm,I.dm,I.km⟩ | some _=>I
def mR (x y:SR) (I:In):In:=
 match x,y with
 | .n i,.n j=>mId i j I
 | .k i,.k j=>bif Nat.beq i j then I else (match get I.km i with | none=>⟨I.s,I.bm,I.dm,(i,.k j)::I.km⟩ | some _=>I)
 | .k i,r=>match get I.km i with | none=>⟨I.s,I.bm,I.dm,(i,r)::I.km⟩ | some _=>I
 | _,_=>I
mutual
def mV (vs:List Nat):SV→SV→In→In
 | .it _ e,.it _ e',I=>mI vs e e' I
 | .bo p,.bo q,I=>mB vs p q I
 | .pt r o,.pt r' o',I=>mI vs o o' (mR r r' I)
 | .sl r o l c,.sl r' o' l' c',I=>mI vs c c' (mI vs l l' (mI vs o o' (mR r r' I)))
 | .mp r,.mp r',I=>mR r r' I
 | .fn _ a c,.fn _ a' c',I=>mVL vs c c' (mVL vs a a' I)
 | .yl i,.yl j,I=>mId i j I
 | .fc _ x,.fc _ y,I=>mV vs x y I
 | .ag l,.ag l',I=>mVL vs l l' I
 | .tp l,.tp l',I=>mVL vs l l' I
 | .fs _ y,.fs _ y',I=>mI vs y y' I
 | .fp _ y j _,.fp _ y' j' _,I=>mI vs j j' (mI vs y y' I)
 | .sf y,.sf y',I=>mI vs y y' I
 | _,_,I=>I
def mVL (vs:List Nat):List SV→List SV→In→In
 | a::l,b::l',I=>mVL vs l l' (mV vs a b I)
 | _,_,I=>I
end
def mT (vs:List Nat) (T T':List (Nat×SV)) (I:In):In:=
 List.rec (motive:=fun _=>In→In) (fun I=>I) (fun p _ ih I=>match get T' p.1 with | some z=>ih (mV vs p.2 z I) | none=>ih I) T I
def mIds (l:List Nat):List Nat→In→In:=
 List.rec (motive:=fun _=>List Nat→In→In) (fun _ I=>I) (fun i _ ih l' I=>match l' with | j::r=>ih r (mId i j I) | []=>I) l
def mTd (l:List It):List It→In→In:=
 List.rec (motive:=fun _=>List It→In→In) (fun _ I=>I) (fun x _ ih l' I=>match l' with
  | y::r=>ih r (match x,y with | .inRangeFunc i,.inRangeFunc j=>mId i j I | .endRangeFunc i,.endRangeFunc j=>mId i j I | .dc _ a c,.dc _ a' c'=>mVL [] c c' (mVL [] a a' I) | _,_=>I)
  | []=>I) l
def mF (vs:List Nat) (f0 f:Fr) (I:In):In:=
 let I1:=mTd f0.todo f.todo (mIds f0.df f.df (mT vs f0.tm f.tm I))
 match f0.rd,f.rd with | some i,some j=>mId i j I1 | _,_=>I1
def mFs (vs:List Nat) (l:List Fr):List Fr→In→In:=
 List.rec (motive:=fun _=>List Fr→In→In) (fun _ I=>I) (fun x _ ih l' I=>match l' with | y::r=>ih r (mF vs x y I) | []=>I) l
def codeL (L:Nat) (l:List SV):SI→Nat→Nat→SI:=
 List.rec (motive:=fun _=>SI→Nat→Nat→SI) (fun c _ _=>c) (fun z _ ih c j f=>
  let e:=match z with | .it _ e=>e | .bo (.c true)=>.c 1 | .fs _ y=>y | _=>.c 0
  bif Nat.beq (Nat.succ f) L then ih (.ap 8 c (.c (.ofNat j)) (.c (.ofNat f)) e (.c 0) (.c 0)) (Nat.succ j) 0 else ih (.ap 8 c (.c (.ofNat j)) (.c (.ofNat f)) e (.c 0) (.c 0)) j (Nat.succ f)) l
def zeroL (l:List SV):Bool:=lall (fun z=>match z with | .it _ (.c n)=>ieq n 0 | _=>false) l
def codeZ (k:Nat) (l:List SV):SI:=bif zeroL l then .c 0 else codeL k l (.c 0) 0 0
def mBk (vs:List Nat) (x y:Bk) (I:In):In:=
 match x,y with
 | .arr _ c n _ cp,.arr _ c' n' _ cp'=>mI vs cp cp' (mI vs n n' (mI vs c c' I))
 | .arr lay c n _ cp,.row none l _ cp' sz=>mI vs cp cp' (mI vs n (.c (.ofNat (Nat.div (llen l) sz))) (mI vs c (codeZ (llen lay) l) I))
 | .arr lay c n _ cp,.cells l _=>mI vs cp (.c (.ofNat (Nat.div (llen l) (llen lay)))) (mI vs n (.c (.ofNat (Nat.div (llen l) (llen lay)))) (mI vs c (codeZ (llen lay) l) I))
 | .cells l _,.cells l' _=>mVL vs l l' I
 | .row _ l _ cp _,.row _ l' _ cp' _=>mI vs cp cp' (mVL vs l l' I)
 | .loop _ _ _ _ tm _ _ _ df,.loop _ _ _ _ tm' _ _ _ df'=>mId df df' (mT vs tm tm' I)
 | .mapc _ _ c,.mapc _ _ c'=>mI vs c c' I
 | .miter id c s (some k),.miter id' c' s' (some k')=>mId id id' (mI vs k k' (mI vs s s' (mI vs c c' I)))
 | .miter id c s _,.miter id' c' s' _=>mId id id' (mI vs s s' (mI vs c c' I))
 | _,_=>I
def mH1 (vs:List Nat) (H:Hp) (l:List (Nat×Bk)):In→In:=
 List.rec (motive:=fun _=>In→In) (fun I=>I) (fun p _ ih I=>match get I.bm p.1 with
  | some j=>match get H.heap j with | some z=>ih (mBk vs p.2 z I) | none=>ih I
  | none=>ih I) l
def mH (vs:List Nat) (H:Hp) (l:List (Nat×Bk)) (n:Nat):In→In:=
 Nat.rec (motive:=fun _=>In→In) (fun I=>I) (fun _ ih I=>ih (mH1 vs H l I)) n
def mTm (T:Tm) (f:Fr) (fs:List Fr) (H:Hp):In:=
 mH T.vs H T.H.heap (llen T.H.heap) (mFs T.vs T.fs fs (mF T.vs T.f f ⟨⟨[],[]⟩,[],[],[]⟩))
def SI.okd (ds:List Nat) (x:SI):Bool:=
 SI.rec (motive:=fun _=>Bool) (fun _=>true) (fun _=>true) (fun i=>lmem ds i) (fun _ _ _ a b=>bif a then b else false) (fun _ _ a=>a)
  (fun _ _ _ _ _ _ _ a b c d e g=>bif a then (bif b then (bif c then (bif d then (bif e then g else false) else false) else false) else false) else false) x
def SB.okd (ds:List Nat) (x:SB):Bool:=
 SB.rec (motive:=fun _=>Bool) (fun _=>true) (fun _=>true) (fun x y=>bif x.okd ds then y.okd ds else false) (fun x y=>bif x.okd ds then y.okd ds else false) (fun x y=>bif x.okd ds then y.okd ds else false)
  (fun _ _=>true) (fun f a b c d e g=>(SI.ap f a b c d e g).okd ds) (fun _ a=>a) (fun _ _ a b=>bif a then b else false) (fun _ _ a b=>bif a then b else false) x
def dsOf (F:List (SB×Bool)):List Nat:=
 List.rec (motive:=fun _=>List Nat) [] (fun p _ ih=>match p.1 with | .le _ (.d i)=>i::ih | _=>ih) F
section
variable {σ:Sta} {ρ:Dyn}
theorem dsOf_ok:∀ {F:List (SB×Bool)},(∀ f∈F,f.1.den σ ρ=some f.2)→∀ i∈dsOf F,∃ n,ρ.di i=some n
 | [],_,i,hi=>by cases hi
 | p::F,h,i,hi=>by
   have ih:=dsOf_ok (F:=F) fun f hf=>h f (List.mem_cons_of_mem _ hf)
   have h0:=h p (by simp)
   have hi':i∈(match p.1 with | .le _ (.d i)=>i::dsOf F | _=>dsOf F):=hi
   split at hi'
   ·rename_i x k hk
    rcases List.mem_cons.1 hi' with rfl | hi'
    ·rw [hk] at h0
     simp only [SB.den] at h0
     obtain ⟨a,_,h0⟩:=Option.bind_eq_some_iff.1 h0
     obtain ⟨b,hb,_⟩:=Option.bind_eq_some_iff.1 h0
     simp only [SI.den] at hb
     cases hd:ρ.di i with
     | none=>rw [hd] at hb;cases hb
     | some n=>exact ⟨n,rfl⟩
    ·exact ih i hi'
   ·exact ih i hi'
theorem SI.okd_den {ds:List Nat} (hd:∀ i∈ds,∃ n,ρ.di i=some n):∀ {x:SI},x.okd ds=true→∃ a,x.den σ ρ=some a:=by
 intro x
 induction x with
 | c n=>exact fun _=>⟨n,rfl⟩
 | v i=>exact fun _=>⟨_,rfl⟩
 | d i=>
   intro h
   obtain ⟨n,hn⟩:=hd i (lmem_iff.1 h)
   exact ⟨n,by simp [SI.den,hn]⟩
 | op f a b ha hb=>
   intro h
   have h':(bif a.okd ds then b.okd ds else false)=true:=h
   rw [cond_true_iff] at h'
   obtain ⟨x,hx⟩:=ha h'.1
   obtain ⟨y,hy⟩:=hb h'.2
   exact ⟨_,by simp [SI.den,hx,hy];rfl⟩
 | wk k a ha=>
   intro h
   obtain ⟨x,hx⟩:=ha h
   exact ⟨_,by simp [SI.den,hx];rfl⟩
 | ap f a0 a1 a2 a3 a4 a5 h0 h1 h2 h3 h4 h5=>
   intro h
   have h':(bif a0.okd ds then (bif a1.okd ds then (bif a2.okd ds then (bif a3.okd ds then (bif a4.okd ds then a5.okd ds else false) else false) else false) else false) else false)=true:=h
   simp only [cond_true_iff] at h'
   obtain ⟨q0,q1,q2,q3,q4,q5⟩:=h'
   obtain ⟨x0,e0⟩:=h0 q0
   obtain ⟨x1,e1⟩:=h1 q1
   obtain ⟨x2,e2⟩:=h2 q2
   obtain ⟨x3,e3⟩:=h3 q3
   obtain ⟨x4,e4⟩:=h4 q4
   obtain ⟨x5,e5⟩:=h5 q5
   exact ⟨_,by simp only [SI.den,e0,e1,e2,e3,e4,e5,Option.bind_some];rfl⟩
theorem SB.okd_den {ds:List Nat} (hd:∀ i∈ds,∃ n,ρ.di i=some n):∀ {x:SB},x.okd ds=true→∃ a,x.den σ ρ=some a:=by
 intro x
 induction x with
 | c n=>exact fun _=>⟨n,rfl⟩
 | v i=>exact fun _=>⟨_,rfl⟩
 | seq a b=>exact fun _=>⟨_,rfl⟩
 | lt a b=>
   intro h
   have h':(bif a.okd ds then b.okd ds else false)=true:=h
   rw [cond_true_iff] at h'
   obtain ⟨x,hx⟩:=SI.okd_den (σ:=σ) hd h'.1
   obtain ⟨y,hy⟩:=SI.okd_den (σ:=σ) hd h'.2
   exact ⟨_,by simp [SB.den,hx,hy];rfl⟩
 | le a b=>
   intro h
   have h':(bif a.okd ds then b.okd ds else false)=true:=h
   rw [cond_true_iff] at h'
   obtain ⟨x,hx⟩:=SI.okd_den (σ:=σ) hd h'.1
   obtain ⟨y,hy⟩:=SI.okd_den (σ:=σ) hd h'.2
   exact ⟨_,by simp [SB.den,hx,hy];rfl⟩
 | eq a b=>
   intro h
   have h':(bif a.okd ds then b.okd ds else false)=true:=h
   rw [cond_true_iff] at h'
   obtain ⟨x,hx⟩:=SI.okd_den (σ:=σ) hd h'.1
   obtain ⟨y,hy⟩:=SI.okd_den (σ:=σ) hd h'.2
   exact ⟨_,by simp [SB.den,hx,hy];rfl⟩
 | ap f a0 a1 a2 a3 a4 a5=>
   intro h
   have h':(bif a0.okd ds then (bif a1.okd ds then (bif a2.okd ds then (bif a3.okd ds then (bif a4.okd ds then a5.okd ds else false) else false) else false) else false) else false)=true:=h
   simp only [cond_true_iff] at h'
   obtain ⟨q0,q1,q2,q3,q4,q5⟩:=h'
   obtain ⟨x0,e0⟩:=SI.okd_den (σ:=σ) hd q0
   obtain ⟨x1,e1⟩:=SI.okd_den (σ:=σ) hd q1
   obtain ⟨x2,e2⟩:=SI.okd_den (σ:=σ) hd q2
   obtain ⟨x3,e3⟩:=SI.okd_den (σ:=σ) hd q3
   obtain ⟨x4,e4⟩:=SI.okd_den (σ:=σ) hd q4
   obtain ⟨x5,e5⟩:=SI.okd_den (σ:=σ) hd q5
   exact ⟨_,by simp only [SB.den,e0,e1,e2,e3,e4,e5,Option.bind_some];rfl⟩
 | not p hp=>
   intro h
   obtain ⟨x,hx⟩:=hp h
   exact ⟨!x,by simp [SB.den,hx]⟩
 | and p q hp hq=>
   intro h
   have h':(bif p.okd ds then q.okd ds else false)=true:=h
   rw [cond_true_iff] at h'
   obtain ⟨x,hx⟩:=hp h'.1
   obtain ⟨y,hy⟩:=hq h'.2
   exact ⟨x && y,by simp [SB.den,hx,hy]⟩
 | or p q hp hq=>
   intro h
   have h':(bif p.okd ds then q.okd ds else false)=true:=h
   rw [cond_true_iff] at h'
   obtain ⟨x,hx⟩:=hp h'.1
   obtain ⟨y,hy⟩:=hq h'.2
   exact ⟨x || y,by simp [SB.den,hx,hy]⟩
end
def cpOf (H:Hp) (e:SI):Bool:=
 List.rec (motive:=fun _=>Bool) false (fun p _ ih=>match get H.heap p.1 with | some (.arr _ _ _ _ cp)=>(bif cp.beq e then true else ih) | some (.row _ _ _ cp _)=>(bif cp.beq e then true else ih) | _=>ih) H.heap
theorem cpOf_ok {C:Ct} {hc:Nat→Option Obj} {w0:World} {ρ:Dyn} {H:Hp} {w:World} (h:HpRel C hc w0 ρ H w) {e:SI} (he:cpOf H e=true):∃ n:Nat,e.den C.σ ρ=some (Int.ofNat n):=by
 unfold cpOf at he
 have:∀ l:List (Nat×Bk),(List.rec (motive:=fun _=>Bool) false (fun p _ ih=>match get H.heap p.1 with | some (.arr _ _ _ _ cp)=>(bif cp.beq e then true else ih) | some (.row _ _ _ cp _)=>(bif cp.beq e then true else ih) | _=>ih) l)=true→∃ n:Nat,e.den C.σ ρ=some (Int.ofNat n):=by
  intro l
  induction l with
  | nil=>intro h;cases h
  | cons p l ih=>
    intro hl
    dsimp only at hl
    split at hl
    ·rename_i lay c n t cp hg
     cases hb:cp.beq e with
     | false=>rw [hb] at hl;exact ih hl
     | true=>
       have:=SI.beq_eq hb;subst this
       obtain ⟨b,o,_,_,cv,nv,cpv,A,_,_,h3,_⟩:=h.blk _ _ hg rfl
       exact ⟨cpv,h3⟩
    ·rename_i pre l' t cp sz hg
     cases hb:cp.beq e with
     | false=>rw [hb] at hl;exact ih hl
     | true=>
       have:=SI.beq_eq hb;subst this
       obtain ⟨b,o,_,_,us,sp,n,_,h3,_⟩:=h.blk _ _ hg rfl
       exact ⟨n,h3⟩
    ·exact ih hl
 exact this _ he
def frzP (e:SI):Bool:=match e with | .ap 8 _ _ a2 a3 a4 a5=>frzQ 0 a2 a3 a4 a5 | _=>false
theorem frzP_ok {cc:Cc} {C:Ct} (hcc:cc.Ok C) {ρ:Dyn} {e:SI} {a:Int} (he:frzP e=true) (ha:e.den C.σ ρ=some a):0≤a:=by
 unfold frzP at he
 split at he
 ·rename_i c n a2 a3 a4 a5
  unfold frzQ at he
  simp only [cond_true_iff] at he
  obtain ⟨q4,q5,q3,q2,_⟩:=he
  have:=SI.beq_eq q4;subst this
  have:=SI.beq_eq q5;subst this
  have:=SI.beq_eq q3;subst this
  have:=SI.beq_eq q2;subst this
  simp only [SI.den,Option.bind_eq_some_iff,Option.some.injEq] at ha
  obtain ⟨c0,e0,n0,e1,g0,rfl,x0,rfl,o0,rfl,z1,rfl,rfl⟩:=ha
  exact hcc.al.fp n0 c0
 ·cases he
def In.chk (cc:Cc) (H:Hp) (I:In):Bool:=
 let ds:=dsOf H.facts
 bif lall (fun p=>p.2.okd ds) I.s.i then (bif lall (fun p=>p.2.okd ds) I.s.b then (bif lall (fun p=>bif p.2.okd ds then (bif nonneg (bdOf cc H) p.2 then true else bif frzP p.2 then true else cpOf H p.2) else false) I.dm then
  lall (fun p=>match p.2 with | .n id=>(match get H.heap id with | some bk=>bk.live | none=>false) | _=>true) I.km else false) else false) else false
section
variable {cc:Cc} {C:Ct} {hc:Nat→Option Obj} {w0:World} {cs:List Frame} {ρ:Dyn} {f:Fr} {fs:List Fr} {H:Hp} {w:World} {I:In}
theorem In.chk_ok (hcc:cc.Ok C) (h:HpRel C hc w0 ρ H w) (hI:I.chk cc H=true):I.Def C.σ ρ:=by
 have hI':(bif lall (fun p=>p.2.okd (dsOf H.facts)) I.s.i then (bif lall (fun p=>p.2.okd (dsOf H.facts)) I.s.b then (bif lall (fun p=>bif p.2.okd (dsOf H.facts) then (bif nonneg (bdOf cc H) p.2 then true else bif frzP p.2 then true else cpOf H p.2) else false) I.dm then
  lall (fun p=>match p.2 with | .n id=>(match get H.heap id with | some bk=>bk.live | none=>false) | _=>true) I.km else false) else false) else false)=true:=hI
 simp only [cond_true_iff] at hI'
 obtain ⟨h1,h2,h3,h4⟩:=hI'
 have hd:=dsOf_ok h.facts
 refine ⟨fun j e he=>SI.okd_den hd (lall_iff.1 h1 _ (get_mem he)),fun j e he=>SB.okd_den hd (lall_iff.1 h2 _ (get_mem he)),fun j e he=>?_,fun j r he=>?_⟩
 ·have:=lall_iff.1 h3 _ (get_mem he)
  simp only [cond_true_iff] at this
  obtain ⟨a,ha⟩:=SI.okd_den hd this.1
  cases hn:nonneg (bdOf cc H) e with
  | true=>
    obtain ⟨n,rfl⟩:=nonneg_ok (bdOf_ok hcc h) hn ha
    exact ⟨n,ha⟩
  | false=>
    have h2:=this.2
    rw [hn] at h2
    cases hz:frzP e with
    | true=>
      have h0:=frzP_ok hcc hz ha
      obtain ⟨n,rfl⟩:∃ n:Nat,a=n:=⟨a.toNat,by omega⟩
      exact ⟨n,ha⟩
    | false=>
      rw [hz] at h2
      exact cpOf_ok h h2
 ·have:=lall_iff.1 h4 _ (get_mem he)
  cases r with
  | n id=>
    dsimp only at this
    split at this
    ·rename_i bk hg
     obtain ⟨b,o,e1,_⟩:=h.blk id bk hg this
     exact ⟨b,e1⟩
    ·cases this
  | k i=>exact ⟨_,rfl⟩
  | g i=>exact ⟨_,rfl⟩
def idsEq (l:List Nat):List Nat→Bool:=
 List.rec (motive:=fun _=>List Nat→Bool) (fun l'=>match l' with | []=>true | _=>false) (fun a _ ih l'=>match l' with | b::r=>bif Nat.beq a b then ih r else false | []=>false) l
theorem idsEq_eq:∀ {l l':List Nat},idsEq l l'=true→l=l'
 | [],[],_=>rfl
 | [],_::_,h=>by cases h
 | _::_,[],h=>by cases h
 | a::l,b::l',h=>by
   have h':(bif Nat.beq a b then idsEq l l' else false)=true:=h
   rw [cond_true_iff] at h'
   rw [Nat.eq_of_beq_eq_true h'.1,idsEq_eq h'.2]
def rdCmp (I:In) (a b:Option Nat):Bool:=match a,b with | none,none=>true | some i,some j=>(match get I.bm i with | some k=>Nat.beq k j | none=>false) | _,_=>false
theorem rdCmp_ok {I:In} {a b:Option Nat} {r:Option Nat} (h3:rdCmp I a b=true) (hrdr:RdRel ρ b r):RdRel (I.dyn C.σ ρ) a r∧a.isNone=b.isNone:=by
 unfold rdCmp at h3
 split at h3
 ·exact ⟨hrdr,rfl⟩
 ·rename_i i j
  obtain ⟨b,g1,g2⟩:=hrdr
  split at h3
  ·rename_i kk hk
   have:=Nat.eq_of_beq_eq_true h3;subst this
   exact ⟨⟨b,by show (get I.bm i).bind ρ.bl=some b;rw [hk];exact g1,g2⟩,rfl⟩
  ·cases h3
 ·cases h3
def frCmp (I:In) (f0 f:Fr):Option (List Ob):=
 bif Nat.beq f0.fn f.fn then (bif Nat.beq f0.nt f.nt then (bif rdCmp I f0.rd f.rd then (match tmIns I f0.tm,idsIns I f0.df with
  | some tm,some df=>bif idsEq df f.df then tmCmp tm f.tm else none
  | _,_=>none) else none) else none) else none
theorem frCmp_ok (hI:I.Def C.σ ρ) {f0:Fr} {fr:Frame} {L:List Ob} (h:frCmp I f0 f=some L) (hL:Obs C.σ ρ L) (htd:tdIns I f0.todo=some f.todo) :
  (FrIs C.σ ρ f fr→FrIs (I.sta C.σ ρ) (I.dyn C.σ ρ) f0 fr)∧(FrU C.σ ρ f fr→FrU (I.sta C.σ ρ) (I.dyn C.σ ρ) f0 fr)∧f0.fn=f.fn∧f0.rd.isNone=f.rd.isNone:=by
 unfold frCmp at h
 cases h1:Nat.beq f0.fn f.fn with
 | false=>rw [h1] at h;cases h
 | true=>
 cases h2:Nat.beq f0.nt f.nt with
 | false=>rw [h1,h2] at h;cases h
 | true=>
 cases h3:rdCmp I f0.rd f.rd with
 | false=>rw [h1,h2,h3] at h;cases h
 | true=>
 rw [h1,h2,h3] at h
 simp only [cond_true] at h
 split at h
 ·rename_i tm df htm hdf
  cases h4:idsEq df f.df with
  | false=>rw [h4] at h;cases h
  | true=>
    rw [h4] at h
    have h1:=Nat.eq_of_beq_eq_true h1
    have h2:=Nat.eq_of_beq_eq_true h2
    have h4:=idsEq_eq h4
    have hnn:f0.rd.isNone=f.rd.isNone:=by
     unfold rdCmp at h3
     split at h3
     ·rename_i e1 e2;rw [e1,e2]
     ·rename_i i j e1 e2;rw [e1,e2];rfl
     ·cases h3
    refine ⟨?_,?_,h1,hnn⟩
    ·rintro ⟨tmps,dfs,k,ro,heq,htmr,htdr,⟨d1,d2,q1,q2,q3⟩,hrdr⟩
     refine ⟨tmps,dfs,k,ro,by rw [h1,← tdIns_kd htd];exact heq,?_,tdIns_rel htd htdr,⟨d1,d2,q1,idsIns_rel hdf (by rw [h4];exact q2),tdIns_dc hI htd q3⟩,(rdCmp_ok h3 hrdr).1⟩
     rw [h2]
     exact (tmIns_rel hI htm).1 ⟨htmr.size,tmCmp_ok htmr h hL⟩
    ·rintro ⟨m,l,g1,g2,g3,g4⟩
     have hdf0:f0.df=[]:=by
      cases hd:f0.df with
      | nil=>rfl
      | cons x r=>
        rw [hd] at hdf
        have hdf':(match get I.bm x,idsIns I r with | some y,some r=>some (y::r) | _,_=>none)=some df:=hdf
        split at hdf'
        ·cases hdf';rw [g2] at h4;cases h4
        ·cases hdf'
     have hrd0:f0.rd=none:=by
      have:=g4.rd
      rw [this] at hnn
      cases hr:f0.rd with
      | none=>rfl
      | some x=>rw [hr] at hnn;cases hnn
     have htmr:TmRel (I.sta C.σ ρ) (I.dyn C.σ ρ) f0.nt f0.tm fr.tmps:=by
      rw [h2]
      exact (tmIns_rel hI htm).1 ⟨g4.tm.size,tmCmp_ok g4.tm h hL⟩
     rw [g1] at htd
     cases htd0:f0.todo with
     | nil=>rw [htd0] at htd;cases htd
     | cons x l0=>
       rw [htd0] at htd
       have htd':(match x.ins I,tdIns I l0 with | some y,some r=>some (y::r) | _,_=>none)=some (m::l):=htd
       split at htd'
       ·rename_i y r hy hr
        cases htd'
        refine ⟨x,l0,htd0,hdf0,?_,⟨by rw [g4.fn,h1],htmr,tdIns_dc hI hr g4.df,g4.kd,g4.ro,hrd0⟩⟩
        cases x
        case inRangeFunc l=>(have hy':(match get I.bm l with | some j=>some (It.inRangeFunc j) | none=>none)=some m:=hy);split at hy'<;>cases hy';exact g3.elim
        case endRangeFunc l=>(have hy':(match get I.bm l with | some j=>some (It.endRangeFunc j) | none=>none)=some m:=hy);split at hy'<;>cases hy';exact g3.elim
        case dc g a c=>
         have hy':(match SV.insL I a,SV.insL I c with | some a',some c'=>some (It.dc g a' c') | _,_=>none)=some m:=hy
         split at hy'<;>cases hy';exact g3.elim
        case mdP v r'=>
         have hy':(match SV.ins I v with | some v'=>some (It.mdP v' r') | none=>none)=some m:=hy
         split at hy'
         ·rename_i v' hv
          cases hy'
          obtain ⟨u,e1,e2⟩:=g3
          exact ⟨u,(SV.ins_is hI _ _ _ hv).1 e1,e2⟩
         ·cases hy'
        all_goals (cases hy;exact g3)
       ·cases htd'
 ·cases h
def fsCmp (I:In) (l:List Fr):List Fr→Option (List Ob):=
 List.rec (motive:=fun _=>List Fr→Option (List Ob)) (fun l'=>match l' with | []=>some [] | _=>none) (fun f0 _ ih l'=>match l' with | f::r=>oapp (frCmp I f0 f) (ih r) | []=>none) l
theorem fsCmp_ok (hI:I.Def C.σ ρ):∀ {l l':List Fr} {frs:List Frame} {L:List Ob},fsCmp I l l'=some L→Obs C.σ ρ L→l.map (fun f0=>tdIns I f0.todo)=l'.map (fun f=>some f.todo)→FsRel C.σ ρ l' frs→FsRel (I.sta C.σ ρ) (I.dyn C.σ ρ) l frs∧l.map (fun f=>(f.fn,f.rd.isNone))=l'.map (fun f=>(f.fn,f.rd.isNone))
 | [],l',frs,L,h,hL,htd,hr=>by
   cases l' with
   | nil=>exact ⟨hr,rfl⟩
   | cons=>cases h
 | f0::l,l',frs,L,h,hL,htd,hr=>by
   cases l' with
   | nil=>cases h
   | cons f l'=>
     have h':oapp (frCmp I f0 f) (fsCmp I l l')=some L:=h
     obtain ⟨x,y,k1,k2,k3,k4⟩:=oapp_ok h' hL
     obtain ⟨fr,t,rfl,g1,g2⟩:=hr
     simp only [List.map_cons,List.cons.injEq] at htd
     obtain ⟨q0,q1,q2,q3⟩:=frCmp_ok (fr:=fr) hI k1 k3 htd.1
     obtain ⟨r1,r2⟩:=fsCmp_ok hI k2 k4 htd.2 g2
     exact ⟨⟨fr,t,rfl,g1.elim (fun g=>.inl (q0 g)) (fun g=>.inr (q1 g)),r1⟩,by rw [List.map_cons,List.map_cons,r2,q2,q3]⟩
def nnOb (cc:Cc) (H:Hp) (bk:Bk):List Ob:=match bk with | .arr _ _ n _ _=>bif nonneg (bdOf cc H) n then [] else (match dec (bdOf cc H) H.facts (.le (.c 0) n) with | .yes true=>[] | _=>[.fa (.le (.c 0) n) true]) | _=>[]
def bkCmp (cc:Cc) (H:Hp) (I:In) (i:Nat) (bk:Bk):Option (List Ob):=
 bif bk.live then (match get I.bm i,bk.ins I with
  | some j,some bk'=>match get H.heap j with
    | some z=>bif z.live then oapp (Bk.cmp bk' z) (some (nnOb cc H bk')) else none
    | none=>none
  | _,_=>none) else none
def hpCmp (cc:Cc) (H:Hp) (I:In) (l:List (Nat×Bk)):Option (List Ob):=
 List.rec (motive:=fun _=>Option (List Ob)) (some []) (fun p _ ih=>oapp (bkCmp cc H I p.1 p.2) ih) l
def cdA (H:Hp) (I:In) (i:Nat):Option (Option Code×Array Tmp×Code×Code):=match get I.bm i with | some j=>(match get H.heap j with | some z=>z.code | none=>none) | none=>none
theorem Bk.ins_code {bk bk':Bk} (h:bk.ins I=some bk'):bk'.code=bk.code:=by
 unfold Bk.ins at h
 split at h
 case h_5=>split at h<;>cases h<;>rfl
 all_goals first
  | (cases h;rfl)
  | (split at h<;>cases h<;>rfl)
  | cases h
theorem hpCmp_ok (hcc:cc.Ok C) (h:HpRel C hc w0 ρ H w) (hI:I.Def C.σ ρ):∀ {l:List (Nat×Bk)} {L:List Ob},hpCmp cc H I l=some L→Obs C.σ ρ L→l.map (fun p=>p.2.code)=l.map (fun p=>cdA H I p.1)→∀ i bk,(i,bk)∈l→
  bk.live=true∧∃ j z b o,get I.bm i=some j∧get H.heap j=some z∧z.live=true∧ρ.bl j=some b∧w.heap[b]? = some o∧bk.Is (I.sta C.σ ρ) (I.dyn C.σ ρ) o
 | [],L,_,_,_,i,bk,hm=>by cases hm
 | p::l,L,hh,hL,hcd,i,bk,hm=>by
   have hh':oapp (bkCmp cc H I p.1 p.2) (hpCmp cc H I l)=some L:=hh
   obtain ⟨x,y,k1,k2,k3,k4⟩:=oapp_ok hh' hL
   simp only [List.map_cons,List.cons.injEq] at hcd
   rcases List.mem_cons.1 hm with e | hm
   ·subst e
    unfold bkCmp at k1
    cases hl:bk.live with
    | false=>simp only [hl,cond_false] at k1;cases k1
    | true=>
      simp only [hl,cond_true] at k1
      split at k1
      ·rename_i j bk' hj hins
       split at k1
       ·rename_i z hz
        cases hzl:z.live with
        | false=>rw [hzl] at k1;cases k1
        | true=>
          rw [hzl] at k1
          simp only [cond_true] at k1
          obtain ⟨x1,x2,m1,m2,m3,m4⟩:=oapp_ok k1 k3
          cases m2
          obtain ⟨b,o,g1,g2,g3⟩:=h.blk j z hz hzl
          obtain ⟨q1,q2⟩:=Bk.ins_is (o:=o) hI hins
          refine ⟨rfl,j,z,b,o,hj,hz,hzl,g1,g2,q1.1 (Bk.cmp_ok ?_ m1 m3 ?_ g3)⟩
          ·intro lay c n t cp e
           subst e
           have hsrc:∃ c0 n0:SI,c0.ins I=some c∧n0.ins I=some n:=by
            unfold Bk.ins at hins
            split at hins
            ·split at hins
             ·rename_i c0 n0 _ _ _ _ _ hc hn hcp
              cases hins
              exact ⟨_,_,hc,hn⟩
             ·cases hins
            all_goals first
             | (cases hins;done)
             | (split at hins<;>cases hins)
           obtain ⟨c0,n0,i1,i2⟩:=hsrc
           obtain ⟨a,a1,_⟩:=SI.ins_ok hI i1
           obtain ⟨v,v1,_⟩:=SI.ins_ok hI i2
           refine ⟨⟨a,a1⟩,?_⟩
           cases hnn:nonneg (bdOf cc H) n with
           | true=>
             obtain ⟨m,rfl⟩:=nonneg_ok (bdOf_ok hcc h) hnn v1
             exact ⟨m,v1⟩
           | false=>
             have hd:(SB.le (.c 0) n).den C.σ ρ=some (decide (0≤v)):=by simp [SB.den,SI.den,v1]
             have h0:0≤v:=by
              by_cases hdc:dec (bdOf cc H) H.facts (.le (.c 0) n)=.yes true
              ·have:=dec_ok (bdOf_ok hcc h) h.facts hd hdc
               simpa using this.symm
              ·have:=m4 (.fa (.le (.c 0) n) true) (by
                simp only [nnOb,hnn,cond_false]
                simp)
               simp only [Ob.Ok,SB.den,SI.den,v1,Option.bind_some,Option.some.injEq,decide_eq_true_eq] at this
               exact this
             exact ⟨v.toNat,by rw [v1];congr 1;simp;omega⟩
          ·rw [Bk.ins_code hins]
           have:=hcd.1
           simp only [cdA,hj,hz] at this
           exact this
       ·cases k1
      ·cases k1
   ·exact hpCmp_ok hcc h hI k2 k4 hcd.2 i bk hm
def nodup (l:List Nat):Bool:=List.rec (motive:=fun _=>Bool) true (fun a r ih=>bif lmem r a then false else ih) l
def bmL (I:In) (l:List (Nat×Bk)):List Nat:=List.rec (motive:=fun _=>List Nat) [] (fun p _ ih=>match get I.bm p.1 with | some j=>j::ih | none=>ih) l
theorem bm_mem_aux:∀ {l:List (Nat×Bk)} {i:Nat} {bk:Bk} {j:Nat},(i,bk)∈l→get I.bm i=some j→j∈bmL I l
 | [],_,_,_,h,_=>by cases h
 | q::l,i,bk,j,h,e=>by
   show j∈(match get I.bm q.1 with | some j=>j::bmL I l | none=>bmL I l)
   rcases List.mem_cons.1 h with e' | h
   ·subst e';rw [e];simp
   ·have:=bm_mem_aux h e
    cases get I.bm q.1 with
    | none=>exact this
    | some b=>exact List.mem_cons_of_mem _ this
theorem bm_inj:∀ {l:List (Nat×Bk)},nodup (bmL I l)=true→∀ i i' bk bk' j,(i,bk)∈l→(i',bk')∈l→get I.bm i=some j→get I.bm i'=some j→i=i'
 | [],_,i,_,_,_,_,h,_,_,_=>by cases h
 | p::l,hn,i,i',bk,bk',j,h1,h2,e1,e2=>by
   cases g:get I.bm p.1 with
   | none=>
     have hn':nodup (bmL I l)=true:=by
      have hn':nodup (match get I.bm p.1 with | some j=>j::bmL I l | none=>bmL I l)=true:=hn
      rw [g] at hn';exact hn'
     rcases List.mem_cons.1 h1 with e | h1
     ·subst e;rw [g] at e1;cases e1
     ·rcases List.mem_cons.1 h2 with e | h2
      ·subst e;rw [g] at e2;cases e2
      ·exact bm_inj hn' i i' bk bk' j h1 h2 e1 e2
   | some a=>
     have hn':(bif lmem (bmL I l) a then false else nodup (bmL I l))=true:=by
      have hn':nodup (match get I.bm p.1 with | some j=>j::bmL I l | none=>bmL I l)=true:=hn
      rw [g] at hn';exact hn'
     cases ha:lmem (bmL I l) a with
     | true=>rw [ha] at hn';cases hn'
     | false=>
       rw [ha] at hn'
       have hna:a ∉ bmL I l:=fun hm=>by rw [lmem_iff.2 hm] at ha;cases ha
       rcases List.mem_cons.1 h1 with e | h1'
       ·have ea:get I.bm i=some a:=by rw [← g,← e]
        rw [e1] at ea;cases ea
        rcases List.mem_cons.1 h2 with e' | h2'
        ·rw [← e'] at e;cases e;rfl
        ·exact absurd (bm_mem_aux h2' e2) hna
       ·rcases List.mem_cons.1 h2 with e | h2'
        ·have ea:get I.bm i'=some a:=by rw [← g,← e]
         rw [e2] at ea;cases ea
         exact absurd (bm_mem_aux h1' e1) hna
        ·exact bm_inj hn' i i' bk bk' j h1' h2' e1 e2
end
end
end Go.Sx
namespace Go.Sx
noncomputable section
set_option linter.unusedVariables false
set_option linter.unusedSimpArgs false
open Go.RowKit
structure Sh where
 td:List (Option (List It))
 cd:List (Option (Option Code×Array Tmp×Code×Code))
def shT (T:Tm) (I:In):Sh:=⟨tdIns I T.f.todo::lmap (fun f=>tdIns I f.todo) T.fs,lmap (fun p=>p.2.code) T.H.heap⟩
def shA (T:Tm) (I:In) (f:Fr) (fs:List Fr) (H:Hp):Sh:=⟨some f.todo::lmap (fun f=>some f.todo) fs,lmap (fun p=>cdA H I p.1) T.H.heap⟩
def inRg (r:Rg) (a b:Int):Bool:=bif ile a b then (match r with | (some x,some y)=>bif ile a x then ile y b else false | _=>false) else (match r with | (some x,_)=>ile a x | _=>false)
theorem inRg_ok {r:Rg} {a b x:Int} (h:inRg r a b=true) (hx:r.In x):InR a b x:=by
 unfold inRg at h
 cases hab:ile a b with
 | true=>
   rw [hab,cond_true] at h
   have h5:=ile_iff.1 hab
   split at h
   ·rename_i p q
    rw [cond_true_iff] at h
    have h1:=ile_iff.1 h.1
    have h2:=ile_iff.1 h.2
    have h3:=hx.1 p rfl
    have h4:=hx.2 q rfl
    exact ⟨by omega,by rw [if_pos h5];omega⟩
   ·cases h
 | false=>
   rw [hab,cond_false] at h
   have h5:¬ a≤b:=fun h=>by rw [ile_iff.2 h] at hab;cases hab
   split at h
   ·rename_i p q
    have h1:=ile_iff.1 h
    have h3:=hx.1 p rfl
    exact ⟨by omega,by rw [if_neg h5];omega⟩
   ·cases h
def isYes (r:DR) (b:Bool):Bool:=match r with | .yes b'=>(bif b' then b else !b) | _=>false
theorem isYes_ok {r:DR} {b:Bool} (h:isYes r b=true):r=.yes b:=by
 unfold isYes at h
 split at h
 ·rename_i b'
  cases b'<;>cases b<;>first | rfl | cases h
 ·cases h
def fcOb (cc:Cc) (H:Hp) (I:In) (F:List (SB×Bool)):Option (List Ob):=
 List.rec (motive:=fun _=>Option (List Ob)) (some []) (fun p _ ih=>match p.1.ins I with | some q=>oapp (some (bif isYes (dec (bdOf cc H) H.facts q) p.2 then [] else [.fa q p.2])) ih | none=>none) F
def bdOb (cc:Cc) (H:Hp) (I:In) (l:List (Nat×Int×Int)):List Ob:=
 List.rec (motive:=fun _=>List Ob) [] (fun p _ ih=>
  let e:=match get I.s.i p.1 with | some e=>e | none=>.v p.1
  bif inRg (rg (bdOf cc H) e) p.2.1 p.2.2 then ih else .rn e p.2.1 p.2.2::ih) l
section
variable {cc:Cc} {C:Ct} {hc:Nat→Option Obj} {w0:World} {cs:List Frame} {ρ:Dyn} {f:Fr} {fs:List Fr} {H:Hp} {w:World} {I:In}
theorem fcOb_ok (hcc:cc.Ok C) (h:HpRel C hc w0 ρ H w) (hI:I.Def C.σ ρ):∀ {F:List (SB×Bool)} {L:List Ob},fcOb cc H I F=some L→Obs C.σ ρ L→∀ p∈F,p.1.den (I.sta C.σ ρ) (I.dyn C.σ ρ)=some p.2
 | [],L,_,_,p,hp=>by cases hp
 | q::F,L,hh,hL,p,hp=>by
   have hh':(match q.1.ins I with | some r=>oapp (some (bif isYes (dec (bdOf cc H) H.facts r) q.2 then [] else [.fa r q.2])) (fcOb cc H I F) | none=>none)=some L:=hh
   split at hh'
   ·rename_i r hr
    obtain ⟨x,y,k1,k2,k3,k4⟩:=oapp_ok hh' hL
    cases k1
    rcases List.mem_cons.1 hp with rfl | hp
    ·obtain ⟨v,v1,v2⟩:=SB.ins_ok hI hr
     rw [v2]
     cases hy:isYes (dec (bdOf cc H) H.facts r) p.2 with
     | true=>
       have:=dec_ok (bdOf_ok hcc h) h.facts v1 (isYes_ok hy)
       rw [this]
     | false=>
       rw [hy] at k3
       have:=k3 (.fa r p.2) (by simp)
       simp only [Ob.Ok] at this
       rw [← this,v1]
    ·exact fcOb_ok hcc h hI k2 k4 p hp
   ·cases hh'
theorem bdOb_ok (hcc:cc.Ok C) (h:HpRel C hc w0 ρ H w) (hI:I.Def C.σ ρ):∀ {l:List (Nat×Int×Int)},Obs C.σ ρ (bdOb cc H I l)→∀ i a b,(i,a,b)∈l→InR a b (I.iv C.σ ρ i)
 | [],_,i,a,b,hm=>by cases hm
 | q::l,hL,i,a,b,hm=>by
   have hL':Obs C.σ ρ (bif inRg (rg (bdOf cc H) (match get I.s.i q.1 with | some e=>e | none=>.v q.1)) q.2.1 q.2.2 then bdOb cc H I l else .rn (match get I.s.i q.1 with | some e=>e | none=>.v q.1) q.2.1 q.2.2::bdOb cc H I l):=hL
   have hrest:Obs C.σ ρ (bdOb cc H I l):=by
    cases hb:inRg (rg (bdOf cc H) (match get I.s.i q.1 with | some e=>e | none=>.v q.1)) q.2.1 q.2.2 with
    | true=>rw [hb] at hL';exact hL'
    | false=>rw [hb] at hL';exact fun o ho=>hL' o (List.mem_cons_of_mem _ ho)
   rcases List.mem_cons.1 hm with e | hm
   ·subst e
    have hden:(match get I.s.i i with | some e=>e | none=>SI.v i).den C.σ ρ=some (I.iv C.σ ρ i):=by
     unfold In.iv
     cases hg:get I.s.i i with
     | some e=>
       obtain ⟨x,hx⟩:=hI.i i e hg
       simp [hx]
     | none=>rfl
    cases hb:inRg (rg (bdOf cc H) (match get I.s.i i with | some e=>e | none=>.v i)) a b with
    | true=>exact inRg_ok hb (rg_ok (bdOf_ok hcc h) _ _ hden)
    | false=>
      dsimp only at hL'
      rw [hb] at hL'
      have:=hL' _ (List.mem_cons_self ..)
      simp only [Ob.Ok] at this
      obtain ⟨v,h1,h2,h3⟩:=this
      rw [hden] at h1
      cases h1
      exact ⟨h2,h3⟩
   ·exact bdOb_ok hcc h hI hrest i a b hm
def inRgF (B:Bd) (F:List (SB×Bool)) (e:SI) (a b:Int):Bool:=
 bif inRg (rg B e) a b then true else (bif isYes (dec B F (.le (.c a) e)) true then (bif ile a b then isYes (dec B F (.le e (.c b))) true else true) else false)
theorem inRgF_ok {B:Bd} {σ:Sta} (hB:B.Ok σ) {ρ:Dyn} {F:List (SB×Bool)} (hF:∀ f∈F,f.1.den σ ρ=some f.2) {e:SI} {x:Int} (hx:e.den σ ρ=some x) {a b:Int} (h:inRgF B F e a b=true):InR a b x:=by
 unfold inRgF at h
 cases h1:inRg (rg B e) a b with
 | true=>exact inRg_ok h1 (rg_ok hB _ _ hx)
 | false=>
   rw [h1,cond_false] at h
   cases h2:isYes (dec B F (.le (.c a) e)) true with
   | false=>rw [h2] at h;cases h
   | true=>
     rw [h2,cond_true] at h
     have ha:(SB.le (.c a) e).den σ ρ=some (decide (a≤x)):=by simp only [SB.den,SI.den,hx,Option.bind_some]
     have ha':=dec_ok hB hF ha (isYes_ok h2)
     have ha2:a≤x:=of_decide_eq_true ha'.symm
     cases h3:ile a b with
     | false=>
       have h5:¬ a≤b:=fun h=>by rw [ile_iff.2 h] at h3;cases h3
       exact ⟨ha2,by rw [if_neg h5];omega⟩
     | true=>
       rw [h3,cond_true] at h
       have hb:(SB.le e (.c b)).den σ ρ=some (decide (x≤b)):=by simp only [SB.den,SI.den,hx,Option.bind_some]
       have hb':=dec_ok hB hF hb (isYes_ok h)
       exact ⟨ha2,by rw [if_pos (ile_iff.1 h3)];exact of_decide_eq_true hb'.symm⟩
def bdFk (cc:Cc) (H:Hp) (I:In) (l:List (Nat×Int×Int)):Bool:=
 List.rec (motive:=fun _=>Bool) true (fun p _ ih=>
  bif inRgF (bdOf cc H) H.facts (match get I.s.i p.1 with | some e=>e | none=>.v p.1) p.2.1 p.2.2 then ih else false) l
theorem bdFk_ok (hcc:cc.Ok C) (h:HpRel C hc w0 ρ H w) (hI:I.Def C.σ ρ):∀ {l:List (Nat×Int×Int)},bdFk cc H I l=true→∀ i a b,(i,a,b)∈l→InR a b (I.iv C.σ ρ i)
 | [],_,i,a,b,hm=>by cases hm
 | q::l,hL,i,a,b,hm=>by
   have hL':(bif inRgF (bdOf cc H) H.facts (match get I.s.i q.1 with | some e=>e | none=>.v q.1) q.2.1 q.2.2 then bdFk cc H I l else false)=true:=hL
   cases hb:inRgF (bdOf cc H) H.facts (match get I.s.i q.1 with | some e=>e | none=>.v q.1) q.2.1 q.2.2 with
   | false=>rw [hb] at hL';cases hL'
   | true=>
     rw [hb,cond_true] at hL'
     rcases List.mem_cons.1 hm with e | hm
     ·subst e
      have hden:(match get I.s.i i with | some e=>e | none=>SI.v i).den C.σ ρ=some (I.iv C.σ ρ i):=by
       unfold In.iv
       cases hg:get I.s.i i with
       | some e=>
         obtain ⟨x,hx⟩:=hI.i i e hg
         simp [hx]
       | none=>rfl
      exact inRgF_ok (bdOf_ok hcc h) h.facts hden hb
     ·exact bdFk_ok hcc h hI hL' i a b hm
def isEm {α:Type} (l:List α):Bool:=match l with | []=>true | _=>false
def ltAll (n:Nat) (l:List Nat):Bool:=lall (fun i=>Nat.blt i n) l
def keys {α:Type} (l:List (Nat×α)):List Nat:=lmap (fun p=>p.1) l
def instK (cc:Cc) (T:Tm) (H:Hp) (I:In):Bool:=
 bif I.chk cc H then (bif ltAll T.H.nb (keys T.H.heap) then (bif ltAll T.H.nb (keys I.bm) then (bif ltAll T.H.nd (keys I.dm) then (bif nodup (bmL I T.H.heap) then (bif lall (fun j=>lmem H.phis j) T.H.phis then (bif isEm I.km then (bif lall (fun p=>lmem T.vs p.1) I.s.i then lall (fun p=>lmem T.vs p.1) I.s.b else false) else false) else false) else false) else false) else false) else false) else false
def instOf (cc:Cc) (T:Tm) (f:Fr) (fs:List Fr) (H:Hp) (I:In):Option (List Ob):=
 bif instK cc T H I then oapp (frCmp I T.f f) (oapp (fsCmp I T.fs fs) (oapp (hpCmp cc H I T.H.heap) (oapp (fcOb cc H I T.H.facts) (some (bdOb cc H I T.H.bd))))) else none
theorem get_key {α:Type} {l:List (Nat×α)} {i:Nat} {a:α} (h:get l i=some a):i∈keys l:=by
 have:=get_mem h
 unfold keys
 rw [lmap_eq]
 exact List.mem_map.2 ⟨_,this,rfl⟩
theorem ltAll_ok {n:Nat} {l:List Nat} (h:ltAll n l=true):∀ i∈l,i < n:=fun i hi=>by
 have:=lall_iff.1 h i hi
 simpa [Nat.blt_eq] using this
theorem instK_def (hcc:cc.Ok C) {T:Tm} (h:HpRel C hc w0 ρ H w) (hk:instK cc T H I=true):I.Def C.σ ρ:=by
 unfold instK at hk
 simp only [cond_true_iff] at hk
 exact In.chk_ok hcc h hk.1
theorem inst_ok (hcc:cc.Ok C) {C':Ct} (hσ:C'.σ=I.sta C.σ ρ) (hF0:C'.F0=C.F0) (hX:C'.X=C.X) (hphi:∀ j ρ' U U',(∀ b o,U b o→U' b o)→C.phi j ρ U→C'.phi j ρ' U') {T:Tm} {L:List Ob} (h:instOf cc T f fs H I=some L) (hsh:shA T I f fs H=shT T I) {m:Machine} (hm:Sat C hc w0 cs ρ f fs H m) (hL:Obs C.σ ρ L) :
  Sat C' hc w0 cs (I.dyn C.σ ρ) T.f T.fs T.H m∧botOf T.f T.fs=botOf f fs:=by
 obtain ⟨fr,frs,w,rfl,hf,hfs,hh⟩:=hm
 unfold instOf at h
 cases hk:instK cc T H I with
 | false=>rw [hk] at h;cases h
 | true=>
   rw [hk] at h
   simp only [cond_true] at h
   have hI:=instK_def hcc hh hk
   unfold instK at hk
   simp only [cond_true_iff] at hk
   obtain ⟨_,k1,k2,k3,k4,k5,_⟩:=hk
   obtain ⟨L1,L',e1,h,o1,hL⟩:=oapp_ok h hL
   obtain ⟨L2,L',e2,h,o2,hL⟩:=oapp_ok h hL
   obtain ⟨L3,L',e3,h,o3,hL⟩:=oapp_ok h hL
   obtain ⟨L4,L5,e4,h,o4,o5⟩:=oapp_ok h hL
   cases h
   simp only [shA,shT,Sh.mk.injEq,List.cons.injEq,lmap_eq] at hsh
   obtain ⟨⟨s1,s2⟩,s3⟩:=hsh
   obtain ⟨g0,_,g2,g3⟩:=frCmp_ok (fr:=fr) hI e1 o1 s1.symm
   have g1:=g0 hf
   obtain ⟨g4,g5⟩:=fsCmp_ok hI e2 o2 s2.symm hfs
   have hhp:=hpCmp_ok hcc hh hI e3 o3 s3.symm
   refine ⟨⟨fr,frs,w,rfl,by rw [hσ];exact g1,by rw [hσ];exact g4,?_⟩,?_⟩
   ·have blk:∀ i bk,get T.H.heap i=some bk→bk.live=true∧∃ j z b o,get I.bm i=some j∧get H.heap j=some z∧z.live=true∧ρ.bl j=some b∧w.heap[b]? = some o∧bk.Is (I.sta C.σ ρ) (I.dyn C.σ ρ) o:=fun i bk hg=>hhp i bk (get_mem hg)
    have bl_of:∀ i b,(I.dyn C.σ ρ).bl i=some b→∃ j,get I.bm i=some j∧ρ.bl j=some b:=by
     intro i b e
     have e':(get I.bm i).bind ρ.bl=some b:=e
     exact Option.bind_eq_some_iff.1 e'
    have own:∀ b,Own (I.dyn C.σ ρ) T.H.heap b→Own ρ H.heap b:=by
     rintro b ⟨i,bk,q1,q2,q3⟩
     obtain ⟨_,j,z,b',o,r1,r2,r3,r4,r5,r6⟩:=blk i bk q1
     obtain ⟨j',t1,t2⟩:=bl_of i b q3
     rw [r1] at t1;cases t1
     exact ⟨j,z,r2,r3,t2⟩
    refine ⟨fun i bk q1 q2=>?_,fun i i' bk bk' b q1 q2 q3 q4 q5 q6=>?_,fun i hi=>?_,fun i hi=>?_,fun i hi=>rfl,fun i b e=>?_,fun i bk q1=>?_,hh.hid,fun b hb=>by rw [hX];exact hh.nh b (own b hb),fun p hp=>?_,fun i a b hm=>?_,fun j hj=>?_,fun b o e=>(hh.fz b o e).imp (fun ⟨u1,u2,u3⟩=>⟨u1,u2,fun hw=>u3 (own b hw)⟩) (fun h=>by rw [hF0,hX];exact h),hh.os,hh.tape,hh.output,hh.size⟩
    ·obtain ⟨_,j,z,b,o,r1,r2,r3,r4,r5,r6⟩:=blk i bk q1
     exact ⟨b,o,by show (get I.bm i).bind ρ.bl=some b;rw [r1];exact r4,r5,by rw [hσ];exact r6⟩
    ·obtain ⟨_,j,z,b1,o,r1,r2,r3,r4,r5,r6⟩:=blk i bk q1
     obtain ⟨_,j',z',b1',o',r1',r2',r3',r4',r5',r6'⟩:=blk i' bk' q3
     obtain ⟨k,t1,t2⟩:=bl_of i b q5
     rw [r1] at t1;cases t1
     obtain ⟨k',t1',t2'⟩:=bl_of i' b q6
     rw [r1'] at t1';cases t1'
     have:=hh.inj j j' z z' b r2 r3 r2' r3' t2 t2'
     subst this
     exact bm_inj k4 i i' bk bk' j (get_mem q1) (get_mem q3) r1 r1'
    ·show (get I.bm i).bind ρ.bl=none
     cases hg:get I.bm i with
     | none=>rfl
     | some j=>have:=ltAll_ok k2 i (get_key hg);omega
    ·show (get I.dm i).bind _=none
     cases hg:get I.dm i with
     | none=>rfl
     | some j=>have:=ltAll_ok k3 i (get_key hg);omega
    ·obtain ⟨j,_,t2⟩:=bl_of i b e
     exact hh.lt j b t2
    ·exact ltAll_ok k1 i (get_key q1)
    ·rw [hσ];exact fcOb_ok hcc hh hI e4 o4 p hp
    ·rw [hσ];exact bdOb_ok hcc hh hI o5 i a b hm
    ·have:=lmem_iff.1 (lall_iff.1 k5 j hj)
     exact hphi j _ _ _ (fun b o ⟨u1,u2,u3⟩=>⟨u1,u2,fun hw=>u3 (own b hw)⟩) (hh.phis j this)
   ·have hlast:∀ {l l':List Fr},l.map (fun f=>(f.fn,f.rd.isNone))=l'.map (fun f=>(f.fn,f.rd.isNone))→l.getLast?.map (fun f=>(f.fn,f.rd.isNone))=l'.getLast?.map (fun f=>(f.fn,f.rd.isNone)):=by
     intro l l' e
     rw [← List.getLast?_map,← List.getLast?_map,e]
    have:=hlast g5
    unfold botOf
    cases h1:T.fs.getLast? with
    | none=>
      cases h2:fs.getLast? with
      | none=>simp only [g2,g3]
      | some x=>rw [h1,h2] at this;cases this
    | some x=>
      cases h2:fs.getLast? with
      | none=>rw [h1,h2] at this;cases this
      | some y=>
        rw [h1,h2] at this
        simpa using this
end
section
variable {cc:Cc} {C:Ct} {hc:Nat→Option Obj} {w0:World} {ρ:Dyn} {H:Hp} {w:World}
mutual
def frzT (cc:Cc):SV→SV→Hp→SV×Hp
 | .fs i _,x,H=>match frz1 cc H i x with | some p=>p | none=>(x,H)
 | .tp l,.tp l',H=>(.tp (frzTL cc l l' H).1,(frzTL cc l l' H).2)
 | .ag l,.ag l',H=>(.ag (frzTL cc l l' H).1,(frzTL cc l l' H).2)
 | _,x,H=>(x,H)
def frzTL (cc:Cc):List SV→List SV→Hp→List SV×Hp
 | a::l,b::l',H=>((frzT cc a b H).1::(frzTL cc l l' (frzT cc a b H).2).1,(frzTL cc l l' (frzT cc a b H).2).2)
 | _,l',H=>(l',H)
end
mutual
theorem frzT_ok (hcc:cc.Ok C):∀ (y z:SV) {H:Hp} {ρ:Dyn} {u:Value},HpRel C hc w0 ρ H w→z.Is C.σ ρ u→∃ ρ',FrzOk C hc w0 w ρ H ρ' (frzT cc y z H).2∧(frzT cc y z H).1.Is C.σ ρ' u
 | .fs i e,z,H,ρ,u,h,hz=>by
   cases hf:frz1 cc H i z with
   | none=>simp only [frzT,hf];exact ⟨ρ,.refl h,hz⟩
   | some p=>simp only [frzT,hf];exact frz1_ok hcc h hz hf
 | .tp l,z,H,ρ,u,h,hz=>by
   cases z<;>simp only [frzT]<;>try exact ⟨ρ,.refl h,hz⟩
   rename_i l'
   simp only [SV.Is] at hz ⊢
   obtain ⟨vs,h1,rfl⟩:=hz
   obtain ⟨ρ',k1,k2⟩:=frzTL_ok hcc l l' h h1
   exact ⟨ρ',k1,vs,k2,rfl⟩
 | .ag l,z,H,ρ,u,h,hz=>by
   cases z<;>simp only [frzT]<;>try exact ⟨ρ,.refl h,hz⟩
   rename_i l'
   simp only [SV.Is] at hz ⊢
   obtain ⟨vs,h1,rfl⟩:=hz
   obtain ⟨ρ',k1,k2⟩:=frzTL_ok hcc l l' h h1
   exact ⟨ρ',k1,vs,k2,rfl⟩
 | .any,z,H,ρ,u,h,hz=>by simp only [frzT];exact ⟨ρ,.refl h,hz⟩
 | .bo p,z,H,ρ,u,h,hz=>by simp only [frzT];exact ⟨ρ,.refl h,hz⟩
 | .it k e,z,H,ρ,u,h,hz=>by simp only [frzT];exact ⟨ρ,.refl h,hz⟩
 | .st e,z,H,ρ,u,h,hz=>by simp only [frzT];exact ⟨ρ,.refl h,hz⟩
 | .pt r o,z,H,ρ,u,h,hz=>by simp only [frzT];exact ⟨ρ,.refl h,hz⟩
 | .pn,z,H,ρ,u,h,hz=>by simp only [frzT];exact ⟨ρ,.refl h,hz⟩
 | .sl r o l c,z,H,ρ,u,h,hz=>by simp only [frzT];exact ⟨ρ,.refl h,hz⟩
 | .sn,z,H,ρ,u,h,hz=>by simp only [frzT];exact ⟨ρ,.refl h,hz⟩
 | .mp r,z,H,ρ,u,h,hz=>by simp only [frzT];exact ⟨ρ,.refl h,hz⟩
 | .mn,z,H,ρ,u,h,hz=>by simp only [frzT];exact ⟨ρ,.refl h,hz⟩
 | .fn f a c,z,H,ρ,u,h,hz=>by simp only [frzT];exact ⟨ρ,.refl h,hz⟩
 | .yl i,z,H,ρ,u,h,hz=>by simp only [frzT];exact ⟨ρ,.refl h,hz⟩
 | .fz,z,H,ρ,u,h,hz=>by simp only [frzT];exact ⟨ρ,.refl h,hz⟩
 | .fc t x,z,H,ρ,u,h,hz=>by simp only [frzT];exact ⟨ρ,.refl h,hz⟩
 | .fcn,z,H,ρ,u,h,hz=>by simp only [frzT];exact ⟨ρ,.refl h,hz⟩
 | .va i,z,H,ρ,u,h,hz=>by simp only [frzT];exact ⟨ρ,.refl h,hz⟩
 | .dv i,z,H,ρ,u,h,hz=>by simp only [frzT];exact ⟨ρ,.refl h,hz⟩
 | .fe,z,H,ρ,u,h,hz=>by simp only [frzT];exact ⟨ρ,.refl h,hz⟩
 | .fp i y j f,z,H,ρ,u,h,hz=>by simp only [frzT];exact ⟨ρ,.refl h,hz⟩
 | .sf y,z,H,ρ,u,h,hz=>by simp only [frzT];exact ⟨ρ,.refl h,hz⟩
theorem frzTL_ok (hcc:cc.Ok C):∀ (y z:List SV) {H:Hp} {ρ:Dyn} {us:List Value},HpRel C hc w0 ρ H w→SV.IsL C.σ ρ z us→∃ ρ',FrzOk C hc w0 w ρ H ρ' (frzTL cc y z H).2∧SV.IsL C.σ ρ' (frzTL cc y z H).1 us
 | [],z,H,ρ,us,h,hz=>by simp only [frzTL];exact ⟨ρ,.refl h,hz⟩
 | a::l,[],H,ρ,us,h,hz=>by simp only [frzTL];exact ⟨ρ,.refl h,hz⟩
 | a::l,b::l',H,ρ,us,h,hz=>by
   simp only [frzTL]
   rw [SV.isL_cons] at hz
   obtain ⟨u,r,rfl,h1,h2⟩:=hz
   obtain ⟨ρ1,k1,k2⟩:=frzT_ok hcc a b h h1
   obtain ⟨ρ2,k3,k4⟩:=frzTL_ok hcc l l' k1.hp (SV.isL_mono k1.le _ _ h2)
   exact ⟨ρ2,k1.trans k3,SV.isL_cons.2 ⟨u,r,rfl,SV.is_mono k3.le _ _ k2,k4⟩⟩
end
end
mutual
theorem frzT_phis (cc:Cc):∀ (y z:SV) (H:Hp),(frzT cc y z H).2.phis=H.phis
 | .fs i e,z,H=>by
   cases hf:frz1 cc H i z with
   | none=>simp only [frzT,hf]
   | some p=>simp only [frzT,hf];exact frz1_phis hf
 | .tp l,z,H=>by cases z<;>simp only [frzT]<;>exact frzTL_phis cc l _ H
 | .ag l,z,H=>by cases z<;>simp only [frzT]<;>exact frzTL_phis cc l _ H
 | .any,z,H=>by simp only [frzT]
 | .bo p,z,H=>by simp only [frzT]
 | .it k e,z,H=>by simp only [frzT]
 | .st e,z,H=>by simp only [frzT]
 | .pt r o,z,H=>by simp only [frzT]
 | .pn,z,H=>by simp only [frzT]
 | .sl r o l c,z,H=>by simp only [frzT]
 | .sn,z,H=>by simp only [frzT]
 | .mp r,z,H=>by simp only [frzT]
 | .mn,z,H=>by simp only [frzT]
 | .fn f a c,z,H=>by simp only [frzT]
 | .yl i,z,H=>by simp only [frzT]
 | .fz,z,H=>by simp only [frzT]
 | .fc t x,z,H=>by simp only [frzT]
 | .fcn,z,H=>by simp only [frzT]
 | .va i,z,H=>by simp only [frzT]
 | .dv i,z,H=>by simp only [frzT]
 | .fe,z,H=>by simp only [frzT]
 | .fp i y j f,z,H=>by simp only [frzT]
 | .sf y,z,H=>by simp only [frzT]
theorem frzTL_phis (cc:Cc):∀ (y z:List SV) (H:Hp),(frzTL cc y z H).2.phis=H.phis
 | [],z,H=>by simp only [frzTL]
 | a::l,[],H=>by simp only [frzTL]
 | a::l,b::l',H=>by
   simp only [frzTL]
   rw [frzTL_phis cc l l' _,frzT_phis cc a b H]
end
structure Out where
 cs:List (SB×Bool)
 z:SV
 hp:List (Nat×Bk)
 nb:Nat
 nd:Nat
 fs:List (SB×Bool)
def OutIs (σ:Sta) (F:Nat→Option Obj) (w0 w':World) (u:Value) (o:Out):Prop:=
 ∃ ρ:Dyn,(∀ p∈o.fs,p.1.den σ ρ=some p.2)∧(∀ i bk,(i,bk)∈o.hp→bk.live=true∧∃ b obj,ρ.bl i=some b∧w'.heap[b]? = some obj∧bk.Is σ ρ obj)∧
   (∀ i i' bk bk' b,(i,bk)∈o.hp→(i',bk')∈o.hp→ρ.bl i=some b→ρ.bl i'=some b→i=i')∧
   (∀ i b,ρ.bl i=some b→i < o.nb∧w0.heap.size≤b∧b < w'.heap.size)∧(∀ i n,ρ.di i=some n→i < o.nd)∧(∀ i,i < o.nd→∃ n,ρ.di i=some n)∧(∀ i,ρ.dv i=none)∧
   (∀ b ob,ρ.fz b=some ob→w'.heap[b]? = some ob∧(F b=some ob∨w0.heap.size≤b)∧∀ i bk,(i,bk)∈o.hp→ρ.bl i≠some b)∧o.z.Is σ ρ u
def finI (o:Out) (z:SV) (H:Hp):In:=mH [] H o.hp (llen o.hp) (mV [] o.z z ⟨⟨[],[]⟩,[],[],[]⟩)
def allLt (n:Nat) (p:Nat→Bool):Bool:=Nat.rec (motive:=fun _=>Bool) true (fun i ih=>bif p i then ih else false) n
theorem allLt_ok {n:Nat} {p:Nat→Bool} (h:allLt n p=true):∀ i,i < n→p i=true:=by
 induction n with
 | zero=>intro i hi;omega
 | succ n ih=>
   intro i hi
   have h':(bif p n then allLt n p else false)=true:=h
   rw [cond_true_iff] at h'
   rcases Nat.lt_or_ge i n with hlt | hge
   ·exact ih h'.2 i hlt
   ·have:i=n:=by omega
    subst this;exact h'.1
def finK (cc:Cc) (o:Out) (H:Hp) (I:In):Bool:=
 bif I.chk cc H then (bif isEm I.s.i then (bif isEm I.s.b then (bif isEm I.km then (bif ltAll o.nb (keys o.hp) then (bif lall (fun i=>lmem (keys o.hp) i) (keys I.bm) then (bif ltAll o.nd (keys I.dm) then (bif nodup (bmL I o.hp) then
  (bif allLt o.nd (fun i=>lmem (keys I.dm) i) then lmem H.phis 0 else false) else false) else false) else false) else false) else false) else false) else false) else false
def finOf (cc:Cc) (o:Out) (z:SV) (H:Hp) (I:In):Option (List Ob):=
 bif finK cc o H I then oapp (match SV.ins I o.z with | some z'=>SV.cmp z' z | none=>none) (oapp (hpCmp cc H I o.hp) (fcOb cc H I o.fs)) else none
def Out.plain (o:Out):Bool:=lall (fun p=>match p.2 with | .loop _ _ _ _ _ _ _ _ _=>false | _=>true) o.hp
section
variable {cc:Cc} {C:Ct} {hc:Nat→Option Obj} {w0:World} {cs:List Frame} {ρ:Dyn} {f:Fr} {fs:List Fr} {H:Hp} {w:World} {I:In}
theorem sta_nil (h1:isEm I.s.i=true) (h2:isEm I.s.b=true) (h3:isEm I.km=true) (σ:Sta) (ρ:Dyn):I.sta σ ρ=σ:=by
 obtain ⟨⟨si,sb⟩,bm,dm,km⟩:=I
 cases si with
 | cons=>cases h1
 | nil=>
   cases sb with
   | cons=>cases h2
   | nil=>
     cases km with
     | cons=>cases h3
     | nil=>rfl
theorem fin_ok (hcc:cc.Ok C) (hb:C.Base w0) (hX:∀ b,¬ C.X b) {o:Out} {z:SV} {u:Value} {L:List Ob} (h:finOf cc o z H I=some L) (hcd:lmap (fun p=>cdA H I p.1) o.hp=lmap (fun p=>p.2.code) o.hp) (hh:HpRel C hc w0 ρ H w) (hz:z.Is C.σ ρ u) :
  I.Def C.σ ρ∧(Obs C.σ ρ L→OutIs C.σ C.F0 w0 w u o∧Below w0.heap.size w0 w):=by
 unfold finOf at h
 cases hk:finK cc o H I with
 | false=>rw [hk] at h;cases h
 | true=>
   rw [hk] at h
   simp only [cond_true] at h
   unfold finK at hk
   simp only [cond_true_iff] at hk
   obtain ⟨k0,n1,n2,n3,k1,k2,k3,k4,k6,k5⟩:=hk
   have hI:=In.chk_ok hcc hh k0
   refine ⟨hI,fun hL=>?_⟩
   have hσ:=sta_nil n1 n2 n3 C.σ ρ
   obtain ⟨L1,L',e1,h,o1,hL⟩:=oapp_ok h hL
   obtain ⟨L2,L3,e2,e3,o2,o3⟩:=oapp_ok h hL
   simp only [lmap_eq] at hcd
   have hhp:=hpCmp_ok hcc hh hI e2 o2 hcd.symm
   have bl_of:∀ i b,(I.dyn C.σ ρ).bl i=some b→∃ j,get I.bm i=some j∧ρ.bl j=some b:=by
    intro i b e
    have e':(get I.bm i).bind ρ.bl=some b:=e
    exact Option.bind_eq_some_iff.1 e'
   have h0:=lmem_iff.1 k5
   refine ⟨⟨I.dyn C.σ ρ,fun p hp=>?_,fun i bk hm=>?_,fun i i' bk bk' b m1 m2 b1 b2=>?_,fun i b e=>?_,fun i n e=>?_,fun i hi=>?_,fun _=>rfl,fun b ob e=>?_,?_⟩,below_of hb hh h0⟩
   ·have:=fcOb_ok hcc hh hI e3 o3 p hp
    rwa [hσ] at this
   ·obtain ⟨q1,j,zz,b,ob,r1,r2,r3,r4,r5,r6⟩:=hhp i bk hm
    rw [hσ] at r6
    exact ⟨q1,b,ob,by show (get I.bm i).bind ρ.bl=some b;rw [r1];exact r4,r5,r6⟩
   ·obtain ⟨_,j,zz,bb,ob,r1,r2,r3,r4,r5,r6⟩:=hhp i bk m1
    obtain ⟨_,j',zz',bb',ob',r1',r2',r3',r4',r5',r6'⟩:=hhp i' bk' m2
    obtain ⟨k,t1,t2⟩:=bl_of i b b1
    rw [r1] at t1;cases t1
    obtain ⟨k',t1',t2'⟩:=bl_of i' b b2
    rw [r1'] at t1';cases t1'
    have:=hh.inj j j' zz zz' b r2 r3 r2' r3' t2 t2'
    subst this
    exact bm_inj k4 i i' bk bk' j m1 m2 r1 r1'
   ·obtain ⟨j,t1,t2⟩:=bl_of i b e
    have hkey:=lmem_iff.1 (lall_iff.1 k2 i (get_key t1))
    have hmem:∃ bk,(i,bk)∈o.hp:=by
     unfold keys at hkey
     rw [lmap_eq] at hkey
     obtain ⟨⟨i',bk⟩,hm,he⟩:=List.mem_map.1 hkey
     cases he
     exact ⟨bk,hm⟩
    obtain ⟨bk,hm⟩:=hmem
    obtain ⟨_,j',zz,bb,ob,r1,r2,r3,r4,r5,r6⟩:=hhp i bk hm
    rw [t1] at r1;cases r1
    refine ⟨ltAll_ok k1 i hkey,?_,hh.lt _ b t2⟩
    rcases Nat.lt_or_ge b w0.heap.size with hlt | hge
    ·have hp0:=(hb ρ _).1 (hh.phis 0 h0) b _ (Array.getElem?_eq_getElem hlt)
     exact absurd ⟨j,zz,r2,r3,t2⟩ hp0.2.2
    ·exact hge
   ·have e':(get I.dm i).bind (fun e=>(e.den C.σ ρ).bind toN)=some n:=e
    obtain ⟨x,hx,_⟩:=Option.bind_eq_some_iff.1 e'
    exact ltAll_ok k3 i (get_key hx)
   ·have hkey:=lmem_iff.1 (allLt_ok k6 i hi)
    have hget:∃ e,get I.dm i=some e:=by
     cases hg:get I.dm i with
     | some e=>exact ⟨e,rfl⟩
     | none=>
       have:∀ l:List (Nat×SI),i∈keys l→get l i≠none:=by
        intro l
        induction l with
        | nil=>intro hm;cases hm
        | cons p l ih=>
          intro hm
          rw [get_cons]
          split
          ·simp
          ·rename_i hne
           refine ih ?_
           have hm':i∈p.1::keys l:=hm
           rcases List.mem_cons.1 hm' with e | hm'
           ·exact absurd e.symm hne
           ·exact hm'
       exact absurd hg (this _ hkey)
    obtain ⟨e,he⟩:=hget
    obtain ⟨n,hn⟩:=hI.d i e he
    refine ⟨n,?_⟩
    show (get I.dm i).bind (fun e=>(e.den C.σ ρ).bind toN)=some n
    rw [he];simp [hn,toN]
   ·obtain ⟨⟨u1,u2,u3⟩,u4⟩:=hh.fz b ob e
    refine ⟨u1,u4.imp id (fun h=>h.elim id fun h=>absurd h (hX b)),fun i bk hm hbl=>?_⟩
    obtain ⟨_,j,zz,b',ob',r1,r2,r3,r4,r5,r6⟩:=hhp i bk hm
    obtain ⟨j',t1,t2⟩:=bl_of i b hbl
    rw [r1] at t1;cases t1
    exact u3 ⟨j,zz,r2,r3,t2⟩
   ·split at e1
    ·rename_i z' hz'
     have:=SV.cmp_ok z' z L1 u e1 o1 hz
     have:=(SV.ins_is hI o.z z' u hz').1 this
     rwa [hσ] at this
    ·cases e1
end
inductive Lf where
 | fin (F:List (SB×Bool)) (k:Nat) (I:In) (obs:List Ob) (cd:List (Option (Option Code×Array Tmp×Code×Code)))
 | cut (F:List (SB×Bool)) (k:Nat) (I:In) (obs:List Ob) (sh:Sh)
 | bad (F:List (SB×Bool))
def ridC (c:Code):Nat:=
 Code.rec (motive:=fun _=>Nat) 0 (fun id _ _=>Nat.succ id) (fun _ _ a b=>bif Nat.beq a 0 then b else a) (fun _ _ _ a b=>bif Nat.beq a 0 then b else a) (fun _ _ a=>a) (fun _ a=>a) (fun _ _ _ _ a b=>bif Nat.beq a 0 then b else a) (fun _=>0) (fun _ a=>a) (fun _=>0) (fun _=>0) 0 (fun _=>0) c
def tdId (l:List It):Nat:=match l with | .code c::_=>ridC c | .inLoop c::_=>ridC c | _=>0
def cutM (cc:Cc) (f:Fr) (fs:List Fr) (H:Hp) (Ts:List Tm):Nat→Option Lf:=
 List.rec (motive:=fun _=>Nat→Option Lf) (fun _=>none) (fun T _ ih k=>
  bif Nat.beq T.f.fn f.fn && (Nat.beq (llen T.fs) (llen fs) && (Nat.beq (llen T.f.todo) (llen f.todo) && Nat.beq (tdId T.f.todo) (tdId f.todo))) then
   (match instOf cc T f fs H (mTm T f fs H) with
   | some L=>some (.cut H.facts k (mTm T f fs H) L (shA T (mTm T f fs H) f fs H))
   | none=>ih (Nat.succ k)) else ih (Nat.succ k)) Ts
def outNo (cc:Cc) (H:Hp) (l:List (SB×Bool)):Bool:=
 List.rec (motive:=fun _=>Bool) false (fun p _ ih=>match dec (bdOf cc H) H.facts p.1 with | .yes b=>bif b then (bif p.2 then ih else true) else (bif p.2 then true else ih) | .ask _=>ih) l
def ciNe (x y:SI):Bool:=match x,y with | .c a,.c b=>!ieq a b | _,_=>false
def cbNe (x y:SB):Bool:=match x,y with | .c a,.c b=>bif a then !b else b | _,_=>false
mutual
def SV.clash:SV→SV→Bool
 | .it _ x,.it _ y=>ciNe x y
 | .bo p,.bo q=>cbNe p q
 | .tp l,.tp l'=>SV.clashL l l'
 | .ag l,.ag l'=>SV.clashL l l'
 | _,_=>false
def SV.clashL:List SV→List SV→Bool
 | a::l,b::l'=>bif SV.clash a b then true else SV.clashL l l'
 | _,_=>false
end
def finMc (ck:Bool) (cc:Cc) (z:SV) (H:Hp) (os:List Out):Nat→Option Lf:=
 List.rec (motive:=fun _=>Nat→Option Lf) (fun _=>none) (fun o _ ih k=>match (bif (bif ck then SV.clash o.z z else false) then none else bif outNo cc H o.cs then none else finOf cc o (frzT cc o.z z H).1 (frzT cc o.z z H).2 (finI o (frzT cc o.z z H).1 (frzT cc o.z z H).2)) with
  | some L=>some (.fin H.facts k (finI o (frzT cc o.z z H).1 (frzT cc o.z z H).2) L (lmap (fun p=>cdA (frzT cc o.z z H).2 (finI o (frzT cc o.z z H).1 (frzT cc o.z z H).2) p.1) o.hp))
  | none=>ih (Nat.succ k)) os
def finM (cc:Cc) (z:SV) (H:Hp) (os:List Out) (k:Nat):Option Lf:=
 match finMc true cc z H os k with
 | some l=>some l
 | none=>finMc false cc z H os k
def Tr.lfs (cc:Cc) (Ts:List Tm) (os:List Out) (t:Tr):Option (List Lf):=
 Tr.rec (motive:=fun _=>Option (List Lf)) (fun z H=>match finM cc z H os 0 with | some l=>some [l] | none=>none) (fun f fs H=>match cutM cc f fs H Ts 0 with | some l=>some [l] | none=>none)
  (fun _ _ _ a b=>match a,b with | some x,some y=>some (lapp x y) | _,_=>none) (fun _ _ _ H=>some [.bad H.facts]) t
theorem cutM_ok {cc:Cc} {f:Fr} {fs:List Fr} {H:Hp}:∀ {Ts:List Tm} {k:Nat} {l:Lf},cutM cc f fs H Ts k=some l→∃ j T L,Ts[j]? = some T∧l=.cut H.facts (k+j) (mTm T f fs H) L (shA T (mTm T f fs H) f fs H)∧instOf cc T f fs H (mTm T f fs H)=some L
 | [],k,l,h=>by cases h
 | T::Ts,k,l,h=>by
   have h':(bif Nat.beq T.f.fn f.fn && (Nat.beq (llen T.fs) (llen fs) && (Nat.beq (llen T.f.todo) (llen f.todo) && Nat.beq (tdId T.f.todo) (tdId f.todo))) then
    (match instOf cc T f fs H (mTm T f fs H) with
    | some L=>some (.cut H.facts k (mTm T f fs H) L (shA T (mTm T f fs H) f fs H))
    | none=>cutM cc f fs H Ts (Nat.succ k)) else cutM cc f fs H Ts (Nat.succ k))=some l:=h
   have up:cutM cc f fs H Ts (Nat.succ k)=some l→∃ j T' L,(T::Ts)[j]? = some T'∧l=.cut H.facts (k+j) (mTm T' f fs H) L (shA T' (mTm T' f fs H) f fs H)∧instOf cc T' f fs H (mTm T' f fs H)=some L:=fun hu=>by
    obtain ⟨j,T',L,h1,h2,h3⟩:=cutM_ok hu
    exact ⟨j+1,T',L,by simpa using h1,by rw [h2];congr 1;simp only [Nat.succ_eq_add_one];omega,h3⟩
   cases hb:(Nat.beq T.f.fn f.fn && (Nat.beq (llen T.fs) (llen fs) && (Nat.beq (llen T.f.todo) (llen f.todo) && Nat.beq (tdId T.f.todo) (tdId f.todo)))) with
   | false=>rw [hb] at h';exact up h'
   | true=>
     rw [hb] at h'
     simp only [cond_true] at h'
     split at h'
     ·rename_i L hL
      cases h'
      exact ⟨0,T,L,rfl,rfl,hL⟩
     ·exact up h'
theorem finMc_ok {ck:Bool} {cc:Cc} {z:SV} {H:Hp}:∀ {os:List Out} {k:Nat} {l:Lf},finMc ck cc z H os k=some l→∃ j o L,os[j]? = some o∧l=.fin H.facts (k+j) (finI o (frzT cc o.z z H).1 (frzT cc o.z z H).2) L (lmap (fun p=>cdA (frzT cc o.z z H).2 (finI o (frzT cc o.z z H).1 (frzT cc o.z z H).2) p.1) o.hp)∧finOf cc o (frzT cc o.z z H).1 (frzT cc o.z z H).2 (finI o (frzT cc o.z z H).1 (frzT cc o.z z H).2)=some L
 | [],k,l,h=>by cases h
 | o::os,k,l,h=>by
   have h':(match (bif (bif ck then SV.clash o.z z else false) then none else bif outNo cc H o.cs then none else finOf cc o (frzT cc o.z z H).1 (frzT cc o.z z H).2 (finI o (frzT cc o.z z H).1 (frzT cc o.z z H).2)) with
    | some L=>some (.fin H.facts k (finI o (frzT cc o.z z H).1 (frzT cc o.z z H).2) L (lmap (fun p=>cdA (frzT cc o.z z H).2 (finI o (frzT cc o.z z H).1 (frzT cc o.z z H).2) p.1) o.hp))
    | none=>finMc ck cc z H os (Nat.succ k))=some l:=h
   split at h'
   ·rename_i L hL
    cases h'
    refine ⟨0,o,L,rfl,rfl,?_⟩
    cases hq:(bif ck then SV.clash o.z z else false) with
    | true=>rw [hq] at hL;cases hL
    | false=>
    rw [hq,cond_false] at hL
    cases hn:outNo cc H o.cs with
    | true=>rw [hn] at hL;cases hL
    | false=>rw [hn] at hL;exact hL
   ·obtain ⟨j,o',L,h1,h2,h3⟩:=finMc_ok h'
    exact ⟨j+1,o',L,by simpa using h1,by rw [h2];congr 1;simp only [Nat.succ_eq_add_one];omega,h3⟩
theorem finM_ok {cc:Cc} {z:SV} {H:Hp} {os:List Out} {k:Nat} {l:Lf} (h:finM cc z H os k=some l):∃ j o L,os[j]? = some o∧l=.fin H.facts (k+j) (finI o (frzT cc o.z z H).1 (frzT cc o.z z H).2) L (lmap (fun p=>cdA (frzT cc o.z z H).2 (finI o (frzT cc o.z z H).1 (frzT cc o.z z H).2) p.1) o.hp)∧finOf cc o (frzT cc o.z z H).1 (frzT cc o.z z H).2 (finI o (frzT cc o.z z H).1 (frzT cc o.z z H).2)=some L:=by
 unfold finM at h
 split at h
 ·rename_i l' hl;cases h;exact finMc_ok hl
 ·exact finMc_ok h
abbrev FIx:=Nat→Int→Int→Int→Int→Int→Int→Int
abbrev FBx:=Nat→Int→Int→Int→Int→Int→Int→Bool
structure Kv where
 n:Nat→Nat
 s:Nat→ByteArray
def sta (FI:FIx) (FB:FBx) (kv:Kv) (iv:Nat→Int) (bv:Nat→Bool):Sta:=
 { iv,bv,sv:=kv.s,vv:=fun _=>undef,kv:=kv.n,lv:=fun _=>[],op:=fun _ _=>False,fi:=FI,fb:=FB }
structure Cx where
 FI:FIx
 FB:FBx
 kv:Kv
 F0:Nat→Option Obj
 X:Nat→Prop
 phi:Nat→(Nat→Obj→Prop)→Prop
 mono:∀ j (U U':Nat→Obj→Prop),(∀ b o,U b o→U' b o)→phi j U→phi j U'
def Cx.ct (X:Cx) (iv:Nat→Int) (bv:Nat→Bool):Ct:={ σ:=sta X.FI X.FB X.kv iv bv,F0:=X.F0,X:=X.X,phi:=fun j _ U=>X.phi j U,mono:=fun j _ _ U U' _ h k=>X.mono j U U' h k }
def LfOk (S:(Nat→Int)→(Nat→Bool)→Sta) (Ts:List Tm) (os:List Out) (Inv:Nat→(Nat→Int)→(Nat→Bool)→Prop) (mu:Nat→(Nat→Int)→(Nat→Bool)→Nat) (k:Nat) (iv:Nat→Int) (bv:Nat→Bool):Lf→Prop
 | .bad F=>∀ ρ,Known (S iv bv) ρ F→False
 | .cut F j I obs sh=>(∃ T,Ts[j]? = some T∧sh=shT T I)∧∀ ρ,Known (S iv bv) ρ F→I.Def (S iv bv) ρ→Obs (S iv bv) ρ obs∧Inv j (I.iv (S iv bv) ρ) (I.bv (S iv bv) ρ)∧mu j (I.iv (S iv bv) ρ) (I.bv (S iv bv) ρ) < mu k iv bv
 | .fin F j I obs cd=>(∃ o,os[j]? = some o∧cd=lmap (fun p=>p.2.code) o.hp)∧∀ ρ,Known (S iv bv) ρ F→I.Def (S iv bv) ρ→Obs (S iv bv) ρ obs∧∀ i o,os[i]? = some o→i≠j→(∀ p∈o.cs,p.1.den (S iv bv) dyn0=some p.2)→False
def Agr (na:Nat) (iv0:Nat→Int) (bv0:Nat→Bool) (iv:Nat→Int) (bv:Nat→Bool):Prop:=(∀ j,j < na→iv j=iv0 j)∧(∀ j,j < na→bv j=bv0 j)
theorem cuts_ok {na:Nat} {iv0:Nat→Int} {bv0:Nat→Bool} {X:Cx} {cc:Cc} {E:Ents} {Ts:List Tm} {os:List Out} {Inv:Nat→(Nat→Int)→(Nat→Bool)→Prop} {mu:Nat→(Nat→Int)→(Nat→Bool)→Nat} {w0:World} {hc:Nat→Option Obj} {cs:List Frame} {bot:FuncId×Bool} {R:Value→World→Prop}
  (hbase:∀ U,X.phi 0 U↔∀ b o,w0.heap[b]? = some o→U b o) (hX:∀ b,¬ X.X b)
  (hvs:∀ T∈Ts,∀ i∈T.vs,na≤i) (hcc:∀ iv bv,Agr na iv0 bv0 iv bv→cc.Ok (X.ct iv bv)) (hE:∀ iv bv,Agr na iv0 bv0 iv bv→EntsOk cc (X.ct iv bv) E)
  {stop:Fr→List Fr→Bool} {N n d:Nat} {L:Nat→List Lf}
  (hL:∀ k T,Ts[k]? = some T→(ex cc E (dw cc E n d) stop N T.f T.fs T.H).lfs cc Ts os=some (L k))
  (hO:∀ k T iv bv,Ts[k]? = some T→Agr na iv0 bv0 iv bv→Inv k iv bv→∀ lf∈L k,LfOk (fun iv bv=>(X.ct iv bv).σ) Ts os Inv mu k iv bv lf)
  (hR:∀ (k:Nat) (iv:Nat→Int) (bv:Nat→Bool) (j:Nat) (o:Out) (u:Value) (w':World),Agr na iv0 bv0 iv bv→Inv k iv bv→os[j]? = some o→OutIs (X.ct iv bv).σ X.F0 w0 w' u o→Below w0.heap.size w0 w'→(∀ (i:Nat) (o':Out),os[i]? = some o'→i≠j→(∀ p∈o'.cs,p.1.den (X.ct iv bv).σ dyn0=some p.2)→False)→R u w') :
  ∀ (q k:Nat) (T:Tm) (iv:Nat→Int) (bv:Nat→Bool),Ts[k]? = some T→mu k iv bv < q→Agr na iv0 bv0 iv bv→Inv k iv bv→∀ ρ m,Sat (X.ct iv bv) hc w0 cs ρ T.f T.fs T.H m→botOf T.f T.fs=bot→Fin cc.P m cs bot R:=by
 intro q
 induction q with
 | zero=>intro k T iv bv _ h;omega
 | succ q ih=>
   intro k T iv bv hT hmu hagr hinv ρ m hm hbot
   have hcc':=hcc iv bv hagr
   have hE':=hE iv bv hagr
   have hOk:=hO k T iv bv hT hagr hinv
   have hb:(X.ct iv bv).Base w0:=fun _ U=>hbase U
   have hall:∀ (t:Tr) (l:List Lf),t.lfs cc Ts os=some l→(∀ lf∈l,LfOk (fun iv bv=>(X.ct iv bv).σ) Ts os Inv mu k iv bv lf)→
     t.All (X.ct iv bv) hc w0 (fun z H=>∃ l,finM cc z H os 0=some l∧LfOk (fun iv bv=>(X.ct iv bv).σ) Ts os Inv mu k iv bv l) (fun f fs H=>∃ l,cutM cc f fs H Ts 0=some l∧LfOk (fun iv bv=>(X.ct iv bv).σ) Ts os Inv mu k iv bv l):=by
    intro t
    induction t with
    | leaf z H=>
      intro l hl hok
      have hl':(match finM cc z H os 0 with | some l=>some [l] | none=>none)=some l:=hl
      split at hl'
      ·rename_i x hx;cases hl';exact ⟨x,hx,hok x (by simp)⟩
      ·cases hl'
    | cut f fs H=>
      intro l hl hok
      have hl':(match cutM cc f fs H Ts 0 with | some l=>some [l] | none=>none)=some l:=hl
      split at hl'
      ·rename_i x hx;cases hl';exact ⟨x,hx,hok x (by simp)⟩
      ·cases hl'
    | fork p a b ha hb=>
      intro l hl hok
      have hl':(match a.lfs cc Ts os,b.lfs cc Ts os with | some x,some y=>some (lapp x y) | _,_=>none)=some l:=hl
      split at hl'
      ·rename_i x y hx hy
       cases hl'
       rw [lapp_eq] at hok
       exact ⟨ha x hx fun lf h=>hok lf (List.mem_append_left _ h),hb y hy fun lf h=>hok lf (List.mem_append_right _ h)⟩
      ·cases hl'
    | bad why f fs H=>
      intro l hl hok
      cases hl
      intro ρ w hh
      exact hok (.bad H.facts) (by simp) ρ hh.facts
   refine ex_ok hcc' hE' (dw_ok hcc' hE' n d) (R:=R) (ρ0:=ρ) (H0:=T.H) (W0:=m.world) ?_ ?_ N T.f T.fs T.H ρ m hm (Tn.refl _ _ _) hbot (hall _ _ (hL k T hT) hOk)
   ·rintro z H ρ' u w' ⟨l,hl,hok⟩ hz hh _
    obtain ⟨j,o,Lo,h1,rfl,h3⟩:=finM_ok hl
    obtain ⟨⟨o',h4,h5⟩,h6⟩:=hok
    have hj:0+j=j:=by omega
    rw [hj] at h4
    rw [h1] at h4;cases h4
    have h0:0∈H.phis:=by
     have hk:finK cc o (frzT cc o.z z H).2 (finI o (frzT cc o.z z H).1 (frzT cc o.z z H).2)=true:=by
      cases hk:finK cc o (frzT cc o.z z H).2 (finI o (frzT cc o.z z H).1 (frzT cc o.z z H).2) with
      | true=>rfl
      | false=>unfold finOf at h3;rw [hk] at h3;cases h3
     unfold finK at hk
     simp only [cond_true_iff] at hk
     rw [← frzT_phis cc o.z z H]
     exact lmem_iff.1 hk.2.2.2.2.2.2.2.2.2
    obtain ⟨ρ2,k1,k2⟩:=frzT_ok hcc' o.z z hh hz
    obtain ⟨g1,g2⟩:=fin_ok hcc' hb hX h3 h5 k1.hp k2
    obtain ⟨g3,g4⟩:=h6 ρ2 (by have:=k1.hp.facts;rw [k1.facts] at this;exact this) g1
    obtain ⟨g5,g6⟩:=g2 g3
    exact hR k iv bv j o u w' hagr hinv h1 g5 g6 (by rw [hj] at g4;exact g4)
   ·rintro f fs H ρ' m' ⟨l,hl,hok⟩ hsat _ hbot'
    obtain ⟨j,T',Lo,h1,rfl,h3⟩:=cutM_ok hl
    obtain ⟨⟨T2,h4,h5⟩,h6⟩:=hok
    have hj:0+j=j:=by omega
    rw [hj] at h4
    rw [h1] at h4;cases h4
    have hk:instK cc T' H (mTm T' f fs H)=true:=by
     cases hk:instK cc T' H (mTm T' f fs H) with
     | true=>rfl
     | false=>unfold instOf at h3;rw [hk] at h3;cases h3
    have hdef:(mTm T' f fs H).Def (X.ct iv bv).σ ρ':=by
     obtain ⟨fr,frs,w,_,_,_,hh⟩:=hsat
     exact instK_def hcc' hh hk
    have hfacts:Known (X.ct iv bv).σ ρ' H.facts:=by
     obtain ⟨fr,frs,w,_,_,_,hh⟩:=hsat
     exact hh.facts
    obtain ⟨g1,g2,g3⟩:=h6 ρ' hfacts hdef
    have hk2:=hk
    unfold instK at hk2
    simp only [cond_true_iff] at hk2
    obtain ⟨_,_,_,_,_,_,g0,v1,v2⟩:=hk2
    rw [hj] at g2 g3
    dsimp only at g2 g3
    have hsta:(X.ct ((mTm T' f fs H).iv (X.ct iv bv).σ ρ') ((mTm T' f fs H).bv (X.ct iv bv).σ ρ')).σ=(mTm T' f fs H).sta (X.ct iv bv).σ ρ':=by
     have hkv:(mTm T' f fs H).kv (X.ct iv bv).σ ρ'=X.kv.n:=by
      generalize mTm T' f fs H=I at g0
      obtain ⟨s,bm,dm,km⟩:=I
      cases km with
      | cons=>cases g0
      | nil=>rfl
     show sta X.FI X.FB X.kv _ _=In.sta _ _ _
     unfold In.sta
     rw [hkv];rfl
    obtain ⟨g4,g5⟩:=inst_ok (C':=X.ct ((mTm T' f fs H).iv (X.ct iv bv).σ ρ') ((mTm T' f fs H).bv (X.ct iv bv).σ ρ')) hcc' hsta rfl rfl (fun j _ U U' hU h=>X.mono j U U' hU h) h3 h5 hsat g1
    have hagr':Agr na iv0 bv0 ((mTm T' f fs H).iv (X.ct iv bv).σ ρ') ((mTm T' f fs H).bv (X.ct iv bv).σ ρ'):=by
     have hm':=List.mem_of_getElem? h1
     refine ⟨fun i hi=>?_,fun i hi=>?_⟩
     ·rw [← hagr.1 i hi]
      unfold In.iv
      cases hg:get (mTm T' f fs H).s.i i with
      | none=>rfl
      | some e=>
        have:=hvs T' hm' i (lmem_iff.1 (lall_iff.1 v1 _ (get_mem hg)))
        omega
     ·rw [← hagr.2 i hi]
      unfold In.bv
      cases hg:get (mTm T' f fs H).s.b i with
      | none=>rfl
      | some e=>
        have:=hvs T' hm' i (lmem_iff.1 (lall_iff.1 v2 _ (get_mem hg)))
        omega
    exact ih j T' _ _ h1 (by omega) hagr' g2 _ _ g4 (g5.trans hbot')
end
end Go.Sx
namespace Go.Sx
noncomputable section
set_option linter.unusedVariables false
set_option linter.unusedSimpArgs false
open Go.RowKit
def eqtOk (P:Program) (t:TypeId):Bool:=
 bif P.stoodInHeld t then false else bif P.eqGuardType P.depth t then false else match P.underlying t with | some (.struct fs)=>lall (fun f=>!(f.name == "_")) fs.toList | _=>true
structure POk (P:Program) (eqt:List TypeId):Prop where
 eqt:∀ t∈eqt,P.stoodInHeld t=false∧P.eqGuardType P.depth t=false∧∀ fs,P.underlying t=some (.struct fs)→∀ f∈fs.toList,f.name ≠ "_"
 names:∀ (f:Nat) (fn:Func),P.funcs[f]? = some fn→(fn.name == "runtime.NumGoroutine")=false
 ov:∀ (f:Nat) (fn:Func),P.funcs[f]? = some fn→ovOk fn=true
 mixed:P.follows .mixedOrders=true
theorem POk.of {P:Program} {eqt:List TypeId} (h1:lall (fun fn=>bif fn.name == "runtime.NumGoroutine" then false else ovOk fn) P.funcs.toList=true) (h2:P.follows .mixedOrders=true) (h3:lall (eqtOk P) eqt=true):POk P eqt:=by
 have key:∀ (f:Nat) (fn:Func),P.funcs[f]? = some fn→(fn.name == "runtime.NumGoroutine")=false∧ovOk fn=true:=fun f fn hf=>by
  have hm:fn∈P.funcs.toList:=by
   have:=Array.mem_of_getElem? hf
   exact Array.mem_toList_iff.2 this
  have:=lall_iff.1 h1 fn hm
  cases hn:(fn.name == "runtime.NumGoroutine") with
  | true=>rw [hn] at this;cases this
  | false=>rw [hn] at this;exact ⟨rfl,this⟩
 refine ⟨fun t ht=>?_,fun f fn hf=>(key f fn hf).1,fun f fn hf=>(key f fn hf).2,h2⟩
 ·have:=lall_iff.1 h3 t ht
  unfold eqtOk at this
  cases e1:P.stoodInHeld t with
  | true=>rw [e1] at this;cases this
  | false=>
    rw [e1,cond_false] at this
    cases e2:P.eqGuardType P.depth t with
    | true=>rw [e2] at this;cases this
    | false=>
      rw [e2,cond_false] at this
      refine ⟨rfl,rfl,fun fs hfs f hf he=>?_⟩
      rw [hfs] at this
      have:=lall_iff.1 this f hf
      rw [he] at this
      simp at this
structure FiOk (FI:FIx) (FB:FBx) (BF:List (Nat×Int×Int)):Prop where
 bf:∀ i a b,(i,a,b)∈BF→∀ x0 x1 x2 x3 x4 x5,InR a b (FI i x0 x1 x2 x3 x4 x5)
 al:∀ kv iv bv,ArrLaw (sta FI FB kv iv bv)
structure Gv where
 a:Nat
 o:SI
 lay:List Kd
 c:Nat
 n:SI
structure Con where
 g:FuncId
 vs:List Nat
 A:List SV
 G:List Gv
 B:List (Nat×Int×Int)
 F:List (SB×Bool)
 os:List Out
 ow:List TypeId
def InB (B:List (Nat×Int×Int)) (iv:Nat→Int):Prop:=∀ i a b,(i,a,b)∈B→a≤iv i∧iv i≤(if a≤b then b else iv i)
def GvIs (σ:Sta) (w:World) (G:Gv):Prop:=
 ∃ on nv,G.o.den σ dyn0=some (Int.ofNat on)∧G.n.den σ dyn0=some (Int.ofNat nv)∧∀ j,j < nv→∀ f κ,G.lay[f]? = some κ→w.cell? ⟨σ.kv G.a,on+j * G.lay.length+f,none⟩=some (κ.val σ (σ.iv G.c) j f)
def Con.Post (c:Con) (σ:Sta) (F:Nat→Option Obj) (w:World) (e:Ending) (w':World):Prop:=
 ∃ u,e=.returned u∧Below w.heap.size w w'∧∀ o∈c.os,(∀ p∈o.cs,p.1.den σ dyn0=some p.2)→OutIs σ F w w' u o
def Con.Ok (P:Program) (FI:FIx) (FB:FBx) (c:Con):Prop:=
 ∀ kv iv bv,InB c.B iv→(∀ p∈c.F,p.1.den (sta FI FB kv iv bv) dyn0=some p.2)→∀ w,(∀ G∈c.G,GvIs (sta FI FB kv iv bv) w G)→
   ∀ F:Nat→Option Obj,(∀ b o,F b=some o→w.heap[b]? = some o)→∀ us,SV.IsL (sta FI FB kv iv bv) (dynF F) c.A us→Calls P c.g us.toArray w (c.Post (sta FI FB kv iv bv) F w)
inductive GvR where
 | ok (I:In)
 | ask (p:SB)
 | no
def gvsM (cc:Cc) (H:Hp) (l:List Gv):In→GvR:=
 List.rec (motive:=fun _=>In→GvR) (fun I=>.ok I) (fun G _ ih I=>
  match (match get I.km G.a with | some r=>r | none=>SR.k G.a),G.o.ins I,G.n.ins I with
  | r,some o,some n=>match viewA cc H G.lay (.sl r o n (.c 0)) with
    | .ok c j m=>match get I.s.i G.c with
      | none=>bif Nat.blt 0 (llen G.lay) && (m.beq n) then ih ⟨⟨(G.c,baseC c j m)::I.s.i,I.s.b⟩,I.bm,I.dm,I.km⟩ else .no
      | some _=>.no
    | .ask p=>.ask p
    | .no=>.no
  | _,_,_=>.no) l
def gvC (cc:Cc) (H:Hp) (I:In) (G:Gv):Bool:=
 match G.o.ins I,G.n.ins I,get I.s.i G.c with
 | some o,some n,some e=>bif nonneg (bdOf cc H) o then (bif nonneg (bdOf cc H) n then (bif (bif Nat.blt 0 (llen G.lay) then lall Kd.flat G.lay else false) then (match viewA cc H G.lay (.sl (match get I.km G.a with | some r=>r | none=>SR.k G.a) o n (.c 0)) with
   | .ok c j m=>bif e.beq (baseC c j m) then m.beq n else false
   | _=>false) else false) else false) else false
 | _,_,_=>false
inductive CkR where
 | yes
 | ask (p:SB)
 | no
def SI.flR (cc:Cc) (H:Hp) (x:SI):SI:=
 SI.rec (motive:=fun _=>SI) (fun n=>.c n) (fun i=>.v i) (fun i=>.d i) (fun f _ _ a b=>.op f a b) (fun k _ a=>.wk k a)
  (fun f a0 a1 a2 a3 a4 a5 _ _ _ _ _ _=>bif (SI.ap f a0 a1 a2 a3 a4 a5).beq a0.fl then flN cc H a0 else .ap f a0 a1 a2 a3 a4 a5) x
def SB.flR (cc:Cc) (H:Hp) (x:SB):SB:=match x with
 | .lt a b=>.lt (a.flR cc H) (b.flR cc H)
 | .le a b=>.le (a.flR cc H) (b.flR cc H)
 | .eq a b=>.eq (a.flR cc H) (b.flR cc H)
 | x=>x
section
variable {cc:Cc} {C:Ct} {hc:Nat→Option Obj} {w0:World} {ρ:Dyn} {H:Hp} {w:World}
theorem SI.flR_den (hcc:cc.Ok C) (h:HpRel C hc w0 ρ H w):∀ {x:SI} {a:Int},x.den C.σ ρ=some a→(x.flR cc H).den C.σ ρ=some a:=by
 intro x
 induction x with
 | c n=>intro a h;exact h
 | v i=>intro a h;exact h
 | d i=>intro a h;exact h
 | op f p q hp hq=>
   intro a hx
   simp only [SI.den] at hx
   obtain ⟨u,hu,hx⟩:=Option.bind_eq_some_iff.1 hx
   obtain ⟨v,hv,hx⟩:=Option.bind_eq_some_iff.1 hx
   show (SI.op f (p.flR cc H) (q.flR cc H)).den C.σ ρ=some a
   simp only [SI.den,hp hu,hq hv,Option.bind_some]
   exact hx
 | wk k p hp=>
   intro a hx
   simp only [SI.den] at hx
   obtain ⟨u,hu,hx⟩:=Option.bind_eq_some_iff.1 hx
   show (SI.wk k (p.flR cc H)).den C.σ ρ=some a
   simp only [SI.den,hp hu,Option.bind_some]
   exact hx
 | ap f a0 a1 a2 a3 a4 a5 _ _ _ _ _ _=>
   intro a hx
   show (bif (SI.ap f a0 a1 a2 a3 a4 a5).beq a0.fl then flN cc H a0 else .ap f a0 a1 a2 a3 a4 a5).den C.σ ρ=some a
   cases hb:(SI.ap f a0 a1 a2 a3 a4 a5).beq a0.fl with
   | false=>exact hx
   | true=>
     have e:=SI.beq_eq hb
     rw [e] at hx
     obtain ⟨v,h1,h2⟩:=SI.fl_def hx
     rw [h2]
     exact flN_den hcc h h1
theorem SB.flR_den (hcc:cc.Ok C) (h:HpRel C hc w0 ρ H w) {x:SB} {b:Bool} (hx:x.den C.σ ρ=some b):(x.flR cc H).den C.σ ρ=some b:=by
 cases x<;>try exact hx
 all_goals
  simp only [SB.den] at hx
  obtain ⟨u,hu,hx⟩:=Option.bind_eq_some_iff.1 hx
  obtain ⟨v,hv,hx⟩:=Option.bind_eq_some_iff.1 hx
  simp only [SB.flR,SB.den,SI.flR_den hcc h hu,SI.flR_den hcc h hv,Option.bind_some]
  exact hx
end
def factsM (cc:Cc) (H:Hp) (I:In) (F:List (SB×Bool)):CkR:=
 List.rec (motive:=fun _=>CkR) .yes (fun p _ ih=>match p.1.ins I with
  | some q=>match dec (bdOf cc H) H.facts (q.flR cc H) with
    | .yes b=>bif (bif b then p.2 else !p.2) then ih else .no
    | .ask q=>.ask q
  | none=>.no) F
def idMap (k:Nat) (n:Nat):List (Nat×Nat):=Nat.rec (motive:=fun _=>List (Nat×Nat)) [] (fun i ih=>(i,Nat.add k i)::ih) n
def ddMap (k:Nat) (n:Nat):List (Nat×SI):=Nat.rec (motive:=fun _=>List (Nat×SI)) [] (fun i ih=>(i,.d (Nat.add k i))::ih) n
def bksIns (I:In) (k:Nat) (l:List (Nat×Bk)):Option (List (Nat×Bk)):=
 List.rec (motive:=fun _=>Option (List (Nat×Bk))) (some []) (fun p _ ih=>match p.2.ins I,ih with | some bk,some r=>some ((Nat.add k p.1,bk)::r) | _,_=>none) l
def fcsIns (I:In) (l:List (SB×Bool)):Option (List (SB×Bool)):=
 List.rec (motive:=fun _=>Option (List (SB×Bool))) (some []) (fun p _ ih=>match p.1.ins I,ih with | some q,some r=>some ((q,p.2)::r) | _,_=>none) l
def outI (H:Hp) (I:In) (o:Out):In:=⟨I.s,idMap H.nb o.nb,ddMap H.nd o.nd,I.km⟩
def lrnF (fs:List (SB×Bool)) (l:List (Nat×Int×Int)):List (Nat×Int×Int):=List.rec (motive:=fun _=>List (Nat×Int×Int)) l (fun f _ ih=>lrn ih f.1 f.2) fs
theorem lrnF_ok {σ:Sta} {ρ:Dyn} {l:List (Nat×Int×Int)} (h:∀ i a b,(i,a,b)∈l→InR a b (σ.iv i)):∀ {fs:List (SB×Bool)},(∀ f∈fs,f.1.den σ ρ=some f.2)→∀ i a b,(i,a,b)∈lrnF fs l→InR a b (σ.iv i)
 | [],_=>h
 | f::fs,hf=>lrn_ok (lrnF_ok h (fs:=fs) fun g hg=>hf g (List.mem_cons_of_mem _ hg)) (hf f (List.mem_cons_self ..))
def outM (cc:Cc) (H:Hp) (I:In) (l:List Out):Ap:=
 List.rec (motive:=fun _=>Ap) .no (fun o _ ih=>match factsM cc H I o.cs with
  | .yes=>match SV.ins (outI H I o) o.z,bksIns (outI H I o) H.nb o.hp,fcsIns (outI H I o) o.fs with
    | some z,some hp,some fs=>bif ltAll o.nb (keys o.hp) then .ok z { heap:=lapp hp H.heap,nb:=Nat.add H.nb o.nb,nd:=Nat.add H.nd o.nd,nv:=H.nv,facts:=lapp fs H.facts,phis:=H.phis,bd:=lrnF fs H.bd } else .no
    | _,_,_=>.no
  | .ask p=>.ask p
  | .no=>ih) l
mutual
def adjV:SV→SV→SV
 | .fs i _,.sn=>.fs i (.c 0)
 | .fs i _,.fe=>.fs i (.c 0)
 | .fs i _,.sl r o l c=>bif isZ l then .fs i (.c 0) else .sl r o l c
 | .ag l,.ag l'=>.ag (adjL l l')
 | .fc _ x,.fc t x'=>.fc t (adjV x x')
 | _,z=>z
def adjL:List SV→List SV→List SV
 | a::l,b::l'=>adjV a b::adjL l l'
 | _,l=>l
end
section
variable {σ:Sta} {ρ:Dyn}
mutual
theorem adjV_ok (h0:flen σ 0=0):∀ (t z:SV) (u:Value),z.Is σ ρ u→(adjV t z).Is σ ρ u
 | .fs i y,z,u,h=>by
   have hnil:∀ a cap,(SV.fs i (.c 0)).Is σ ρ (.slice a 0 cap):=fun a cap=>by simp only [SV.Is];exact ⟨0,rfl,.nil _ _ _ _ h0 (sl0 _)⟩
   cases z<;>simp only [adjV]<;>try exact h
   case sn=>simp only [SV.Is] at h;subst h;exact hnil _ _
   case fe=>simp only [SV.Is] at h;obtain ⟨a,rfl,_⟩:=h;exact hnil _ _
   case sl r o l c=>
    cases hl:isZ l with
    | false=>exact h
    | true=>
      simp only [SV.Is] at h
      obtain ⟨x,n,len,cap,_,_,h3,_,rfl⟩:=h
      have:l=.c 0:=by
       unfold isZ at hl
       split at hl<;>first | rfl | cases hl
      subst this
      have:len=0:=by
       simp only [SI.den,Option.some.injEq] at h3
       exact (Int.ofNat.inj h3).symm
      subst this
      exact hnil _ _
 | .ag l,z,u,h=>by
   cases z<;>simp only [adjV]<;>try exact h
   rename_i l'
   simp only [SV.Is] at h ⊢
   obtain ⟨vs,h1,h2⟩:=h
   exact ⟨vs,adjL_ok h0 l l' vs h1,h2⟩
 | .fc t x,z,u,h=>by
   cases z<;>simp only [adjV]<;>try exact h
   rename_i t' x'
   simp only [SV.Is] at h ⊢
   obtain ⟨y,h1,h2⟩:=h
   exact ⟨y,adjV_ok h0 x x' y h1,h2⟩
 | .any,z,u,h=>by simp only [adjV];exact h
 | .bo _,z,u,h=>by simp only [adjV];exact h
 | .it _ _,z,u,h=>by simp only [adjV];exact h
 | .st _,z,u,h=>by simp only [adjV];exact h
 | .pt _ _,z,u,h=>by simp only [adjV];exact h
 | .pn,z,u,h=>by simp only [adjV];exact h
 | .sl _ _ _ _,z,u,h=>by simp only [adjV];exact h
 | .sn,z,u,h=>by simp only [adjV];exact h
 | .mp _,z,u,h=>by simp only [adjV];exact h
 | .mn,z,u,h=>by simp only [adjV];exact h
 | .fn _ _ _,z,u,h=>by simp only [adjV];exact h
 | .yl _,z,u,h=>by simp only [adjV];exact h
 | .fz,z,u,h=>by simp only [adjV];exact h
 | .fcn,z,u,h=>by simp only [adjV];exact h
 | .tp _,z,u,h=>by simp only [adjV];exact h
 | .va _,z,u,h=>by simp only [adjV];exact h
 | .dv _,z,u,h=>by simp only [adjV];exact h
 | .fe,z,u,h=>by simp only [adjV];exact h
 | .sf _,z,u,h=>by simp only [adjV];exact h
 | .fp _ _ _ _,z,u,h=>by simp only [adjV];exact h
theorem adjL_ok (h0:flen σ 0=0):∀ (t z:List SV) (us:List Value),SV.IsL σ ρ z us→SV.IsL σ ρ (adjL t z) us
 | [],z,us,h=>by cases z<;>exact h
 | a::t,[],us,h=>h
 | a::t,b::l,us,h=>by
   simp only [adjL]
   rw [SV.isL_cons] at h ⊢
   obtain ⟨u,r,e,h1,h2⟩:=h
   exact ⟨u,r,e,adjV_ok h0 a b u h1,adjL_ok h0 t l r h2⟩
end
end
def Con.app0 (cc:Cc) (c:Con) (H:Hp) (args:List SV):Ap:=
 match gvsM cc H c.G (mVL c.vs c.A args ⟨⟨[],[]⟩,[],[],[]⟩) with
 | .ok I=>bif lall (gvC cc H I) c.G then (bif I.chk cc H then (bif isEm I.bm then (bif isEm I.dm then (match SV.insL I c.A with
   | some A'=>match SV.cmpL A' args with
     | some []=>bif bdFk cc H I c.B then (match factsM cc H I c.F with
       | .yes=>outM cc H I c.os
       | .ask p=>.ask p
       | .no=>.no) else .no
     | _=>.no
   | none=>.no) else .no) else .no) else .no) else .no
 | .ask p=>bif p.stat then .ask p else .no
 | .no=>.no
def frzA (cc:Cc) (A:List SV) (app:Hp→List SV→Ap) (H:Hp) (args:List SV):Ap:=app (frzTL cc A (adjL A args) H).2 (frzTL cc A (adjL A args) H).1
theorem CallOk.frz {cc:Cc} {C:Ct} (hcc:cc.Ok C) {A:List SV} {f:FuncId} {app:Hp→List SV→Ap} (h:CallOk cc C f app):CallOk cc C f (frzA cc A app):=by
 intro hc w0 ρ H w args us hh ha
 obtain ⟨ρ1,k1,k2⟩:=frzTL_ok hcc A _ hh (adjL_ok hcc.al.f0 A args us ha)
 obtain ⟨h1,h2⟩:=h hc w0 ρ1 _ w _ us k1.hp k2
 refine ⟨fun z H' e=>?_,fun p e=>?_⟩
 ·intro cs
  obtain ⟨e',w',fr,⟨ρ',u,g1,g2,g3,g4⟩,g5⟩:=h1 z H' e cs
  exact ⟨e',w',fr,⟨ρ',u,g1,k1.tn.trans g2,g3,g4⟩,g5⟩
 ·obtain ⟨b,hb⟩:=h2 p e
  exact ⟨b,by rw [SB.den_di k1.di.symm];exact hb⟩
def Con.app (cc:Cc) (c:Con):Hp→List SV→Ap:=frzA cc c.A (Con.app0 cc c)
def Con.ent (c:Con) (cc:Cc):Nat×(Hp→List SV→Ap):=(c.g,Con.app cc c)
section
variable {cc:Cc} {C:Ct} {hc:Nat→Option Obj} {w0:World} {ρ:Dyn} {H:Hp} {w:World} {I:In}
theorem factsM_ok (hcc:cc.Ok C) (h:HpRel C hc w0 ρ H w) (hI:I.Def C.σ ρ):∀ {F:List (SB×Bool)},(factsM cc H I F=.yes→∀ p∈F,p.1.den (I.sta C.σ ρ) (I.dyn C.σ ρ)=some p.2)∧∀ q,factsM cc H I F=.ask q→∃ b,q.den C.σ ρ=some b
 | []=>⟨(fun _ p hp=>by cases hp),(fun q hq=>by cases hq)⟩
 | p::F=>by
   have ih:=factsM_ok hcc h hI (F:=F)
   have e:factsM cc H I (p::F)=(match p.1.ins I with
    | some q=>match dec (bdOf cc H) H.facts (q.flR cc H) with
      | .yes b=>bif (bif b then p.2 else !p.2) then factsM cc H I F else .no
      | .ask q=>.ask q
    | none=>.no):=rfl
   rw [e]
   cases hq:p.1.ins I with
   | none=>exact ⟨(fun h=>by cases h),(fun q h=>by cases h)⟩
   | some q=>
     obtain ⟨v,v1,v2⟩:=SB.ins_ok hI hq
     have v1:=SB.flR_den hcc h v1
     dsimp only
     cases hd:dec (bdOf cc H) H.facts (q.flR cc H) with
     | ask r=>
       refine ⟨(fun h=>by cases h),fun r' hr=>?_⟩
       cases hr
       exact ask_den (bdOf_ok hcc h) h.facts v1 hd
     | yes b=>
       have:=dec_ok (bdOf_ok hcc h) h.facts v1 hd
       subst this
       dsimp only
       cases hb:(bif b then p.2 else !p.2) with
       | false=>exact ⟨(fun h=>by cases h),(fun q h=>by cases h)⟩
       | true=>
         simp only [cond_true]
         refine ⟨fun hy r hr=>?_,ih.2⟩
         rcases List.mem_cons.1 hr with rfl | hr
         ·rw [v2]
          cases b<;>cases hr2:r.2<;>simp_all
         ·exact ih.1 hy r hr
theorem dyn_nil (h1:isEm I.bm=true) (h2:isEm I.dm=true) (σ:Sta) (ρ:Dyn):I.dyn σ ρ=dynF ρ.fz:=by
 obtain ⟨s,bm,dm,km⟩:=I
 cases bm with
 | cons=>cases h1
 | nil=>
   cases dm with
   | cons=>cases h2
   | nil=>rfl
theorem dynF_den {σ:Sta} {F:Nat→Option Obj} {x:SI}:x.den σ (dynF F)=x.den σ dyn0:=SI.den_di (ρ:=dynF F) (ρ':=dyn0) rfl x
theorem dynF_denB {σ:Sta} {F:Nat→Option Obj} {x:SB}:x.den σ (dynF F)=x.den σ dyn0:=SB.den_di (ρ:=dynF F) (ρ':=dyn0) rfl x
theorem gvC_ok (hcc:cc.Ok C) (h:HpRel C hc w0 ρ H w) (hI:I.Def C.σ ρ) (hd:I.dyn C.σ ρ=dynF ρ.fz) {G:Gv} (hg:gvC cc H I G=true):GvIs (I.sta C.σ ρ) w G:=by
 unfold gvC at hg
 split at hg
 ·rename_i o n e ho hn he
  simp only [cond_true_iff] at hg
  obtain ⟨g1,g2,g3,g4⟩:=hg
  obtain ⟨ov,o1,o2⟩:=SI.ins_ok hI ho
  obtain ⟨nv,n1,n2⟩:=SI.ins_ok hI hn
  obtain ⟨on,rfl⟩:=nonneg_ok (bdOf_ok hcc h) g1 o1
  obtain ⟨nn,rfl⟩:=nonneg_ok (bdOf_ok hcc h) g2 n1
  have hflat:=fun κ (hκ:κ∈G.lay)=>lall_iff.1 g3.2 κ hκ
  have g3:=g3.1
  have hlay:0 < G.lay.length:=by rw [llen_eq] at g3;simpa [Nat.blt_eq] using g3
  have hr:∃ b,(match get I.km G.a with | some r=>r | none=>SR.k G.a).den C.σ ρ=some b∧(I.sta C.σ ρ).kv G.a=b:=by
   show ∃ b,_∧I.kv C.σ ρ G.a=b
   unfold In.kv
   cases hk:get I.km G.a with
   | none=>exact ⟨_,rfl,rfl⟩
   | some r=>
     obtain ⟨b,hb⟩:=hI.k _ _ hk
     exact ⟨b,hb,by simp [hb]⟩
  obtain ⟨b,hb,hkv⟩:=hr
  generalize (match get I.km G.a with | some r=>r | none=>SR.k G.a)=r at hb g4
  have hx:(SV.sl r o n (.c 0)).Is C.σ ρ (.slice (some ⟨b,on,none⟩) nn 0):=by
   simp only [SV.Is]
   exact ⟨b,on,nn,0,hb,o1,n1,rfl,rfl⟩
  have hv:=viewA_ok hcc h hlay hx
  split at g4
  ·rename_i c j m hvw
   rw [hvw] at hv
   simp only [cond_true_iff] at g4
   have hm:=SI.beq_eq g4.2
   subst hm
   have he':=SI.beq_eq g4.1
   subst he'
   obtain ⟨a,cap,mv,cv,jv,us,hu,h1,h2,h3,h4,h5,h6,h7⟩:=hv
   injection hu with hu1 hu2 hu3
   subst hu1 hu2 hu3
   obtain ⟨bv,b1,b2⟩:=baseC_ok hcc h1 h2 h3
   refine ⟨on,nn,by rw [← dynF_den (F:=ρ.fz),← hd];exact o2,by rw [← dynF_den (F:=ρ.fz),← hd];exact n2,fun i hi f κ hκ=>?_⟩
   have hval:(I.sta C.σ ρ).iv G.c=bv:=by
    show I.iv C.σ ρ G.c=bv
    unfold In.iv
    rw [he];simp [b1]
   rw [hkv,hval,val_sta,b2 i hi κ f]
   have:=h6 _ rfl _ _ ((KR.flat (hflat κ (List.mem_of_getElem? hκ))).1 (h5 i hi f κ hκ))
   rw [addr_add] at this
   rw [Nat.add_assoc];exact this
  ·cases g4
 ·cases hg
theorem idMap_get (k n i:Nat):get (idMap k n) i=if i < n then some (k+i) else none:=by
 induction n with
 | zero=>rfl
 | succ n ih=>
   show get ((n,Nat.add k n)::idMap k n) i=_
   rw [get_cons,ih]
   by_cases h:n=i
   ·subst h;simp
   ·rw [if_neg h]
    by_cases h2:i < n
    ·rw [if_pos h2,if_pos (by omega)]
    ·rw [if_neg h2,if_neg (by omega)]
theorem ddMap_get (k n i:Nat):get (ddMap k n) i=if i < n then some (.d (k+i)) else none:=by
 induction n with
 | zero=>rfl
 | succ n ih=>
   show get ((n,SI.d (Nat.add k n))::ddMap k n) i=_
   rw [get_cons,ih]
   by_cases h:n=i
   ·subst h;simp
   ·rw [if_neg h]
    by_cases h2:i < n
    ·rw [if_pos h2,if_pos (by omega)]
    ·rw [if_neg h2,if_neg (by omega)]
theorem bksIns_mem {k:Nat}:∀ {l l':List (Nat×Bk)},bksIns I k l=some l'→∀ i bk',get l' i=some bk'→∃ i0 bk,i=k+i0∧(i0,bk)∈l∧bk.ins I=some bk'
 | [],l',h,i,bk',hg=>by cases h;cases hg
 | p::l,l',h,i,bk',hg=>by
   have h':(match p.2.ins I,bksIns I k l with | some bk,some r=>some ((Nat.add k p.1,bk)::r) | _,_=>none)=some l':=h
   split at h'
   ·rename_i bk r hb hr
    cases h'
    rw [get_cons] at hg
    split at hg
    ·rename_i hi
     cases hg
     exact ⟨p.1,p.2,hi.symm,by simp,hb⟩
    ·obtain ⟨i0,b0,h1,h2,h3⟩:=bksIns_mem hr i bk' hg
     exact ⟨i0,b0,h1,List.mem_cons_of_mem _ h2,h3⟩
   ·cases h'
theorem fcsIns_mem:∀ {l l':List (SB×Bool)},fcsIns I l=some l'→∀ p'∈l',∃ p∈l,p.1.ins I=some p'.1∧p.2=p'.2
 | [],l',h,p',hp=>by cases h;cases hp
 | p::l,l',h,p',hp=>by
   have h':(match p.1.ins I,fcsIns I l with | some q,some r=>some ((q,p.2)::r) | _,_=>none)=some l':=h
   split at h'
   ·rename_i q r hq hr
    cases h'
    rcases List.mem_cons.1 hp with rfl | hp
    ·exact ⟨p,by simp,hq,rfl⟩
    ·obtain ⟨p0,h1,h2⟩:=fcsIns_mem hr p' hp
     exact ⟨p0,List.mem_cons_of_mem _ h1,h2⟩
   ·cases h'
theorem out_rel (hcc:cc.Ok C) (h:HpRel C hc w0 ρ H w) (hI:I.Def C.σ ρ) {o:Out} {w':World} {u:Value} (hb:Below w.heap.size w w') (ho:OutIs (I.sta C.σ ρ) ρ.fz w w' u o) {z:SV} {hp:List (Nat×Bk)} {fs:List (SB×Bool)}
  (h1:SV.ins (outI H I o) o.z=some z) (h2:bksIns (outI H I o) H.nb o.hp=some hp) (h3:fcsIns (outI H I o) o.fs=some fs) (h4:ltAll o.nb (keys o.hp)=true) :
  ∃ ρ',Tn ρ H w ρ' { heap:=lapp hp H.heap,nb:=Nat.add H.nb o.nb,nd:=Nat.add H.nd o.nd,nv:=H.nv,facts:=lapp fs H.facts,phis:=H.phis,bd:=lrnF fs H.bd } w'∧z.Is C.σ ρ' u∧
    HpRel C hc w0 ρ' { heap:=lapp hp H.heap,nb:=Nat.add H.nb o.nb,nd:=Nat.add H.nd o.nd,nv:=H.nv,facts:=lapp fs H.facts,phis:=H.phis,bd:=lrnF fs H.bd } w':=by
 obtain ⟨ρo,f1,f2,f3,f4,f5,f6,f7,f9,f8⟩:=ho
 obtain ⟨ρ',hρ'⟩:∃ ρ':Dyn,ρ'={ bl:=fun i=>if i < H.nb then ρ.bl i else if i < H.nb+o.nb then ρo.bl (i - H.nb) else none,di:=fun i=>if i < H.nd then ρ.di i else if i < H.nd+o.nd then ρo.di (i - H.nd) else none,dv:=ρ.dv,fz:=fun b=>match ρ.fz b with | some o=>some o | none=>ρo.fz b }:=⟨_,rfl⟩
 have bl1:∀ i,i < H.nb→ρ'.bl i=ρ.bl i:=fun i hi=>by rw [hρ'];simp only;rw [if_pos hi]
 have bl2:∀ i,i < o.nb→ρ'.bl (H.nb+i)=ρo.bl i:=fun i hi=>by
  rw [hρ'];simp only;rw [if_neg (by omega),if_pos (by omega)];congr 1;omega
 have bl3:∀ i,H.nb+o.nb≤i→ρ'.bl i=none:=fun i hi=>by rw [hρ'];simp only;rw [if_neg (by omega),if_neg (by omega)]
 have di1:∀ i,i < H.nd→ρ'.di i=ρ.di i:=fun i hi=>by rw [hρ'];simp only;rw [if_pos hi]
 have di2:∀ i,i < o.nd→ρ'.di (H.nd+i)=ρo.di i:=fun i hi=>by
  rw [hρ'];simp only;rw [if_neg (by omega),if_pos (by omega)];congr 1;omega
 have di3:∀ i,H.nd+o.nd≤i→ρ'.di i=none:=fun i hi=>by rw [hρ'];simp only;rw [if_neg (by omega),if_neg (by omega)]
 have fz1:∀ b ob,ρ.fz b=some ob→ρ'.fz b=some ob:=fun b ob e=>by rw [hρ'];simp only;rw [e]
 have fz2:∀ b ob,ρo.fz b=some ob→ρ'.fz b=some ob:=fun b ob e=>by
  rw [hρ'];simp only
  cases h1:ρ.fz b with
  | none=>exact e
  | some o1=>
    have q1:=(h.fz b o1 h1).1.1
    have q2:=hb.block b (Array.getElem?_eq_some_iff.1 q1).1
    rw [(f9 b ob e).1,q1] at q2
    exact q2.symm
 have fz3:∀ b ob,ρ'.fz b=some ob→ρ.fz b=some ob∨(ρ.fz b=none∧ρo.fz b=some ob):=fun b ob e=>by
  rw [hρ'] at e;simp only at e
  cases h1:ρ.fz b with
  | none=>rw [h1] at e;exact .inr ⟨rfl,e⟩
  | some o1=>rw [h1] at e;exact .inl e
 have hag:Dyn.Ag H ρ ρ':=⟨bl1,di1,fun i _=>by rw [hρ'],fz1⟩
 have hle:ρ.Le ρ':=Dyn.Ag.le h hag
 have hI2:(outI H I o).Def C.σ ρ':=by
  refine ⟨fun j e he=>?_,fun j e he=>?_,fun j e he=>?_,fun j r he=>?_⟩
  ·obtain ⟨x,hx⟩:=hI.i j e he;exact ⟨x,SI.den_mono hle _ _ hx⟩
  ·obtain ⟨x,hx⟩:=hI.b j e he;exact ⟨x,SB.den_mono hle _ _ hx⟩
  ·have he':get (ddMap H.nd o.nd) j=some e:=he
   rw [ddMap_get] at he'
   split at he'
   ·rename_i hj
    cases he'
    obtain ⟨n,hn⟩:=f6 j hj
    exact ⟨n,by simp only [SI.den];rw [di2 j hj,hn];rfl⟩
   ·cases he'
  ·obtain ⟨x,hx⟩:=hI.k j r he;exact ⟨x,SR.den_mono hle _ _ hx⟩
 have hsta:(outI H I o).sta C.σ ρ'=I.sta C.σ ρ:=by
  have e1:(outI H I o).iv C.σ ρ'=I.iv C.σ ρ:=by
   funext j
   show (match get I.s.i j with | some e=>(e.den C.σ ρ').getD 0 | none=>C.σ.iv j)=(match get I.s.i j with | some e=>(e.den C.σ ρ).getD 0 | none=>C.σ.iv j)
   cases hg:get I.s.i j with
   | none=>rfl
   | some e=>obtain ⟨x,hx⟩:=hI.i j e hg;simp [hx,SI.den_mono hle _ _ hx]
  have e2:(outI H I o).bv C.σ ρ'=I.bv C.σ ρ:=by
   funext j
   show (match get I.s.b j with | some e=>(e.den C.σ ρ').getD false | none=>C.σ.bv j)=(match get I.s.b j with | some e=>(e.den C.σ ρ).getD false | none=>C.σ.bv j)
   cases hg:get I.s.b j with
   | none=>rfl
   | some e=>obtain ⟨x,hx⟩:=hI.b j e hg;simp [hx,SB.den_mono hle _ _ hx]
  have e3:(outI H I o).kv C.σ ρ'=I.kv C.σ ρ:=by
   funext j
   show (match get I.km j with | some r=>(r.den C.σ ρ').getD 0 | none=>C.σ.kv j)=(match get I.km j with | some r=>(r.den C.σ ρ).getD 0 | none=>C.σ.kv j)
   cases hg:get I.km j with
   | none=>rfl
   | some r=>obtain ⟨x,hx⟩:=hI.k j r hg;simp [hx,SR.den_mono hle _ _ hx]
  unfold In.sta
  rw [e1,e2,e3]
 have hdyn:(outI H I o).dyn C.σ ρ'={ ρo with fz:=ρ'.fz }:=by
  have e1:(fun i=>(get (idMap H.nb o.nb) i).bind ρ'.bl)=ρo.bl:=by
   funext i
   rw [idMap_get]
   by_cases hi:i < o.nb
   ·rw [if_pos hi];exact bl2 i hi
   ·rw [if_neg hi]
    cases hb:ρo.bl i with
    | none=>rfl
    | some b=>exact absurd (f4 i b hb).1 hi
  have e2:(fun i=>(get (ddMap H.nd o.nd) i).bind fun e=>(e.den C.σ ρ').bind toN)=ρo.di:=by
   funext i
   rw [ddMap_get]
   by_cases hi:i < o.nd
   ·rw [if_pos hi]
    simp only [Option.bind_some,SI.den]
    rw [di2 i hi]
    cases ρo.di i<;>rfl
   ·rw [if_neg hi]
    cases hb:ρo.di i with
    | none=>rfl
    | some b=>exact absurd (f5 i b hb) hi
  have e3:(fun _=>none)=ρo.dv:=by funext i;exact (f7 i).symm
  show Dyn.mk (fun i=>(get (idMap H.nb o.nb) i).bind ρ'.bl) (fun i=>(get (ddMap H.nd o.nd) i).bind fun e=>(e.den C.σ ρ').bind toN) (fun _=>none) ρ'.fz={ ρo with fz:=ρ'.fz }
  rw [e1,e2,e3]
 have hlo:ρo.Le { ρo with fz:=ρ'.fz }:=⟨fun _ _ h=>h,fun _ _ h=>h,fun _ _ h=>h,fz2⟩
 have hz:z.Is C.σ ρ' u:=by
  have:=(SV.ins_is hI2 o.z z u h1).2
  rw [hsta,hdyn] at this
  exact this (SV.is_mono hlo _ _ f8)
 have hhp:∀ i bk',get hp i=some bk'→∃ i0 bk b obj,i=H.nb+i0∧i0 < o.nb∧(i0,bk)∈o.hp∧bk'.live=true∧ρ'.bl i=some b∧w.heap.size≤b∧w'.heap[b]? = some obj∧bk'.Is C.σ ρ' obj:=by
  intro i bk' hg
  obtain ⟨i0,bk,rfl,m1,m2⟩:=bksIns_mem h2 i bk' hg
  obtain ⟨q1,b,obj,q2,q3,q4⟩:=f2 i0 bk m1
  obtain ⟨r1,r2⟩:=Bk.ins_is (o:=obj) hI2 m2
  rw [hsta,hdyn] at r1
  have hlt:=(f4 i0 b q2).1
  exact ⟨i0,bk,b,obj,rfl,hlt,m1,by rw [r2];exact q1,by rw [bl2 i0 hlt];exact q2,(f4 i0 b q2).2.1,q3,r1.2 (Bk.is_mono hlo q4)⟩
 have hown:∀ b,Own ρ' (lapp hp H.heap) b→(Own ρ H.heap b)∨(w.heap.size≤b):=by
  rintro b ⟨i,bk,e1,e2,e3⟩
  rw [lapp_eq,get_append] at e1
  cases hg:get hp i with
  | some bk'=>
    obtain ⟨i0,bk0,b',obj,_,_,_,_,q1,q2,_⟩:=hhp i bk' hg
    rw [e3] at q1;cases q1
    exact .inr q2
  | none=>
    rw [hg] at e1
    have hlt:=h.hb i bk e1
    rw [bl1 i hlt] at e3
    exact .inl ⟨i,bk,e1,e2,e3⟩
 have hfs:∀ p∈fs,p.1.den C.σ ρ'=some p.2:=fun p hp=>by
  obtain ⟨p0,m1,m2,m3⟩:=fcsIns_mem h3 p hp
  have:=SB.ins_den hI2 m2
  rw [hsta,hdyn] at this
  rw [this,← m3]
  exact SB.den_mono hlo _ _ (f1 p0 m1)
 refine ⟨ρ',⟨hag,⟨⟨hp,by simp only [lapp_eq]⟩,Nat.le_add_right _ _,Nat.le_add_right _ _,Nat.le_refl _,⟨fs,by simp only [lapp_eq]⟩,⟨[],rfl⟩⟩,hb.size,fun l hl i b e=>?_,fun l hl b hlt _=>hb.block b hlt⟩,hz,⟨fun i bk e1 e2=>?_,fun i i' bk bk' b e1 e2 e3 e4 e5 e6=>?_,fun i hi=>bl3 i hi,fun i hi=>di3 i hi,fun i hi=>?_,fun i b e=>?_,fun i bk e=>?_,fun b ob e=>?_,fun b hbw=>?_,fun p hp=>?_,lrnF_ok h.bd hfs,fun j hj=>?_,fun b ob e=>?_,hb.os.trans h.os,hb.tape.trans h.tape,hb.output.trans h.output,Nat.le_trans h.size hb.size⟩⟩
 ·rcases Nat.lt_or_ge i H.nb with hi | hi
  ·rw [bl1 i hi] at e;exact .inl e
  ·rcases Nat.lt_or_ge i (H.nb+o.nb) with hi2 | hi2
   ·have:i=H.nb+(i - H.nb):=by omega
    rw [this,bl2 _ (by omega)] at e
    exact .inr (.inl (f4 _ b e).2.1)
   ·rw [bl3 i hi2] at e;cases e
 ·rw [lapp_eq,get_append] at e1
  cases hg:get hp i with
  | some bk'=>
    rw [hg] at e1;cases e1
    obtain ⟨i0,bk0,b,obj,_,_,_,_,q1,_,q3,q4⟩:=hhp i _ hg
    exact ⟨b,obj,q1,q3,q4⟩
  | none=>
    rw [hg] at e1
    obtain ⟨b,obj,q1,q2,q3⟩:=h.blk i bk e1 e2
    exact ⟨b,obj,hle.bl _ _ q1,by rw [hb.block b (h.lt i b q1)];exact q2,Bk.is_mono hle q3⟩
 ·rw [lapp_eq,get_append] at e1 e3
  cases hg:get hp i with
  | some b1=>
    obtain ⟨i0,bk0,b0,obj0,j1,j2,j3,_,q1,q2,_⟩:=hhp i _ hg
    rw [e5] at q1;cases q1
    cases hg':get hp i' with
    | some b2=>
      obtain ⟨i0',bk0',b0',obj0',j1',j2',j3',_,q1',q2',_⟩:=hhp i' _ hg'
      rw [e6] at q1';cases q1'
      subst j1 j1'
      rw [bl2 _ j2] at e5
      rw [bl2 _ j2'] at e6
      rw [f3 i0 i0' bk0 bk0' b j3 j3' e5 e6]
    | none=>
      rw [hg'] at e3
      have hlt:=h.hb i' bk' e3
      rw [bl1 i' hlt] at e6
      have:=h.lt i' b e6
      omega
  | none=>
    rw [hg] at e1
    have hlt:=h.hb i bk e1
    rw [bl1 i hlt] at e5
    cases hg':get hp i' with
    | some b2=>
      obtain ⟨i0',bk0',b0',obj0',j1',j2',j3',_,q1',q2',_⟩:=hhp i' _ hg'
      rw [e6] at q1';cases q1'
      have:=h.lt i b e5
      omega
    | none=>
      rw [hg'] at e3
      have hlt':=h.hb i' bk' e3
      rw [bl1 i' hlt'] at e6
      exact h.inj i i' bk bk' b e1 e2 e3 e4 e5 e6
 ·rw [hρ'];exact h.fv i hi
 ·rcases Nat.lt_or_ge i H.nb with hi | hi
  ·rw [bl1 i hi] at e;exact Nat.lt_of_lt_of_le (h.lt i b e) hb.size
  ·rcases Nat.lt_or_ge i (H.nb+o.nb) with hi2 | hi2
   ·have:i=H.nb+(i - H.nb):=by omega
    rw [this,bl2 _ (by omega)] at e
    exact (f4 _ b e).2.2
   ·rw [bl3 i hi2] at e;cases e
 ·rw [lapp_eq,get_append] at e
  cases hg:get hp i with
  | some bk'=>
    obtain ⟨i0,bk0,b0,obj0,j1,j2,_⟩:=hhp i _ hg
    show i < H.nb+o.nb
    omega
  | none=>
    rw [hg] at e
    have:=h.hb i bk e
    show i < H.nb+o.nb
    omega
 ·have:=h.hid b ob e
  rw [hb.block b (Array.getElem?_eq_some_iff.1 this).1];exact this
 ·rcases hown b hbw with hw | hw
  ·exact h.nh b hw
  ·exact ⟨h.hc_lt hw,.inl (Nat.le_trans h.size hw)⟩
 ·have hp:p∈fs++H.facts:=by simpa only [lapp_eq] using hp
  rcases List.mem_append.1 hp with hp | hp
  ·exact hfs p hp
  ·exact SB.den_mono hle _ _ (h.facts p hp)
 ·refine C.mono j ρ _ _ _ hle ?_ (h.phis j hj)
  rintro b ob ⟨u1,u2,u3⟩
  have hlt:=(Array.getElem?_eq_some_iff.1 u1).1
  refine ⟨by rw [hb.block b hlt];exact u1,u2,fun hw=>?_⟩
  rcases hown b hw with hw | hw
  ·exact u3 hw
  ·omega
 ·have old:ρ.fz b=some ob→Un hc ρ' (lapp hp H.heap) w' b ob∧(C.F0 b=some ob∨w0.heap.size≤b∨C.X b):=fun e=>by
   obtain ⟨⟨u1,u2,u3⟩,u4⟩:=h.fz b ob e
   have hlt:=(Array.getElem?_eq_some_iff.1 u1).1
   refine ⟨⟨by rw [hb.block b hlt];exact u1,u2,fun hw=>?_⟩,u4⟩
   rcases hown b hw with hw | hw
   ·exact u3 hw
   ·omega
  rcases fz3 b ob e with e | ⟨e0,e⟩
  ·exact old e
  ·obtain ⟨u1,u2,u3⟩:=f9 b ob e
   rcases u2 with u2 | u2
   ·exact old u2
   ·refine ⟨⟨u1,h.hc_lt u2,?_⟩,.inr (.inl (Nat.le_trans h.size u2))⟩
    rintro ⟨i,bk,w1,w2,w3⟩
    rw [lapp_eq,get_append] at w1
    cases hg:get hp i with
    | some bk'=>
      obtain ⟨i0,bk0,b0,obj0,j1,j2,j3,_⟩:=hhp i _ hg
      subst j1
      rw [bl2 _ j2] at w3
      exact u3 i0 bk0 j3 w3
    | none=>
      rw [hg] at w1
      have hlt:=h.hb i bk w1
      rw [bl1 i hlt] at w3
      have:=h.lt i b w3
      omega
theorem outM_ok (hcc:cc.Ok C) (h:HpRel C hc w0 ρ H w) (hI:I.Def C.σ ρ) (hd:I.dyn C.σ ρ=dynF ρ.fz):∀ {l:List Out},(∀ z H',outM cc H I l=.ok z H'→∃ o∈l,(∀ p∈o.cs,p.1.den (I.sta C.σ ρ) dyn0=some p.2)∧∃ hp fs,SV.ins (outI H I o) o.z=some z∧bksIns (outI H I o) H.nb o.hp=some hp∧fcsIns (outI H I o) o.fs=some fs∧ltAll o.nb (keys o.hp)=true∧
   H'={ heap:=lapp hp H.heap,nb:=Nat.add H.nb o.nb,nd:=Nat.add H.nd o.nd,nv:=H.nv,facts:=lapp fs H.facts,phis:=H.phis,bd:=lrnF fs H.bd })∧∀ q,outM cc H I l=.ask q→∃ b,q.den C.σ ρ=some b
 | []=>⟨(fun z H' hh=>by cases hh),(fun q hh=>by cases hh)⟩
 | o::l=>by
   have ih:=outM_ok hcc h hI hd (l:=l)
   have e:outM cc H I (o::l)=(match factsM cc H I o.cs with
    | .yes=>match SV.ins (outI H I o) o.z,bksIns (outI H I o) H.nb o.hp,fcsIns (outI H I o) o.fs with
      | some z,some hp,some fs=>bif ltAll o.nb (keys o.hp) then .ok z { heap:=lapp hp H.heap,nb:=Nat.add H.nb o.nb,nd:=Nat.add H.nd o.nd,nv:=H.nv,facts:=lapp fs H.facts,phis:=H.phis,bd:=lrnF fs H.bd } else .no
      | _,_,_=>.no
    | .ask p=>.ask p
    | .no=>outM cc H I l):=rfl
   rw [e]
   have hf:=factsM_ok hcc h hI (F:=o.cs)
   cases hfm:factsM cc H I o.cs with
   | no=>exact ⟨fun z H' hh=>by
     obtain ⟨o',m,r⟩:=ih.1 z H' hh
     exact ⟨o',List.mem_cons_of_mem _ m,r⟩,ih.2⟩
   | ask p=>exact ⟨(fun z H' hh=>by cases hh),fun q hh=>by cases hh;exact hf.2 p hfm⟩
   | yes=>
     have hcs:=hf.1 hfm
     rw [hd] at hcs
     simp only [dynF_denB] at hcs
     dsimp only
     refine ⟨fun z H' hh=>?_,fun q hh=>?_⟩
     ·split at hh
      ·rename_i z' hp fs e1 e2 e3
       cases hl:ltAll o.nb (keys o.hp) with
       | false=>rw [hl] at hh;cases hh
       | true=>rw [hl] at hh;cases hh;exact ⟨o,by simp,hcs,hp,fs,e1,e2,e3,hl,rfl⟩
      ·cases hh
     ·split at hh
      ·cases hl:ltAll o.nb (keys o.hp)<;>(rw [hl] at hh;cases hh)
      ·cases hh
theorem Con.callOk {P:Program} {FI:FIx} {FB:FBx} {c:Con} (hok:c.Ok P FI FB) (hcc:cc.Ok C) (hP:cc.P=P) (hσ:∃ kv iv bv,C.σ=sta FI FB kv iv bv):CallOk cc C (c.ent cc).1 (c.ent cc).2:=by
 show CallOk cc C c.g (frzA cc c.A (Con.app0 cc c))
 refine CallOk.frz hcc ?_
 intro hc w0 ρ H w args us hh ha
 obtain ⟨kv0,iv0,bv0,hσ⟩:=hσ
 show (∀ z H',Con.app0 cc c H args=.ok z H'→_)∧(∀ p,Con.app0 cc c H args=.ask p→_)
 unfold Con.app0
 cases hg:gvsM cc H c.G (mVL c.vs c.A args ⟨⟨[],[]⟩,[],[],[]⟩) with
 | no=>exact ⟨(fun z H' h=>by cases h),(fun q h=>by cases h)⟩
 | ask p=>
   refine ⟨(fun z H' h=>by cases hs:p.stat<;>simp [hs] at h),fun q h=>?_⟩
   cases hs:p.stat with
   | false=>simp [hs] at h
   | true=>
     simp only [hs,cond_true,Ap.ask.injEq] at h
     subst h
     exact SB.stat_den hs
 | ok I=>
   dsimp only
   cases h0:lall (gvC cc H I) c.G with
   | false=>exact ⟨(fun z H' h=>by cases h),(fun q h=>by cases h)⟩
   | true=>
   cases h1:I.chk cc H with
   | false=>exact ⟨(fun z H' h=>by cases h),(fun q h=>by cases h)⟩
   | true=>
   cases h2:isEm I.bm with
   | false=>exact ⟨(fun z H' h=>by cases h),(fun q h=>by cases h)⟩
   | true=>
   cases h3:isEm I.dm with
   | false=>exact ⟨(fun z H' h=>by cases h),(fun q h=>by cases h)⟩
   | true=>
   simp only [cond_true]
   cases h4:SV.insL I c.A with
   | none=>exact ⟨(fun z H' h=>by cases h),(fun q h=>by cases h)⟩
   | some A'=>
     dsimp only
     cases h5:SV.cmpL A' args with
     | none=>exact ⟨(fun z H' h=>by cases h),(fun q h=>by cases h)⟩
     | some L=>
       cases L with
       | cons=>exact ⟨(fun z H' h=>by cases h),(fun q h=>by cases h)⟩
       | nil=>
         dsimp only
         cases h6:bdFk cc H I c.B with
         | false=>exact ⟨(fun z H' h=>by cases h),(fun q h=>by cases h)⟩
         | true=>
           simp only [cond_true]
           have hI:=In.chk_ok hcc hh h1
           have hd:=dyn_nil h2 h3 C.σ ρ
           have hf:=factsM_ok hcc hh hI (F:=c.F)
           cases h7:factsM cc H I c.F with
           | no=>exact ⟨(fun z H' h=>by cases h),(fun q h=>by cases h)⟩
           | ask p=>exact ⟨(fun z H' h=>by cases h),fun q h=>by cases h;exact hf.2 p h7⟩
           | yes=>
             dsimp only
             have hF:=hf.1 h7
             rw [hd] at hF
             simp only [dynF_denB] at hF
             have hout:=outM_ok hcc hh hI hd (l:=c.os)
             refine ⟨fun z H' h=>?_,hout.2⟩
             obtain ⟨o,m1,m2,hp,fs,m3,m4,m5,m6,rfl⟩:=hout.1 z H' h
             have hsta:I.sta C.σ ρ=sta FI FB ⟨I.kv C.σ ρ,kv0.s⟩ (I.iv C.σ ρ) (I.bv C.σ ρ):=by
              unfold In.sta
              rw [hσ];rfl
             have hA:SV.IsL (I.sta C.σ ρ) (dynF ρ.fz) c.A us:=by
              have:=SV.cmpL_ok A' args [] us h5 (fun _ h=>by cases h) ha
              have:=(SV.insL_is hI c.A A' us h4).1 this
              rwa [hd] at this
             have hB:InB c.B (I.iv C.σ ρ):=bdFk_ok hcc hh hI h6
             have hG:∀ G∈c.G,GvIs (I.sta C.σ ρ) w G:=fun G hG=>gvC_ok hcc hh hI hd (lall_iff.1 h0 G hG)
             have hcall:=hok ⟨I.kv C.σ ρ,kv0.s⟩ (I.iv C.σ ρ) (I.bv C.σ ρ) hB (by rw [← hsta];exact hF) w (by rw [← hsta];exact hG) ρ.fz (fun b o e=>(hh.fz b o e).1.1) us (by rw [← hsta];exact hA)
             rw [← hP,← hsta] at hcall
             intro cs
             obtain ⟨e,w',fr,⟨u,rfl,hbl,hos⟩,k1,k2,k3⟩:=hcall cs
             obtain ⟨ρ',g1,g2,g3⟩:=out_rel hcc hh hI hbl (hos o m1 m2) m3 m4 m5 m6
             exact ⟨.returned u,w',fr,⟨ρ',u,rfl,g1,g2,g3⟩,k1,k2,k3⟩
end
def EntsFor (P:Program) (FI:FIx) (FB:FBx) (E:Cc→Ents):Prop:=
 ∀ (cc:Cc) (C:Ct),cc.Ok C→cc.P=P→(∃ kv iv bv,C.σ=sta FI FB kv iv bv)→EntsOk cc C (E cc)
theorem EntsFor.nil {P:Program} {FI:FIx} {FB:FBx}:EntsFor P FI FB (fun _=>[]):=fun _ _ _ _ _ _ _ h=>by cases h
theorem EntsFor.cons {P:Program} {FI:FIx} {FB:FBx} {E:Cc→Ents} {c:Con} (h:c.Ok P FI FB) (hE:EntsFor P FI FB E):EntsFor P FI FB (fun cc=>c.ent cc::E cc):=by
 intro cc C hcc hP hσ f app hm
 rcases List.mem_cons.1 hm with e | hm
 ·cases e;exact c.callOk h hcc hP hσ
 ·exact hE cc C hcc hP hσ f app hm
end
end Go.Sx
