/- A symbolic executor: a state, seen as an instance of a template: the template's parts, with what its variables stand for. -/
import Derived.Test.YtfgdpkceoadgjaaSxS
namespace Go.Sx
set_option linter.unusedSectionVars false
set_option linter.unusedVariables false
set_option linter.unusedSimpArgs false
open Go.RowKit
structure Sb where
 i:List (Nat×SI)
 b:List (Nat×SB)
structure In where
 s:Sb
 bm:List (Nat×Nat)
 dm:List (Nat×SI)
 km:List (Nat×SR)
def toN:Int→Option Nat
 | .ofNat n=>some n
 | .negSucc _=>none
noncomputable def In.iv (I:In) (σ:Sta) (ρ:Dyn):Nat→Int:=fun j=>match get I.s.i j with | some e=>(e.den σ ρ).getD 0 | none=>σ.iv j
noncomputable def In.bv (I:In) (σ:Sta) (ρ:Dyn):Nat→Bool:=fun j=>match get I.s.b j with | some e=>(e.den σ ρ).getD false | none=>σ.bv j
noncomputable def In.kv (I:In) (σ:Sta) (ρ:Dyn):Nat→Nat:=fun j=>match get I.km j with | some r=>(r.den σ ρ).getD 0 | none=>σ.kv j
noncomputable def In.sta (I:In) (σ:Sta) (ρ:Dyn):Sta:={ iv:=I.iv σ ρ,bv:=I.bv σ ρ,sv:=σ.sv,vv:=σ.vv,kv:=I.kv σ ρ,lv:=σ.lv,op:=σ.op,fi:=σ.fi,fb:=σ.fb }
noncomputable def In.dyn (I:In) (σ:Sta) (ρ:Dyn):Dyn:={ bl:=fun i=>(get I.bm i).bind ρ.bl,di:=fun i=>(get I.dm i).bind fun e=>(e.den σ ρ).bind toN,dv:=fun _=>none }
structure In.Def (I:In) (σ:Sta) (ρ:Dyn):Prop where
 i:∀ j e,get I.s.i j=some e→∃ x,e.den σ ρ=some x
 b:∀ j e,get I.s.b j=some e→∃ x,e.den σ ρ=some x
 d:∀ j e,get I.dm j=some e→∃ n:Nat,e.den σ ρ=some (Int.ofNat n)
 k:∀ j r,get I.km j=some r→∃ x,r.den σ ρ=some x
noncomputable def SI.mk (f:IB) (a b:SI):SI:=match f with | .add=>SI.add a b | .sub=>SI.sub a b | .mul=>SI.mul a b | f=>.op f a b
theorem SI.mk_den {σ:Sta} {ρ:Dyn} {f:IB} {x y:SI} {a b:Int} (h1:x.den σ ρ=some a) (h2:y.den σ ρ=some b):(SI.mk f x y).den σ ρ=some (f.eval a b):=by
 cases f
 case add=>exact SI.add_den h1 h2
 case sub=>exact SI.sub_den h1 h2
 case mul=>exact SI.mul_den h1 h2
 all_goals simp [SI.mk,SI.den,h1,h2]
noncomputable def SI.ins (I:In) (x:SI):Option SI:=
 SI.rec (motive:=fun _=>Option SI) (fun n=>some (.c n)) (fun i=>match get I.s.i i with | some e=>some e | none=>some (.v i)) (fun i=>get I.dm i)
  (fun f _ _ a b=>match a,b with | some a,some b=>some (SI.mk f a b) | _,_=>none)
  (fun k _ a=>match a with | some a=>some (.wk k a) | none=>none)
  (fun f _ _ _ _ _ _ a b c d e g=>match a,b,c,d,e,g with | some a,some b,some c,some d,some e,some g=>some (.ap f a b c d e g) | _,_,_,_,_,_=>none) x
section
variable {I:In} {σ:Sta} {ρ:Dyn}
theorem SI.ins_ok (hI:I.Def σ ρ):∀ {x y:SI},x.ins I=some y→∃ a,y.den σ ρ=some a∧x.den (I.sta σ ρ) (I.dyn σ ρ)=some a:=by
 intro x
 induction x with
 | c n=>intro y e;cases e;exact ⟨n,rfl,rfl⟩
 | v i=>
   intro y e
   have e':(match get I.s.i i with | some e=>some e | none=>some (SI.v i))=some y:=e
   cases hg:get I.s.i i with
   | some z=>
     rw [hg] at e';cases e'
     obtain ⟨a,ha⟩:=hI.i i _ hg
     refine ⟨a,ha,?_⟩
     show some (I.iv σ ρ i)=some a
     unfold In.iv
     simp [hg,ha]
   | none=>
     rw [hg] at e';cases e'
     refine ⟨σ.iv i,rfl,?_⟩
     show some (I.iv σ ρ i)=_
     unfold In.iv
     rw [hg]
 | d i=>
   intro y e
   have e':get I.dm i=some y:=e
   obtain ⟨n,hn⟩:=hI.d i y e'
   refine ⟨_,hn,?_⟩
   show ((get I.dm i).bind fun e=>(e.den σ ρ).bind toN).map Int.ofNat=_
   rw [e'];simp [hn,toN]
 | op f p q hp hq=>
   intro y e
   have e':(match p.ins I,q.ins I with | some a,some b=>some (SI.mk f a b) | _,_=>none)=some y:=e
   cases h1:p.ins I with
   | none=>rw [h1] at e';cases e'
   | some p'=>
     cases h2:q.ins I with
     | none=>rw [h1,h2] at e';cases e'
     | some q'=>
       rw [h1,h2] at e';cases e'
       obtain ⟨a,a1,a2⟩:=hp h1
       obtain ⟨b,b1,b2⟩:=hq h2
       exact ⟨f.eval a b,SI.mk_den a1 b1,by simp [SI.den,a2,b2]⟩
 | wk k p hp=>
   intro y e
   have e':(match p.ins I with | some a=>some (SI.wk k a) | none=>none)=some y:=e
   cases h1:p.ins I with
   | none=>rw [h1] at e';cases e'
   | some p'=>
     rw [h1] at e';cases e'
     obtain ⟨a,a1,a2⟩:=hp h1
     exact ⟨k.wrap a,by simp [SI.den,a1],by simp [SI.den,a2]⟩
 | ap f p0 p1 p2 p3 p4 p5 i0 i1 i2 i3 i4 i5=>
   intro y ee
   have e':(match p0.ins I,p1.ins I,p2.ins I,p3.ins I,p4.ins I,p5.ins I with | some r0,some r1,some r2,some r3,some r4,some r5=>some (SI.ap f r0 r1 r2 r3 r4 r5) | _,_,_,_,_,_=>none)=some y:=ee
   cases h0:p0.ins I with
   | none=>rw [h0] at e';cases e'
   | some q0=>
   cases h1:p1.ins I with
   | none=>rw [h0,h1] at e';cases e'
   | some q1=>
   cases h2:p2.ins I with
   | none=>rw [h0,h1,h2] at e';cases e'
   | some q2=>
   cases h3:p3.ins I with
   | none=>rw [h0,h1,h2,h3] at e';cases e'
   | some q3=>
   cases h4:p4.ins I with
   | none=>rw [h0,h1,h2,h3,h4] at e';cases e'
   | some q4=>
   cases h5:p5.ins I with
   | none=>rw [h0,h1,h2,h3,h4,h5] at e';cases e'
   | some q5=>
     rw [h0,h1,h2,h3,h4,h5] at e';cases e'
     obtain ⟨x0,a0,b0⟩:=i0 h0
     obtain ⟨x1,a1,b1⟩:=i1 h1
     obtain ⟨x2,a2,b2⟩:=i2 h2
     obtain ⟨x3,a3,b3⟩:=i3 h3
     obtain ⟨x4,a4,b4⟩:=i4 h4
     obtain ⟨x5,a5,b5⟩:=i5 h5
     exact ⟨_,by simp only [SI.den,a0,a1,a2,a3,a4,a5,Option.bind_some];rfl,by simp only [SI.den,b0,b1,b2,b3,b4,b5,Option.bind_some];rfl⟩
theorem SI.ins_den (hI:I.Def σ ρ) {x y:SI} (h:x.ins I=some y):y.den σ ρ=x.den (I.sta σ ρ) (I.dyn σ ρ):=by
 obtain ⟨a,h1,h2⟩:=SI.ins_ok hI h
 rw [h1,h2]
noncomputable def SB.ins (I:In) (x:SB):Option SB:=
 SB.rec (motive:=fun _=>Option SB) (fun b=>some (.c b)) (fun i=>match get I.s.b i with | some e=>some e | none=>some (.v i))
  (fun x y=>match x.ins I,y.ins I with | some a,some b=>some (.lt a b) | _,_=>none)
  (fun x y=>match x.ins I,y.ins I with | some a,some b=>some (.le a b) | _,_=>none)
  (fun x y=>match x.ins I,y.ins I with | some a,some b=>some (.eq a b) | _,_=>none)
  (fun x y=>some (.seq x y))
  (fun f a b c d e g=>match (SI.ap f a b c d e g).ins I with | some (.ap f a b c d e g)=>some (.ap f a b c d e g) | _=>none)
  (fun _ a=>match a with | some a=>some (.not a) | none=>none)
  (fun _ _ a b=>match a,b with | some a,some b=>some (.and a b) | _,_=>none)
  (fun _ _ a b=>match a,b with | some a,some b=>some (.or a b) | _,_=>none) x
theorem SB.ins_ok (hI:I.Def σ ρ):∀ {p y:SB},p.ins I=some y→∃ x,y.den σ ρ=some x∧p.den (I.sta σ ρ) (I.dyn σ ρ)=some x:=by
 have two:∀ {p q:SI} {y:SB} {f:SI→SI→SB} {g:Int→Int→Bool},(∀ (σ:Sta) (ρ:Dyn) (a b:SI),(f a b).den σ ρ=(a.den σ ρ).bind fun x=>(b.den σ ρ).bind fun z=>some (g x z))→
   (match p.ins I,q.ins I with | some r0,some r1=>some (f r0 r1) | _,_=>none)=some y→∃ x,y.den σ ρ=some x∧(f p q).den (I.sta σ ρ) (I.dyn σ ρ)=some x:=by
  intro p q y f g hf e'
  cases h1:p.ins I with
  | none=>rw [h1] at e';cases e'
  | some p'=>
    cases h2:q.ins I with
    | none=>rw [h1,h2] at e';cases e'
    | some q'=>
      rw [h1,h2] at e';cases e'
      obtain ⟨a,a1,a2⟩:=SI.ins_ok hI h1
      obtain ⟨b,b1,b2⟩:=SI.ins_ok hI h2
      exact ⟨g a b,by rw [hf,a1,b1];rfl,by rw [hf,a2,b2];rfl⟩
 intro p
 induction p with
 | c n=>intro y e;cases e;exact ⟨n,rfl,rfl⟩
 | v i=>
   intro y e
   have e':(match get I.s.b i with | some e=>some e | none=>some (SB.v i))=some y:=e
   cases hg:get I.s.b i with
   | some z=>
     rw [hg] at e';cases e'
     obtain ⟨a,ha⟩:=hI.b i _ hg
     refine ⟨a,ha,?_⟩
     show some (I.bv σ ρ i)=some a
     unfold In.bv
     simp [hg,ha]
   | none=>
     rw [hg] at e';cases e'
     refine ⟨σ.bv i,rfl,?_⟩
     show some (I.bv σ ρ i)=_
     unfold In.bv
     rw [hg]
 | lt p q=>intro y e;exact two (f:=SB.lt) (g:=fun a b=>decide (a < b)) (fun _ _ _ _=>rfl) e
 | le p q=>intro y e;exact two (f:=SB.le) (g:=fun a b=>decide (a≤b)) (fun _ _ _ _=>rfl) e
 | eq p q=>intro y e;exact two (f:=SB.eq) (g:=fun a b=>decide (a=b)) (fun _ _ _ _=>rfl) e
 | seq p q=>intro y e;cases e;exact ⟨_,rfl,by cases p<;>cases q<;>rfl⟩
 | ap f p0 p1 p2 p3 p4 p5=>
   intro y e
   have e':(match (SI.ap f p0 p1 p2 p3 p4 p5).ins I with | some (.ap f r0 r1 r2 r3 r4 r5)=>some (SB.ap f r0 r1 r2 r3 r4 r5) | _=>none)=some y:=e
   cases hi:(SI.ap f p0 p1 p2 p3 p4 p5).ins I with
   | none=>rw [hi] at e';cases e'
   | some z=>
     have hi':(match p0.ins I,p1.ins I,p2.ins I,p3.ins I,p4.ins I,p5.ins I with | some r0,some r1,some r2,some r3,some r4,some r5=>some (SI.ap f r0 r1 r2 r3 r4 r5) | _,_,_,_,_,_=>none)=some z:=hi
     cases h0:p0.ins I with
     | none=>rw [h0] at hi';cases hi'
     | some q0=>
     cases h1:p1.ins I with
     | none=>rw [h0,h1] at hi';cases hi'
     | some q1=>
     cases h2:p2.ins I with
     | none=>rw [h0,h1,h2] at hi';cases hi'
     | some q2=>
     cases h3:p3.ins I with
     | none=>rw [h0,h1,h2,h3] at hi';cases hi'
     | some q3=>
     cases h4:p4.ins I with
     | none=>rw [h0,h1,h2,h3,h4] at hi';cases hi'
     | some q4=>
     cases h5:p5.ins I with
     | none=>rw [h0,h1,h2,h3,h4,h5] at hi';cases hi'
     | some q5=>
       rw [h0,h1,h2,h3,h4,h5] at hi';cases hi'
       rw [hi] at e';cases e'
       obtain ⟨x0,a0,b0⟩:=SI.ins_ok hI h0
       obtain ⟨x1,a1,b1⟩:=SI.ins_ok hI h1
       obtain ⟨x2,a2,b2⟩:=SI.ins_ok hI h2
       obtain ⟨x3,a3,b3⟩:=SI.ins_ok hI h3
       obtain ⟨x4,a4,b4⟩:=SI.ins_ok hI h4
       obtain ⟨x5,a5,b5⟩:=SI.ins_ok hI h5
       exact ⟨_,by simp only [SB.den,a0,a1,a2,a3,a4,a5,Option.bind_some];rfl,by simp only [SB.den,b0,b1,b2,b3,b4,b5,Option.bind_some];rfl⟩
 | not p hp=>
   intro y e
   have e':(match p.ins I with | some r=>some (SB.not r) | none=>none)=some y:=e
   cases h1:p.ins I with
   | none=>rw [h1] at e';cases e'
   | some p'=>
     rw [h1] at e';cases e'
     obtain ⟨a,a1,a2⟩:=hp h1
     exact ⟨!a,by simp [SB.den,a1],by simp [SB.den,a2]⟩
 | and p q hp hq=>
   intro y e
   have e':(match p.ins I,q.ins I with | some r0,some r1=>some (SB.and r0 r1) | _,_=>none)=some y:=e
   cases h1:p.ins I with
   | none=>rw [h1] at e';cases e'
   | some p'=>
     cases h2:q.ins I with
     | none=>rw [h1,h2] at e';cases e'
     | some q'=>
       rw [h1,h2] at e';cases e'
       obtain ⟨a,a1,a2⟩:=hp h1
       obtain ⟨b,b1,b2⟩:=hq h2
       exact ⟨a && b,by simp [SB.den,a1,b1],by simp [SB.den,a2,b2]⟩
 | or p q hp hq=>
   intro y e
   have e':(match p.ins I,q.ins I with | some r0,some r1=>some (SB.or r0 r1) | _,_=>none)=some y:=e
   cases h1:p.ins I with
   | none=>rw [h1] at e';cases e'
   | some p'=>
     cases h2:q.ins I with
     | none=>rw [h1,h2] at e';cases e'
     | some q'=>
       rw [h1,h2] at e';cases e'
       obtain ⟨a,a1,a2⟩:=hp h1
       obtain ⟨b,b1,b2⟩:=hq h2
       exact ⟨a || b,by simp [SB.den,a1,b1],by simp [SB.den,a2,b2]⟩
theorem SB.ins_den (hI:I.Def σ ρ) {x y:SB} (h:x.ins I=some y):y.den σ ρ=x.den (I.sta σ ρ) (I.dyn σ ρ):=by
 obtain ⟨a,h1,h2⟩:=SB.ins_ok hI h
 rw [h1,h2]
noncomputable def SR.ins (I:In):SR→Option SR
 | .n i=>match get I.bm i with | some j=>some (.n j) | none=>none
 | .k i=>match get I.km i with | some r=>some r | none=>some (.k i)
 | .g i=>some (.g i)
theorem SR.ins_den (hI:I.Def σ ρ) {x y:SR} (h:x.ins I=some y):y.den σ ρ=x.den (I.sta σ ρ) (I.dyn σ ρ):=by
 cases x with
 | n i=>
   have h':(match get I.bm i with | some j=>some (SR.n j) | none=>none)=some y:=h
   cases hg:get I.bm i with
   | none=>rw [hg] at h';cases h'
   | some j=>
     rw [hg] at h';cases h'
     show ρ.bl j=(get I.bm i).bind ρ.bl
     rw [hg];rfl
 | k i=>
   have h':(match get I.km i with | some r=>some r | none=>some (SR.k i))=some y:=h
   cases hg:get I.km i with
   | none=>
     rw [hg] at h';cases h'
     show some (σ.kv i)=some (I.kv σ ρ i)
     unfold In.kv;rw [hg]
   | some r=>
     rw [hg] at h';cases h'
     obtain ⟨x,hx⟩:=hI.k i _ hg
     show _=some (I.kv σ ρ i)
     unfold In.kv
     simp [hg,hx]
 | g i=>cases h;rfl
theorem SS.ins_den {x:SS}:x.den (I.sta σ ρ)=x.den σ:=by cases x<;>rfl
mutual
noncomputable def SV.ins (I:In):SV→Option SV
 | .any=>some .any
 | .it k e=>match e.ins I with | some e=>some (.it k e) | none=>none
 | .bo p=>match p.ins I with | some p=>some (.bo p) | none=>none
 | .st e=>some (.st e)
 | .pt r o=>match r.ins I,o.ins I with | some r,some o=>some (.pt r o) | _,_=>none
 | .sl r o l c=>match r.ins I,o.ins I,l.ins I,c.ins I with | some r,some o,some l,some c=>some (.sl r o l c) | _,_,_,_=>none
 | .mp r=>match r.ins I with | some r=>some (.mp r) | none=>none
 | .fn f a c=>match SV.insL I a,SV.insL I c with | some a,some c=>some (.fn f a c) | _,_=>none
 | .yl i=>match get I.bm i with | some j=>some (.yl j) | none=>none
 | .fc t x=>match SV.ins I x with | some x=>some (.fc t x) | none=>none
 | .ag l=>match SV.insL I l with | some l=>some (.ag l) | none=>none
 | .tp l=>match SV.insL I l with | some l=>some (.tp l) | none=>none
 | .va i=>some (.va i)
 | .dv _=>none
 | .sn=>some .sn
 | .pn=>some .pn
 | .mn=>some .mn
 | .fz=>some .fz
 | .fcn=>some .fcn
noncomputable def SV.insL (I:In):List SV→Option (List SV)
 | []=>some []
 | a::l=>match SV.ins I a,SV.insL I l with | some a,some l=>some (a::l) | _,_=>none
end
mutual
theorem SV.ins_is (hI:I.Def σ ρ):∀ (x y:SV) (u:Value),SV.ins I x=some y→(y.Is σ ρ u↔x.Is (I.sta σ ρ) (I.dyn σ ρ) u)
 | .any,y,u,h=>by simp only [SV.ins] at h;cases h;simp only [SV.Is]
 | .it k e,y,u,h=>by
   simp only [SV.ins] at h
   split at h
   ·rename_i e' he
    cases h
    simp only [SV.Is,SI.ins_den hI he]
   ·cases h
 | .bo p,y,u,h=>by
   simp only [SV.ins] at h
   split at h
   ·rename_i e' he
    cases h
    simp only [SV.Is,SB.ins_den hI he]
   ·cases h
 | .st e,y,u,h=>by simp only [SV.ins] at h;cases h;simp only [SV.Is,SS.ins_den]
 | .pt r o,y,u,h=>by
   simp only [SV.ins] at h
   split at h
   ·rename_i r' o' hr ho
    cases h
    simp only [SV.Is,SR.ins_den hI hr,SI.ins_den hI ho]
   ·cases h
 | .sl r o l c,y,u,h=>by
   simp only [SV.ins] at h
   split at h
   ·rename_i r' o' l' c' hr ho hl hc
    cases h
    simp only [SV.Is,SR.ins_den hI hr,SI.ins_den hI ho,SI.ins_den hI hl,SI.ins_den hI hc]
   ·cases h
 | .mp r,y,u,h=>by
   simp only [SV.ins] at h
   split at h
   ·rename_i r' hr
    cases h
    simp only [SV.Is,SR.ins_den hI hr]
   ·cases h
 | .fn f a c,y,u,h=>by
   simp only [SV.ins] at h
   split at h
   ·rename_i a' c' ha hc
    cases h
    simp only [SV.Is,SV.insL_is hI a a' _ ha,SV.insL_is hI c c' _ hc]
   ·cases h
 | .yl i,y,u,h=>by
   simp only [SV.ins] at h
   split at h
   ·rename_i j hj
    cases h
    simp only [SV.Is,In.dyn,hj,Option.bind_some]
   ·cases h
 | .fc t x,y,u,h=>by
   simp only [SV.ins] at h
   split at h
   ·rename_i x' hx
    cases h
    simp only [SV.Is,SV.ins_is hI x x' _ hx]
   ·cases h
 | .ag l,y,u,h=>by
   simp only [SV.ins] at h
   split at h
   ·rename_i l' hl
    cases h
    simp only [SV.Is,SV.insL_is hI l l' _ hl]
   ·cases h
 | .tp l,y,u,h=>by
   simp only [SV.ins] at h
   split at h
   ·rename_i l' hl
    cases h
    simp only [SV.Is,SV.insL_is hI l l' _ hl]
   ·cases h
 | .va i,y,u,h=>by simp only [SV.ins] at h;cases h;simp only [SV.Is];rfl
 | .dv i,y,u,h=>by simp only [SV.ins] at h;cases h
 | .sn,y,u,h=>by simp only [SV.ins] at h;cases h;simp only [SV.Is]
 | .pn,y,u,h=>by simp only [SV.ins] at h;cases h;simp only [SV.Is]
 | .mn,y,u,h=>by simp only [SV.ins] at h;cases h;simp only [SV.Is]
 | .fz,y,u,h=>by simp only [SV.ins] at h;cases h;simp only [SV.Is]
 | .fcn,y,u,h=>by simp only [SV.ins] at h;cases h;simp only [SV.Is]
theorem SV.insL_is (hI:I.Def σ ρ):∀ (l l':List SV) (us:List Value),SV.insL I l=some l'→(SV.IsL σ ρ l' us↔SV.IsL (I.sta σ ρ) (I.dyn σ ρ) l us)
 | [],l',us,h=>by simp only [SV.insL] at h;cases h;simp only [SV.IsL]
 | a::l,l',us,h=>by
   simp only [SV.insL] at h
   split at h
   ·rename_i a' r' ha hl
    cases h
    simp only [SV.IsL,SV.ins_is hI a a' _ ha,SV.insL_is hI l r' _ hl]
   ·cases h
end
noncomputable def tmIns (I:In) (T:List (Nat×SV)):Option (List (Nat×SV)):=
 List.rec (motive:=fun _=>Option (List (Nat×SV))) (some []) (fun p _ ih=>match SV.ins I p.2,ih with | some z,some r=>some ((p.1,z)::r) | _,_=>none) T
theorem tmIns_get:∀ {T T':List (Nat×SV)},tmIns I T=some T'→∀ t,match get T t,get T' t with | some z,some z'=>SV.ins I z=some z' | none,none=>True | _,_=>False
 | [],T',h,t=>by cases h;trivial
 | (s,z)::T,T',h,t=>by
   have h':(match SV.ins I z,tmIns I T with | some z,some r=>some ((s,z)::r) | _,_=>none)=some T':=h
   split at h'
   ·rename_i z' r hz hr
    cases h'
    rw [get_cons,get_cons]
    by_cases hs:s=t
    ·simp only [hs,if_true];exact hz
    ·simp only [hs,if_false];exact tmIns_get hr t
   ·cases h'
theorem tmIns_rel (hI:I.Def σ ρ) {nt:Nat} {T T':List (Nat×SV)} {tmps:Array Value} (h:tmIns I T=some T'):TmRel σ ρ nt T' tmps↔TmRel (I.sta σ ρ) (I.dyn σ ρ) nt T tmps:=by
 constructor
 ·rintro ⟨h1,h2⟩
  refine ⟨h1,fun t z e=>?_⟩
  have:=tmIns_get h t
  rw [e] at this
  cases hg:get T' t with
  | none=>rw [hg] at this;exact this.elim
  | some z'=>rw [hg] at this;exact (SV.ins_is hI z z' _ this).1 (h2 t z' hg)
 ·rintro ⟨h1,h2⟩
  refine ⟨h1,fun t z' e=>?_⟩
  have:=tmIns_get h t
  rw [e] at this
  cases hg:get T t with
  | none=>rw [hg] at this;exact this.elim
  | some z=>rw [hg] at this;exact (SV.ins_is hI z z' _ this).2 (h2 t z hg)
noncomputable def esIns (I:In) (l:List (SV×SV×Nat)):Option (List (SV×SV×Nat)):=
 List.rec (motive:=fun _=>Option (List (SV×SV×Nat))) (some []) (fun p _ ih=>match SV.ins I p.1,SV.ins I p.2.1,ih with | some k,some z,some r=>some ((k,z,p.2.2)::r) | _,_,_=>none) l
theorem esIns_rel (hI:I.Def σ ρ):∀ {l l':List (SV×SV×Nat)} {es:List MapEntry},esIns I l=some l'→(EsRel σ ρ l' es↔EsRel (I.sta σ ρ) (I.dyn σ ρ) l es)
 | [],l',es,h=>by cases h;simp only [EsRel]
 | (k,z,n)::l,l',es,h=>by
   have h':(match SV.ins I k,SV.ins I z,esIns I l with | some k,some z,some r=>some ((k,z,n)::r) | _,_,_=>none)=some l':=h
   split at h'
   ·rename_i k' z' r hk hz hr
    cases h'
    simp only [EsRel,SV.ins_is hI k k' _ hk,SV.ins_is hI z z' _ hz,esIns_rel hI hr]
   ·cases h'
noncomputable def Bk.ins (I:In) (bk:Bk):Option Bk:=
 match bk with
 | .arr lay c n t cp=>match c.ins I,n.ins I,cp.ins I with | some c,some n,some cp=>some (.arr lay c n t cp) | _,_,_=>none
 | .cells l t=>match SV.insL I l with | some l=>some (.cells l t) | none=>none
 | .row none l t cp sz=>match SV.insL I l,cp.ins I with | some l,some cp=>some (.row none l t cp sz) | _,_=>none
 | .row (some _) _ _ _ _=>none
 | .loop s pd fn nt tm ps asg body df=>match tmIns I tm,get I.bm df with | some tm,some df=>some (.loop s pd fn nt tm ps asg body df) | _,_=>none
 | .dfr=>some .dfr
 | .dfn=>some .dfn
 | .map es clock=>match esIns I es with | some es=>some (.map es clock) | none=>none
 | .mapc kk vk c=>match c.ins I with | some c=>some (.mapc kk vk c) | none=>none
 | .ob i=>some (.ob i)
 | .gone=>some .gone
theorem val_sta {κ:Kd} {c:Int} {j f:Nat}:κ.val (I.sta σ ρ) c j f=κ.val σ c j f:=by cases κ<;>rfl
theorem arIs_sta {lay:List Kd} {c:Int} {n base:Nat} {A:Nat→Option Value}:ArIs (I.sta σ ρ) lay c n base A↔ArIs σ lay c n base A:=by
 simp only [ArIs,val_sta]
theorem Bk.ins_is (hI:I.Def σ ρ) {bk bk':Bk} {o:Obj} (h:bk.ins I=some bk'):(bk'.Is σ ρ o↔bk.Is (I.sta σ ρ) (I.dyn σ ρ) o)∧bk'.live=bk.live:=by
 unfold Bk.ins at h
 split at h
 ·split at h
  ·rename_i hc hn hcp
   cases h
   refine ⟨?_,rfl⟩
   simp only [Bk.Is,SI.ins_den hI hc,SI.ins_den hI hn,SI.ins_den hI hcp,arIs_sta]
  ·cases h
 ·split at h
  ·rename_i l' hl
   cases h
   refine ⟨?_,rfl⟩
   simp only [Bk.Is,SV.insL_is hI _ _ _ hl]
  ·cases h
 ·split at h
  ·rename_i l' cp' hl hcp
   cases h
   refine ⟨?_,rfl⟩
   simp only [Bk.Is,SV.insL_is hI _ _ _ hl,SI.ins_den hI hcp,preL]
  ·cases h
 ·cases h
 ·split at h
  ·rename_i tm' df' ht hd
   cases h
   refine ⟨?_,rfl⟩
   simp only [Bk.Is,tmIns_rel hI ht,In.dyn,hd,Option.bind_some]
  ·cases h
 ·cases h;exact ⟨by simp only [Bk.Is],rfl⟩
 ·cases h;exact ⟨by simp only [Bk.Is],rfl⟩
 ·split at h
  ·rename_i es' he
   cases h
   refine ⟨?_,rfl⟩
   simp only [Bk.Is,esIns_rel hI he]
  ·cases h
 ·split at h
  ·rename_i hc
   cases h
   refine ⟨?_,rfl⟩
   simp only [Bk.Is,SI.ins_den hI hc]
   exact Iff.rfl
  ·cases h
 ·cases h;exact ⟨by simp only [Bk.Is];exact Iff.rfl,rfl⟩
 ·cases h;exact ⟨by simp only [Bk.Is],rfl⟩
noncomputable def It.ins (I:In) (x:It):Option It:=
 match x with
 | .inRangeFunc l=>match get I.bm l with | some j=>some (.inRangeFunc j) | none=>none
 | .endRangeFunc l=>match get I.bm l with | some j=>some (.endRangeFunc j) | none=>none
 | x=>some x
theorem It.ins_is {x y:It} {k:Item} (h:x.ins I=some y):y.Is ρ k→x.Is (I.dyn σ ρ) k:=by
 cases x
 case inRangeFunc l=>
  have h':(match get I.bm l with | some j=>some (It.inRangeFunc j) | none=>none)=some y:=h
  cases hg:get I.bm l with
  | none=>rw [hg] at h';cases h'
  | some j=>
    rw [hg] at h';cases h'
    rintro ⟨b,h1,h2⟩
    exact ⟨b,by show (get I.bm l).bind ρ.bl=some b;rw [hg];exact h1,h2⟩
 case endRangeFunc l=>
  have h':(match get I.bm l with | some j=>some (It.endRangeFunc j) | none=>none)=some y:=h
  cases hg:get I.bm l with
  | none=>rw [hg] at h';cases h'
  | some j=>
    rw [hg] at h';cases h'
    rintro ⟨b,h1,h2⟩
    exact ⟨b,by show (get I.bm l).bind ρ.bl=some b;rw [hg];exact h1,h2⟩
 all_goals (cases h;exact id)
noncomputable def tdIns (I:In) (l:List It):Option (List It):=
 List.rec (motive:=fun _=>Option (List It)) (some []) (fun x _ ih=>match x.ins I,ih with | some y,some r=>some (y::r) | _,_=>none) l
theorem tdIns_rel:∀ {l l':List It} {k:List Item},tdIns I l=some l'→TdRel ρ l' k→TdRel (I.dyn σ ρ) l k
 | [],l',k,h,hk=>by cases h;exact hk
 | x::l,l',k,h,hk=>by
   have h':(match x.ins I,tdIns I l with | some y,some r=>some (y::r) | _,_=>none)=some l':=h
   split at h'
   ·rename_i y r hy hr
    cases h'
    obtain ⟨a,b,rfl,h1,h2⟩:=hk
    exact ⟨a,b,rfl,It.ins_is hy h1,tdIns_rel hr h2⟩
   ·cases h'
noncomputable def idsIns (I:In) (l:List Nat):Option (List Nat):=
 List.rec (motive:=fun _=>Option (List Nat)) (some []) (fun x _ ih=>match get I.bm x,ih with | some y,some r=>some (y::r) | _,_=>none) l
theorem idsIns_rel:∀ {l l':List Nat} {k:List Deferred},idsIns I l=some l'→DfRel ρ l' k→DfRel (I.dyn σ ρ) l k
 | [],l',k,h,hk=>by cases h;exact hk
 | x::l,l',k,h,hk=>by
   have h':(match get I.bm x,idsIns I l with | some y,some r=>some (y::r) | _,_=>none)=some l':=h
   split at h'
   ·rename_i y r hy hr
    cases h'
    obtain ⟨a,b,rfl,h1,h2⟩:=hk
    exact ⟨a,b,rfl,by show (get I.bm x).bind ρ.bl=some a;rw [hy];exact h1,idsIns_rel hr h2⟩
   ·cases h'
end
end Go.Sx
