/- A symbolic executor: regions that draw their order: what each operation does, whatever the order. -/
import Derived.Test.YtfailpbjhlhhiaaGreatSxM
namespace Go.Sx
noncomputable section
set_option linter.unusedVariables false
set_option linter.unusedSimpArgs false
open Go.RowKit
structure Cn where
 b:Nat
 d:Nat
 v:Nat
def Cn.Le (x y:Cn):Prop:=x.b≤y.b∧x.d≤y.d∧x.v≤y.v
theorem Cn.Le.refl (x:Cn):x.Le x:=⟨Nat.le_refl _,Nat.le_refl _,Nat.le_refl _⟩
theorem Cn.Le.trans {x y z:Cn} (h:x.Le y) (k:y.Le z):x.Le z:=⟨Nat.le_trans h.1 k.1,Nat.le_trans h.2.1 k.2.1,Nat.le_trans h.2.2 k.2.2⟩
def cnOf (H:Hp):Cn:=⟨H.nb,H.nd,H.nv⟩
structure Rec where
 pr:List Nat
 lk:List Nat
 dst:Option Nat
 z:SV
 dh:List (Nat×Bk)
 dp:List Nat
 dq:List (SB×Bool)
 n0:Cn
 n1:Cn
 vis:Option (List Nat)
 wo:List Nat
 ex:Option (SB×Bool)
abbrev Rv:=List (Nat×Rec)
def lg {α:Type} (D:Nat→Bool) (h0:List (Nat×α)) (f:Rec→List (Nat×α)) (rv:Rv):List (Nat×α):=
 List.rec (motive:=fun _=>List (Nat×α)) h0 (fun e _ ih=>bif D e.1 then lapp (f e.2) ih else ih) rv
def hpD (D:Nat→Bool) (h0:List (Nat×Bk)) (rv:Rv):List (Nat×Bk):=lg D h0 (fun r=>r.dh) rv
def phD (D:Nat→Bool) (p0:List Nat) (rv:Rv):List Nat:=
 List.rec (motive:=fun _=>List Nat) p0 (fun e _ ih=>bif D e.1 then lapp e.2.dp ih else ih) rv
def fcD (D:Nat→Bool) (f0:List (SB×Bool)) (rv:Rv):List (SB×Bool):=
 List.rec (motive:=fun _=>List (SB×Bool)) f0 (fun e _ ih=>bif D e.1 then lapp e.2.dq ih else ih) rv
def tmFr (r:Rec):List (Nat×SV):=match r.dst with | some d=>[(d,r.z)] | none=>[]
def tmD (D:Nat→Bool) (T0:List (Nat×SV)) (rv:Rv):List (Nat×SV):=lg D T0 tmFr rv
def ladd (x:Nat) (l:List Nat):List Nat:=bif lmem l x then l else x::l
def luni (l l':List Nat):List Nat:=List.rec (motive:=fun _=>List Nat) l' (fun x _ ih=>ladd x ih) l
theorem mem_ladd {x y:Nat} {l:List Nat}:y∈ladd x l↔y=x∨y∈l:=by
 unfold ladd
 cases h:lmem l x with
 | true=>
   have:=lmem_iff.1 h
   simp only [cond_true]
   exact ⟨.inr,fun h=>by rcases h with rfl | h<;>assumption⟩
 | false=>simp
theorem mem_luni {y:Nat} {l l':List Nat}:y∈luni l l'↔y∈l∨y∈l':=by
 induction l with
 | nil=>simp [luni]
 | cons a l ih=>
   have e:luni (a::l) l'=ladd a (luni l l'):=rfl
   rw [e,mem_ladd,ih]
   simp [or_assoc]
def predsOf (rv:Rv) (es:List Edge):Option (List Nat):=
 List.rec (motive:=fun _=>Option (List Nat)) (some []) (fun e _ ih=>bif Region.binds .any e then (match get rv e.on,ih with
  | some r,some l=>some (ladd e.on (luni r.pr l))
  | _,_=>none) else ih) es
theorem predsOf_ok {rv:Rv}:∀ {es:List Edge} {l:List Nat},predsOf rv es=some l→
  (∀ e∈es,Region.binds .any e=true→e.on∈l)∧(∀ j∈l,∃ q r,get rv q=some r∧(j=q∨j∈r.pr))∧(∀ e∈es,Region.binds .any e=true→∀ r,get rv e.on=some r→∀ j∈r.pr,j∈l)∧
  (∀ j∈l,(∃ e∈es,Region.binds .any e=true∧(j=e.on∨∃ r,get rv e.on=some r∧j∈r.pr)))
 | [],l,h=>by
   have h':some []=some l:=h
   cases h'
   exact ⟨by simp,by simp,by simp,by simp⟩
 | e::es,l,h=>by
   have h':(bif Region.binds .any e then (match get rv e.on,predsOf rv es with
    | some r,some l=>some (ladd e.on (luni r.pr l))
    | _,_=>none) else predsOf rv es)=some l:=h
   cases hb:Region.binds .any e with
   | false=>
     rw [hb] at h'
     obtain ⟨i1,i2,i3,i4⟩:=predsOf_ok (es:=es) h'
     refine ⟨fun x hx hbx=>?_,i2,fun x hx hbx=>?_,fun j hj=>?_⟩
     ·rcases List.mem_cons.1 hx with rfl | hx
      ·rw [hb] at hbx;cases hbx
      ·exact i1 x hx hbx
     ·rcases List.mem_cons.1 hx with rfl | hx
      ·rw [hb] at hbx;cases hbx
      ·exact i3 x hx hbx
     ·obtain ⟨x,hx,r⟩:=i4 j hj
      exact ⟨x,List.mem_cons_of_mem _ hx,r⟩
   | true=>
     rw [hb] at h'
     simp only [cond_true] at h'
     split at h'
     ·rename_i r l' hr hl
      cases h'
      obtain ⟨i1,i2,i3,i4⟩:=predsOf_ok (es:=es) hl
      refine ⟨fun x hx hbx=>?_,fun j hj=>?_,fun x hx hbx=>?_,fun j hj=>?_⟩
      ·rw [mem_ladd,mem_luni]
       rcases List.mem_cons.1 hx with rfl | hx
       ·exact .inl rfl
       ·exact .inr (.inr (i1 x hx hbx))
      ·rw [mem_ladd,mem_luni] at hj
       rcases hj with rfl | hj | hj
       ·exact ⟨_,r,hr,.inl rfl⟩
       ·exact ⟨_,r,hr,.inr hj⟩
       ·exact i2 j hj
      ·rcases List.mem_cons.1 hx with rfl | hx
       ·intro r' hr' j hj
        rw [hr] at hr';cases hr'
        rw [mem_ladd,mem_luni]
        exact .inr (.inl hj)
       ·intro r' hr' j hj
        rw [mem_ladd,mem_luni]
        exact .inr (.inr (i3 x hx hbx r' hr' j hj))
      ·rw [mem_ladd,mem_luni] at hj
       rcases hj with rfl | hj | hj
       ·exact ⟨e,by simp,hb,.inl rfl⟩
       ·exact ⟨e,by simp,hb,.inr ⟨r,hr,hj⟩⟩
       ·obtain ⟨x,hx,r⟩:=i4 j hj
        exact ⟨x,List.mem_cons_of_mem _ hx,r⟩
     ·cases h'
def SI.stat:SI→Bool
 | .c _ | .v _=>true
 | .d _=>false
 | .op _ x y=>x.stat && y.stat
 | .wk _ x=>x.stat
 | .ap _ a0 a1 a2 a3 a4 a5=>a0.stat && a1.stat && a2.stat && a3.stat && a4.stat && a5.stat
def SB.stat:SB→Bool
 | .c _ | .v _ | .seq _ _=>true
 | .lt x y | .le x y | .eq x y=>x.stat && y.stat
 | .ap _ a0 a1 a2 a3 a4 a5=>a0.stat && a1.stat && a2.stat && a3.stat && a4.stat && a5.stat
 | .not p=>p.stat
 | .and p q | .or p q=>p.stat && q.stat
theorem SI.stat_den {σ:Sta} {ρ:Dyn}:∀ {x:SI},x.stat=true→∃ n,x.den σ ρ=some n:=by
 intro x
 induction x with
 | c n=>exact fun _=>⟨_,rfl⟩
 | v i=>exact fun _=>⟨_,rfl⟩
 | d i=>intro h;cases h
 | op f x y hx hy=>
   intro h
   simp only [SI.stat,Bool.and_eq_true] at h
   obtain ⟨a,ha⟩:=hx h.1;obtain ⟨b,hb⟩:=hy h.2
   exact ⟨_,by simp [SI.den,ha,hb];rfl⟩
 | wk k x hx=>
   intro h
   obtain ⟨a,ha⟩:=hx h
   exact ⟨_,by simp [SI.den,ha];rfl⟩
 | ap f a b c d e g ha hb hc hd he hg=>
   intro h
   simp only [SI.stat,Bool.and_eq_true] at h
   obtain ⟨x0,h0⟩:=ha h.1.1.1.1.1;obtain ⟨x1,h1⟩:=hb h.1.1.1.1.2;obtain ⟨x2,h2⟩:=hc h.1.1.1.2
   obtain ⟨x3,h3⟩:=hd h.1.1.2;obtain ⟨x4,h4⟩:=he h.1.2;obtain ⟨x5,h5⟩:=hg h.2
   exact ⟨_,by simp [SI.den,h0,h1,h2,h3,h4,h5];rfl⟩
theorem SB.stat_den {σ:Sta} {ρ:Dyn}:∀ {x:SB},x.stat=true→∃ b,x.den σ ρ=some b:=by
 intro x
 induction x with
 | c b=>exact fun _=>⟨_,rfl⟩
 | v i=>exact fun _=>⟨_,rfl⟩
 | seq x y=>exact fun _=>⟨_,rfl⟩
 | lt x y=>
   intro h;simp only [SB.stat,Bool.and_eq_true] at h
   obtain ⟨a,ha⟩:=SI.stat_den (σ:=σ) (ρ:=ρ) h.1;obtain ⟨b,hb⟩:=SI.stat_den (σ:=σ) (ρ:=ρ) h.2
   exact ⟨_,by simp [SB.den,ha,hb];rfl⟩
 | le x y=>
   intro h;simp only [SB.stat,Bool.and_eq_true] at h
   obtain ⟨a,ha⟩:=SI.stat_den (σ:=σ) (ρ:=ρ) h.1;obtain ⟨b,hb⟩:=SI.stat_den (σ:=σ) (ρ:=ρ) h.2
   exact ⟨_,by simp [SB.den,ha,hb];rfl⟩
 | eq x y=>
   intro h;simp only [SB.stat,Bool.and_eq_true] at h
   obtain ⟨a,ha⟩:=SI.stat_den (σ:=σ) (ρ:=ρ) h.1;obtain ⟨b,hb⟩:=SI.stat_den (σ:=σ) (ρ:=ρ) h.2
   exact ⟨_,by simp [SB.den,ha,hb];rfl⟩
 | ap f a b c d e g=>
   intro h
   simp only [SB.stat,Bool.and_eq_true] at h
   obtain ⟨x0,h0⟩:=SI.stat_den (σ:=σ) (ρ:=ρ) h.1.1.1.1.1;obtain ⟨x1,h1⟩:=SI.stat_den (σ:=σ) (ρ:=ρ) h.1.1.1.1.2;obtain ⟨x2,h2⟩:=SI.stat_den (σ:=σ) (ρ:=ρ) h.1.1.1.2
   obtain ⟨x3,h3⟩:=SI.stat_den (σ:=σ) (ρ:=ρ) h.1.1.2;obtain ⟨x4,h4⟩:=SI.stat_den (σ:=σ) (ρ:=ρ) h.1.2;obtain ⟨x5,h5⟩:=SI.stat_den (σ:=σ) (ρ:=ρ) h.2
   exact ⟨_,by simp [SB.den,h0,h1,h2,h3,h4,h5];rfl⟩
 | not p hp=>intro h;obtain ⟨a,ha⟩:=hp h;exact ⟨!a,by simp [SB.den,ha]⟩
 | and p q hp hq=>
   intro h;simp only [SB.stat,Bool.and_eq_true] at h
   obtain ⟨a,ha⟩:=hp h.1;obtain ⟨b,hb⟩:=hq h.2
   exact ⟨_,by simp [SB.den,ha,hb];rfl⟩
 | or p q hp hq=>
   intro h;simp only [SB.stat,Bool.and_eq_true] at h
   obtain ⟨a,ha⟩:=hp h.1;obtain ⟨b,hb⟩:=hq h.2
   exact ⟨_,by simp [SB.den,ha,hb];rfl⟩
def SI.dlo (k:Nat):SI→Bool
 | .c _ | .v _=>true
 | .d i=>Nat.blt i k
 | .op _ x y=>x.dlo k && y.dlo k
 | .wk _ x=>x.dlo k
 | .ap _ a0 a1 a2 a3 a4 a5=>a0.dlo k && (a1.dlo k && (a2.dlo k && (a3.dlo k && (a4.dlo k && a5.dlo k))))
def SB.dlo (k:Nat):SB→Bool
 | .c _ | .v _ | .seq _ _=>true
 | .lt x y | .le x y | .eq x y=>x.dlo k && y.dlo k
 | .ap _ a0 a1 a2 a3 a4 a5=>a0.dlo k && (a1.dlo k && (a2.dlo k && (a3.dlo k && (a4.dlo k && a5.dlo k))))
 | .not p=>p.dlo k
 | .and p q | .or p q=>p.dlo k && q.dlo k
theorem SI.dlo_den {σ:Sta} {ρ ρ':Dyn} {k:Nat} (h:∀ i,i < k→ρ'.di i=ρ.di i):∀ {x:SI},x.dlo k=true→x.den σ ρ'=x.den σ ρ:=by
 intro x
 induction x with
 | c n=>exact fun _=>rfl
 | v i=>exact fun _=>rfl
 | d i=>
   intro hx
   have:i < k:=by simpa [SI.dlo,Nat.blt_eq] using hx
   simp only [SI.den,h i this]
 | op f x y hx hy=>
   intro hh
   simp only [SI.dlo,Bool.and_eq_true] at hh
   simp only [SI.den,hx hh.1,hy hh.2]
 | wk k x hx=>intro hh;simp only [SI.den,hx hh]
 | ap f a0 a1 a2 a3 a4 a5 h0 h1 h2 h3 h4 h5=>
   intro hh
   simp only [SI.dlo,Bool.and_eq_true] at hh
   simp only [SI.den,h0 hh.1,h1 hh.2.1,h2 hh.2.2.1,h3 hh.2.2.2.1,h4 hh.2.2.2.2.1,h5 hh.2.2.2.2.2]
theorem SB.dlo_den {σ:Sta} {ρ ρ':Dyn} {k:Nat} (h:∀ i,i < k→ρ'.di i=ρ.di i):∀ {x:SB},x.dlo k=true→x.den σ ρ'=x.den σ ρ:=by
 intro x
 induction x with
 | c b=>exact fun _=>rfl
 | v i=>exact fun _=>rfl
 | seq x y=>exact fun _=>rfl
 | lt x y=>intro hh;simp only [SB.dlo,Bool.and_eq_true] at hh;simp only [SB.den,SI.dlo_den h hh.1,SI.dlo_den h hh.2]
 | le x y=>intro hh;simp only [SB.dlo,Bool.and_eq_true] at hh;simp only [SB.den,SI.dlo_den h hh.1,SI.dlo_den h hh.2]
 | eq x y=>intro hh;simp only [SB.dlo,Bool.and_eq_true] at hh;simp only [SB.den,SI.dlo_den h hh.1,SI.dlo_den h hh.2]
 | ap f a0 a1 a2 a3 a4 a5=>
   intro hh
   simp only [SB.dlo,Bool.and_eq_true] at hh
   simp only [SB.den,SI.dlo_den h hh.1,SI.dlo_den h hh.2.1,SI.dlo_den h hh.2.2.1,SI.dlo_den h hh.2.2.2.1,SI.dlo_den h hh.2.2.2.2.1,SI.dlo_den h hh.2.2.2.2.2]
 | not p hp=>intro hh;simp only [SB.den,hp hh]
 | and p q hp hq=>intro hh;simp only [SB.dlo,Bool.and_eq_true] at hh;simp only [SB.den,hp hh.1,hq hh.2]
 | or p q hp hq=>intro hh;simp only [SB.dlo,Bool.and_eq_true] at hh;simp only [SB.den,hp hh.1,hq hh.2]
inductive Nr where
 | done (z:SV) (H:Hp)
 | ask (p:SB)
 | bad (why:Nat)
def NstOk (cc:Cc) (C:Ct) (nst:Fr→Hp→Nr):Prop:=
 (∀ hc w0 cs ρ f H m z H',Sat C hc w0 cs ρ f [] H m→nst f H=.done z H'→
  ∃ ρ' u w',Tn ρ H m.world ρ' H' w'∧Ends cc.P m cs (botOf f []).1 (botOf f []).2 u w'∧z.Is C.σ ρ' u∧HpRel C hc w0 ρ' H' w')∧
 ∀ hc w0 cs ρ f H m p,Sat C hc w0 cs ρ f [] H m→nst f H=.ask p→p.dlo H.nd=true→∃ b,p.den C.σ ρ=some b
def seesV (v:Option (List Nat)) (id:Nat):Bool:=match v with | none=>true | some l=>lmem l id
def visH (v:Option (List Nat)) (h:List (Nat×Bk)):List (Nat×Bk):=
 match v with
 | none=>h
 | some l=>List.rec (motive:=fun _=>List (Nat×Bk)) [] (fun id _ ih=>match get h id with | some bk=>(id,bk)::ih | none=>ih) l
theorem visH_get {v:Option (List Nat)} {h:List (Nat×Bk)} {id:Nat} {bk:Bk} (e:get (visH v h) id=some bk):seesV v id=true∧get h id=some bk:=by
 cases v with
 | none=>exact ⟨rfl,e⟩
 | some l=>
   show lmem l id=true∧_
   induction l with
   | nil=>cases e
   | cons a l ih=>
     have e':get (match get h a with | some bk=>(a,bk)::visH (some l) h | none=>visH (some l) h) id=some bk:=e
     cases hg:get h a with
     | none=>
       rw [hg] at e'
       obtain ⟨h1,h2⟩:=ih e'
       exact ⟨lmem_iff.2 (List.mem_cons_of_mem _ (lmem_iff.1 h1)),h2⟩
     | some b=>
       rw [hg] at e'
       simp only [get_cons] at e'
       split at e'
       ·rename_i hh;cases e';subst hh;exact ⟨lmem_iff.2 (by simp),hg⟩
       ·obtain ⟨h1,h2⟩:=ih e'
        exact ⟨lmem_iff.2 (List.mem_cons_of_mem _ (lmem_iff.1 h1)),h2⟩
def slId (z:SV):Option (List Nat):=match z with | .sl (.n id) _ _ _=>some [id] | .sl _ _ _ _=>some [] | .sn=>some [] | .st _=>some [] | .fs _ _=>some [] | .fe=>some [] | .sf _=>some [] | _=>none
def visOf (T:List (Nat×SV)) (op:Op):Option (List Nat):=
 match op with
 | .move _ | .assign _ | .pick _ _ _ | .build _ _ | .binOp _ _ _ _ _ | .unOp _ _ _ | .makeFunc _ _ _ | .fieldAddr _ _ _ | .field _ _ _ | .indexAddr _ _ _ | .index _ _ _ | .extract _ _ | .slice _ _ _ _ _ | .nilCheck _=>some []
 | .alloc _ | .box _ _ | .buildSlice _ _ _ | .makeMap _ _=>some []
 | .convert _ _ x=>match ev T x with | .it _ _ | .bo _ | .st _=>some [] | z=>slId z
 | .load _ a=>match ev T a with | .pt (.n id) _=>some [id] | .pt _ _=>some [] | .fp _ _ _ _=>some [] | _=>none
 | .store _ a _=>match ev T a with | .pt (.n id) _=>some [id] | .pt _ _=>some [] | _=>none
 | .call c=>match c.callee with
   | .builtin .len=>match evs T c.args with | [.mp (.n id)]=>some [id] | _=>some []
   | .builtin .cap | .builtin .min | .builtin .max=>some []
   | .builtin .append=>match evs T c.args with
     | [a,b]=>match slId a,slId b with
       | some l,some l'=>some (lapp l l')
       | _,_=>none
     | _=>none
   | _=>none
 | _=>none
def hiOf (H0:Hp) (rv:Rv) (n0:Cn) (vis:Option (List Nat)) (pr:List Nat):Hp:=
 { heap:=visH vis (hpD (lmem pr) H0.heap rv),nb:=n0.b,nd:=n0.d,nv:=n0.v,facts:=fcD (lmem pr) H0.facts rv,phis:=phD (lmem pr) H0.phis rv,bd:=H0.bd }
def tlOf (T0:List (Nat×SV)) (rv:Rv) (pr lk:List Nat):List (Nat×SV):=
 let T:=tmD (lmem pr) T0 rv
 List.rec (motive:=fun _=>List (Nat×SV)) [] (fun t _ ih=>match get T t with | some z=>(t,z)::ih | none=>ih) lk
theorem tlOf_get {T0:List (Nat×SV)} {rv:Rv} {pr:List Nat}:∀ {lk:List Nat} {t:Nat} {z:SV},get (tlOf T0 rv pr lk) t=some z→t∈lk∧get (tmD (lmem pr) T0 rv) t=some z
 | [],_,_,h=>by cases h
 | a::lk,t,z,h=>by
   have h':get (match get (tmD (lmem pr) T0 rv) a with | some z=>(a,z)::tlOf T0 rv pr lk | none=>tlOf T0 rv pr lk) t=some z:=h
   split at h'
   ·rename_i z' hz
    rw [get_cons] at h'
    split at h'
    ·rename_i e;cases h';simp only at e;subst e;exact ⟨by simp,hz⟩
    ·obtain ⟨h1,h2⟩:=tlOf_get h';exact ⟨List.mem_cons_of_mem _ h1,h2⟩
   ·obtain ⟨h1,h2⟩:=tlOf_get h';exact ⟨List.mem_cons_of_mem _ h1,h2⟩
inductive Er where
 | ok (z:SV) (H:Hp)
 | ask (p:SB)
 | bad (why:Nat)
def doOp (cc:Cc) (E:Ents) (nst:Fr→Hp→Nr) (H:Hp) (T:List (Nat×SV)) (ops:Array Oper) (o:Oper):Er:=
 match wantS cc H T ops o with
 | some (.yes false)=>.ok (.tp []) H
 | some (.yes true)=>match symOp cc H T o.op with
   | .val z H'=>.ok z H'
   | .enter g args=>match fent E H g args with
     | .ok z H'=>.ok z H'
     | .ask p=>.ask p
     | .bad=>.bad 302
     | .no=>match cc.P.funcs[g]? with
       | some fn=>match fn.body with
         | some body=>match nst (enterF g fn body args) H with
           | .done z H'=>.ok z H'
           | .ask p=>.ask p
           | .bad n=>.bad n
         | none=>.bad 300
       | none=>.bad 301
   | .round id args=>match roundF H id args with
     | some g=>match nst g H with
       | .done z H'=>.ok z H'
       | .ask p=>.ask p
       | .bad n=>.bad n
     | none=>.bad 302
   | .ask p=>.ask p
   | .bad n=>.bad n
 | some (.ask q)=>.ask q
 | none=>.bad 303
section
variable {cc:Cc} {C:Ct} {E:Ents} {nst:Fr→Hp→Nr} {hc:Nat→Option Obj} {w0:World} {cs:List Frame} {ρ ρ':Dyn} {H:Hp} {w:World}
theorem doOp_ok (hcc:cc.Ok C) (hE:EntsOk cc C E) (hn:NstOk cc C nst) {ops:Array Oper} {o:Oper} {i:Nat} {rest:List Nat} {k:List Item} {nt:Nat} {T:List (Nat×SV)} {tmps:Array Value} {df:List Deferred} {ro:Option Nat} {kd:CallKind} {fn:FuncId} {z:SV} {H':Hp}
  (hh:HpRel C hc w0 ρ H w) (ht:TmRel C.σ ρ nt T tmps) (ho:ops[i]? = some o) (h:doOp cc E nst H T ops o=.ok z H') :
  ∃ ρ' u w',Tn ρ H w ρ' H' w'∧z.Is C.σ ρ' u∧HpRel C hc w0 ρ' H' w'∧
    Steps cc.P (lone ((bF fn ro kd).atR { tmps:=tmps,defers:=df } (.inRegion ops (i::rest)::k)) cs w) (lone ((bF fn ro kd).atR (({ tmps:=tmps,defers:=df }:Act).put o.dst u) (.inRegion ops rest::k)) cs w'):=by
 have hfin:∀ u,((bF fn ro kd).atR { tmps:=tmps,defers:=df } (.inRegion ops (i::rest)::k)).finish u=(bF fn ro kd).atR (({ tmps:=tmps,defers:=df }:Act).put o.dst u) (.inRegion ops rest::k):=fun u=>by
  rw [Frame.finish_atR,ho];rfl
 unfold doOp at h
 split at h
 ·rename_i hw
  cases h
  have hw':=(wantS_ok hcc hh ht hw).1 false rfl
  refine ⟨ρ,undef,w,Tn.refl ρ H w,by simp only [SV.Is];exact ⟨[],SV.isL_nil.2 rfl,rfl⟩,hh,.one ?_⟩
  have:=stepR_op_skip (P:=cc.P) (b:=bF fn ro kd) (a:={ tmps:=tmps,defers:=df }) (k:=k) (cs:=cs) (w:=w) (ops:=ops) (i:=i) (rest:=rest) (by simp only [ho,Option.map_some,Option.getD_some];exact hw')
  rw [ho] at this
  exact this
 ·rename_i hw
  have hw':=(wantS_ok hcc hh ht hw).1 true rfl
  have hop:=symOp_ok hcc hh (evOk_of (a:={ tmps:=tmps,defers:=df }) ht) o
  have hnd:∀ z,symOp cc H T o.op=z→(∀ n,z≠.bad n)→∀ c,o.op≠.defer c:=by
   intro z hz hb c hcd
   rw [hcd,symOp_defer] at hz
   exact hb 117 hz.symm
  split at h
  ·rename_i z' H2 hsym
   cases h
   have hnd':=hnd _ hsym (by simp)
   rw [hsym] at hop
   obtain ⟨ρ',n,u,w',h2,h3,h4,h5,h6⟩:=hop
   refine ⟨ρ',u,w',h2,h5,h6,.one ?_⟩
   rw [← hfin]
   exact step_val ho hw' hnd' h3 h4
  ·rename_i g args hsym
   have hnd':=hnd _ hsym (by simp)
   rw [hsym] at hop
   obtain ⟨us,h2,h3,_⟩:=hop
   have hst:=step_enter (P:=cc.P) (b:=bF fn ro kd) (a:={ tmps:=tmps,defers:=df }) (k:=k) (cs:=cs) (rest:=rest) ho hw' hnd' h2
   split at h
   ·rename_i z' H2 he
    cases h
    obtain ⟨app,hok,happ⟩:=fent_ok hE he
    obtain ⟨e,w',fr1,⟨ρ',u,rfl,h4,h5,h6⟩,hc1,_,hleave⟩:=(hok hc w0 ρ H w args us hh h3).1 z H' happ ((bF fn ro kd).atR { tmps:=tmps,defers:=df } (.inRegion ops (i::rest)::k)::cs)
    refine ⟨ρ',u,w',h4,h5,h6,?_⟩
    rw [← hfin]
    exact (Steps.one hst).trans (Steps.trans hc1 (.one (step_leave_returned hleave)))
   ·cases h
   ·cases h
   ·split at h
    ·rename_i fn' hfn
     split at h
     ·rename_i body hb
      split at h
      ·rename_i z' H2 hnn
       cases h
       have hsat:Sat C hc w0 ((bF fn ro kd).atR { tmps:=tmps,defers:=df } (.inRegion ops (i::rest)::k)::cs) ρ (enterF g fn' body args) [] H (lone (Frame.enter cc.P g us.toArray .normal) ((bF fn ro kd).atR { tmps:=tmps,defers:=df } (.inRegion ops (i::rest)::k)::cs) w):=
        ⟨_,[],w,rfl,enterF_ok hfn hb h3,rfl,hh⟩
       obtain ⟨ρ',u,w',h4,h5,h6,h7⟩:=hn.1 _ _ _ _ _ _ _ _ _ hsat hnn
       refine ⟨ρ',u,w',h4,h6,h7,?_⟩
       rw [← hfin]
       exact (Steps.one hst).trans (h5.fin _ _ rfl)
      ·cases h
      ·cases h
     ·cases h
    ·cases h
  ·rename_i id args hsym
   have hnd':=hnd _ hsym (by simp)
   rw [hsym] at hop
   obtain ⟨b,us,h2,h3,h4⟩:=hop
   split at h
   ·rename_i g hg
    obtain ⟨gf,tm',asg,body,h5,h6⟩:=roundF_ok (P:=cc.P) hh h2 h4 hg
    have hst:=step_round (P:=cc.P) (b:=bF fn ro kd) (a:={ tmps:=tmps,defers:=df }) (k:=k) (cs:=cs) (rest:=rest) ho hw' hnd' (h3.trans h5)
    split at h
    ·rename_i z' H2 hnn
     cases h
     have hsat:Sat C hc w0 ((bF fn ro kd).atR { tmps:=tmps,defers:=df } (.inRegion ops (i::rest)::k)::cs) ρ g [] H (lone (Frame.round b gf tm' asg body .normal) ((bF fn ro kd).atR { tmps:=tmps,defers:=df } (.inRegion ops (i::rest)::k)::cs) w):=
      ⟨_,[],w,rfl,h6,rfl,hh⟩
     obtain ⟨ρ',u,w',h7,h8,h9,h10⟩:=hn.1 _ _ _ _ _ _ _ _ _ hsat hnn
     refine ⟨ρ',u,w',h7,h9,h10,?_⟩
     rw [← hfin]
     exact (Steps.one hst).trans (h8.fin _ _ rfl)
    ·cases h
    ·cases h
   ·cases h
  ·cases h
  ·cases h
 ·cases h
 ·cases h
theorem doOp_ask (hcc:cc.Ok C) (hE:EntsOk cc C E) (hn:NstOk cc C nst) {ops:Array Oper} {o:Oper} {nt:Nat} {T:List (Nat×SV)} {tmps:Array Value} {p:SB}
  (hh:HpRel C hc w0 ρ H w) (ht:TmRel C.σ ρ nt T tmps) (h:doOp cc E nst H T ops o=.ask p) (hp:p.dlo H.nd=true):∃ b,p.den C.σ ρ=some b:=by
 unfold doOp at h
 split at h
 ·cases h
 ·rename_i hw
  have hw':=(wantS_ok hcc hh ht hw).1 true rfl
  have hop:=symOp_ok hcc hh (evOk_of (a:={ tmps:=tmps,defers:=[] }) ht) o
  split at h
  ·cases h
  ·rename_i g args hsym
   rw [hsym] at hop
   obtain ⟨us,h2,h3,_⟩:=hop
   split at h
   ·cases h
   ·rename_i q he
    cases h
    obtain ⟨app,hok,happ⟩:=fent_ask hE he
    exact (hok hc w0 ρ H w args us hh h3).2 p happ
   ·cases h
   ·split at h
    ·rename_i fn' hfn
     split at h
     ·rename_i body hb
      split at h
      ·cases h
      ·rename_i q hnn
       cases h
       have hsat:Sat C hc w0 [] ρ (enterF g fn' body args) [] H (lone (Frame.enter cc.P g us.toArray .normal) [] w):=
        ⟨_,[],w,rfl,enterF_ok hfn hb h3,rfl,hh⟩
       exact hn.2 _ _ _ _ _ _ _ _ hsat hnn hp
      ·cases h
     ·cases h
    ·cases h
  ·rename_i id args hsym
   rw [hsym] at hop
   obtain ⟨b,us,h2,h3,h4⟩:=hop
   split at h
   ·rename_i g hg
    obtain ⟨gf,tm',asg,body,h5,h6⟩:=roundF_ok (P:=cc.P) hh h2 h4 hg
    split at h
    ·cases h
    ·rename_i q hnn
     cases h
     have hsat:Sat C hc w0 [] ρ g [] H (lone (Frame.round b gf tm' asg body .normal) [] w):=
      ⟨_,[],w,rfl,h6,rfl,hh⟩
     exact hn.2 _ _ _ _ _ _ _ _ hsat hnn hp
    ·cases h
   ·cases h
  ·rename_i q hsym
   cases h
   rw [hsym] at hop
   exact hop
  ·cases h
 ·rename_i q hw
  cases h
  exact (wantS_ok hcc hh ht hw).2 _ rfl
 ·cases h
end
end
end Go.Sx
namespace Go.Sx
noncomputable section
set_option linter.unusedVariables false
set_option linter.unusedSimpArgs false
open Go.RowKit
def dstLt (nt:Nat):Option Nat→Bool
 | some d=>Nat.blt d nt
 | none=>true
def offR (lk:List Nat):Option Nat→Bool
 | some d=>!lmem lk d
 | none=>true
def neD:Option Nat→Option Nat→Bool
 | some d,some d'=>!Nat.beq d d'
 | _,_=>true
def okOps (rv:Rv) (pr lk:List Nat) (dst:Option Nat) (vis:Option (List Nat)) (wo:List Nat):Bool:=
 lall (fun e=>bif lmem pr e.1 then true else offR lk e.2.dst && (neD e.2.dst dst && (offR e.2.lk dst && (lall (fun id=>!seesV e.2.vis id) wo && lall (fun id=>!seesV vis id) e.2.wo)))) rv
def okIds (Hi:Hp) (b1:Nat) (dh:List (Nat×Bk)):Bool:=
 lall (fun p=>bif Nat.blt p.1 b1 then (bif Nat.blt p.1 Hi.nb then (match get Hi.heap p.1 with | some bk=>bk.live | none=>false) else true) else false) dh
def oldIds (b0:Nat) (dh:List (Nat×Bk)):List Nat:=
 List.rec (motive:=fun _=>List Nat) [] (fun p _ ih=>bif Nat.blt p.1 b0 then p.1::ih else ih) dh
theorem mem_oldIds {b0:Nat} {dh:List (Nat×Bk)} {p:Nat×Bk} (h:p∈dh) (hl:p.1 < b0):p.1∈oldIds b0 dh:=by
 induction dh with
 | nil=>cases h
 | cons q dh ih=>
   have e:oldIds b0 (q::dh)=bif Nat.blt q.1 b0 then q.1::oldIds b0 dh else oldIds b0 dh:=rfl
   rw [e]
   rcases List.mem_cons.1 h with rfl | h
   ·rw [show Nat.blt p.1 b0=true by simp [Nat.blt_eq,hl]];simp
   ·cases Nat.blt q.1 b0 with
    | true=>exact List.mem_cons_of_mem _ (ih h)
    | false=>exact ih h
inductive RD where
 | ok (r:Rec)
 | ask (p:SB)
 | bad (why:Nat)
def diff {α:Type} (l l0:List α):List α:=ltake l (Nat.sub (llen l) (llen l0))
theorem diff_eq {α:Type} {l l0 d:List α} (h:l=d++l0):diff l l0=d:=by
 unfold diff
 rw [ltake_eq,llen_eq,llen_eq,h]
 have:Nat.sub (d++l0).length l0.length=d.length:=by show (d++l0).length - l0.length=_;simp
 rw [this];simp
def Hp.lrnO (H:Hp) (ex:Option (SB×Bool)):Hp:=match ex with | none=>H | some f=>H.learn f.1 f.2
def mkRec (Hi H':Hp) (z:SV) (dst:Option Nat) (pr lk:List Nat) (n0:Cn) (vis:Option (List Nat)) (rv:Rv) (ex:Option (SB×Bool)):Option Rec:=
 let dh:=diff H'.heap Hi.heap
 let wo:=oldIds n0.b dh
 bif Nat.ble n0.b H'.nb && (Nat.ble n0.d H'.nd && Nat.ble n0.v H'.nv) then
  (bif okOps rv pr lk dst vis wo then
   (bif okIds Hi H'.nb dh then some ⟨pr,lk,dst,z,dh,diff H'.phis Hi.phis,diff H'.facts Hi.facts,n0,cnOf H',vis,wo,ex⟩
    else none)
   else none)
  else none
def whyRec (Hi H':Hp) (dst:Option Nat) (pr lk:List Nat) (n0:Cn) (vis:Option (List Nat)) (rv:Rv):Nat:=
 let dh:=diff H'.heap Hi.heap
 Nat.add (Nat.mul 1000 (Nat.succ (llen rv))) (bif okOps rv pr lk dst vis (oldIds n0.b dh) then (bif okIds Hi H'.nb dh then 3 else 2) else 1)
def opX (cc:Cc) (E:Ents) (nst:Fr→Hp→Nr) (nt:Nat) (T0:List (Nat×SV)) (H0:Hp) (ops:Array Oper) (rv:Rv) (n0:Cn) (o:Oper) (ex:Option (SB×Bool)):RD:=
 match predsOf rv o.after.toList with
 | none=>.bad 310
 | some pr=>
   let lk:=o.looksAt ops
   let vis:=visOf (tlOf T0 rv pr lk) o.op
   let Hi:=hiOf H0 rv n0 vis pr
   bif dstLt nt o.dst then
    (match doOp cc E nst (Hi.lrnO ex) (tlOf T0 rv pr lk) ops o with
    | .ok z H'=>match mkRec Hi H' z o.dst pr lk n0 vis rv ex with
      | some r=>.ok r
      | none=>.bad (whyRec Hi H' o.dst pr lk n0 vis rv)
    | .ask p=>.ask p
    | .bad n=>.bad n) else .bad 313
def opD (cc:Cc) (E:Ents) (nst:Fr→Hp→Nr) (nt:Nat) (T0:List (Nat×SV)) (H0:Hp) (ops:Array Oper) (rv:Rv) (n0:Cn) (o:Oper):RD:=
 match opX cc E nst nt T0 H0 ops rv n0 o none with
 | .ok r=>.ok r
 | .ask p=>bif p.stat then .ask p else .bad 312
 | .bad n=>.bad n
def drawL (cc:Cc) (E:Ents) (nst:Fr→Hp→Nr) (nt:Nat) (T0:List (Nat×SV)) (H0:Hp) (ops:Array Oper) (l:List Oper):Nat→Rv→Cn→Dr:=
 List.rec (motive:=fun _=>Nat→Rv→Cn→Dr)
  (fun _ rv n=>.ok (tmD (fun _=>true) T0 rv) { heap:=hpD (fun _=>true) H0.heap rv,nb:=n.b,nd:=n.d,nv:=n.v,facts:=fcD (fun _=>true) H0.facts rv,phis:=phD (fun _=>true) H0.phis rv,bd:=H0.bd })
  (fun o _ ih i rv n=>match opD cc E nst nt T0 H0 ops rv n o with
   | .ok r=>ih (Nat.succ i) ((i,r)::rv) r.n1
   | .ask p=>.ask p
   | .bad w=>.bad w) l
def lateO (i:Nat) (o:Oper):Bool:=
 List.rec (motive:=fun _=>Bool) false (fun e _ r=>bif Region.binds .any e then (bif Nat.ble i e.on then true else r) else r) o.after.toList
def leafD (T0:List (Nat×SV)) (H0:Hp) (rv:Rv) (n:Cn):List (Nat×SV)×Hp:=
 (tmD (fun _=>true) T0 rv,{ heap:=hpD (fun _=>true) H0.heap rv,nb:=n.b,nd:=n.d,nv:=n.v,facts:=fcD (fun _=>true) H0.facts rv,phis:=phD (fun _=>true) H0.phis rv,bd:=H0.bd })
inductive DF where
 | ok (x:List (Nat×SV)×Hp) (l:List (List (Nat×SV)×Hp))
 | no (why:Nat)
def RD.why (r:RD):Nat:=match r with | .ok _=>1 | .ask _=>2 | .bad n=>n
def drawF (cc:Cc) (E:Ents) (nst:Fr→Hp→Nr) (nt:Nat) (T0:List (Nat×SV)) (H0:Hp) (ops:Array Oper) (l:List Oper):Nat→Rv→Cn→DF:=
 List.rec (motive:=fun _=>Nat→Rv→Cn→DF)
  (fun _ rv n=>.ok (leafD T0 H0 rv n) [])
  (fun o l ih i rv n=>match opX cc E nst nt T0 H0 ops rv n o none with
   | .ok r=>ih (Nat.succ i) ((i,r)::rv) r.n1
   | .ask p=>bif p.dlo n.d then (bif lall (lateO i) l then
     (match opX cc E nst nt T0 H0 ops rv n o (some (p,true)),opX cc E nst nt T0 H0 ops rv n o (some (p,false)) with
     | .ok r1,.ok r2=>(match ih (Nat.succ i) ((i,r1)::rv) r1.n1,ih (Nat.succ i) ((i,r2)::rv) r2.n1 with
       | .ok x a,.ok y b=>.ok x (lapp a (y::b))
       | .no w,_=>.no w
       | _,.no w=>.no w)
     | x,y=>.no (Nat.add (Nat.mul 10000 (RD.why x)) (RD.why y))) else .no 402) else .no 401
   | .bad w=>.no w) l
def allB (n:Nat) (f:Nat→Bool):Bool:=Nat.rec (motive:=fun _=>Bool) true (fun i ih=>bif f i then ih else false) n
theorem allB_ok {f:Nat→Bool}:∀ {n:Nat},allB n f=true→∀ j,j < n→f j=true
 | 0,_,j,hj=>absurd hj (Nat.not_lt_zero _)
 | n+1,h,j,hj=>by
   have h':(bif f n then allB n f else false)=true:=h
   cases hf:f n with
   | false=>rw [hf] at h';cases h'
   | true=>
     rw [hf] at h'
     by_cases e:j=n
     ·rw [e];exact hf
     ·exact allB_ok h' j (by omega)
def drawU (cc:Cc) (E:Ents) (nst:Fr→Hp→Nr) (nt:Nat) (T0:List (Nat×SV)) (H0:Hp) (ops:Array Oper) (l:List Oper):Nat→Rv→Cn→Dr:=
 List.rec (motive:=fun _=>Nat→Rv→Cn→Dr) (fun _ _ _=>.bad 410)
  (fun o l ih i rv n=>match l with
   | []=>match predsOf rv o.after.toList with
     | some pr=>bif allB i (fun j=>lmem pr j) then .upto i (leafD T0 H0 rv n).1 (leafD T0 H0 rv n).2 else .bad 411
     | none=>.bad 412
   | _::_=>match opD cc E nst nt T0 H0 ops rv n o with
     | .ok r=>ih (Nat.succ i) ((i,r)::rv) r.n1
     | .ask p=>.ask p
     | .bad w=>.bad w) l
def drawS (cc:Cc) (E:Ents) (nst:Fr→Hp→Nr) (nt:Nat) (T0:List (Nat×SV)) (H0:Hp) (ops:Array Oper):Dr:=
 match drawL cc E nst nt T0 H0 ops ops.toList 0 [] (cnOf H0) with
 | .bad n=>bif Nat.beq n 312 then (match drawF cc E nst nt T0 H0 ops ops.toList 0 [] (cnOf H0) with | .ok x l=>.par x l | .no w=>.bad w)
   else (match drawU cc E nst nt T0 H0 ops ops.toList 0 [] (cnOf H0) with | .upto i T H=>.upto i T H | _=>.bad n)
 | r=>r
theorem lg_cons {α:Type} (D:Nat→Bool) (h0:List (Nat×α)) (f:Rec→List (Nat×α)) (i:Nat) (r:Rec) (rv:Rv):lg D h0 f ((i,r)::rv)=if D i then f r++lg D h0 f rv else lg D h0 f rv:=by
 show (bif D i then lapp (f r) (lg D h0 f rv) else lg D h0 f rv)=_
 cases D i<;>simp [lapp_eq]
theorem phD_cons (D:Nat→Bool) (h0:List Nat) (i:Nat) (r:Rec) (rv:Rv):phD D h0 ((i,r)::rv)=if D i then r.dp++phD D h0 rv else phD D h0 rv:=by
 show (bif D i then lapp r.dp (phD D h0 rv) else phD D h0 rv)=_
 cases D i<;>simp [lapp_eq]
theorem fcD_cons (D:Nat→Bool) (h0:List (SB×Bool)) (i:Nat) (r:Rec) (rv:Rv):fcD D h0 ((i,r)::rv)=if D i then r.dq++fcD D h0 rv else fcD D h0 rv:=by
 show (bif D i then lapp r.dq (fcD D h0 rv) else fcD D h0 rv)=_
 cases D i<;>simp [lapp_eq]
theorem lg_congr {α:Type} {D D':Nat→Bool} {h0:List (Nat×α)} {f:Rec→List (Nat×α)} {id:Nat}:∀ {rv:Rv},(∀ j r,(j,r)∈rv→get (f r) id≠none→D j=D' j)→get (lg D h0 f rv) id=get (lg D' h0 f rv) id
 | [],_=>rfl
 | (j,r)::rv,h=>by
   have ih:=lg_congr (h0:=h0) (f:=f) (rv:=rv) fun j' r' hm=>h j' r' (List.mem_cons_of_mem _ hm)
   rw [lg_cons,lg_cons]
   cases hg:get (f r) id with
   | none=>split<;>split<;>simp [get_append,hg,ih]
   | some bk=>
     have:=h j r (by simp) (by rw [hg];simp)
     rw [this]
     split<;>simp [get_append,hg,ih]
theorem lg_none {α:Type} {D:Nat→Bool} {h0:List (Nat×α)} {f:Rec→List (Nat×α)}:∀ {l rv:Rv},(∀ j r,(j,r)∈l→D j=false)→lg D h0 f (l++rv)=lg D h0 f rv
 | [],_,_=>rfl
 | (j,r)::l,rv,h=>by
   rw [List.cons_append,lg_cons,h j r (by simp)]
   exact lg_none fun j' r' hm=>h j' r' (List.mem_cons_of_mem _ hm)
theorem lg_from {α:Type} {D:Nat→Bool} {h0:List (Nat×α)} {f:Rec→List (Nat×α)} {id:Nat} {bk:α}:∀ {rv:Rv},get (lg D h0 f rv) id=some bk→get h0 id=some bk∨∃ j r,(j,r)∈rv∧D j=true∧get (f r) id=some bk
 | [],h=>.inl h
 | (j,r)::rv,h=>by
   rw [lg_cons] at h
   have up:(get h0 id=some bk∨∃ j r,(j,r)∈rv∧D j=true∧get (f r) id=some bk)→(get h0 id=some bk∨∃ j' r',(j',r')∈(j,r)::rv∧D j'=true∧get (f r') id=some bk):=by
    rintro (h | ⟨j',r',h1,h2⟩)
    ·exact .inl h
    ·exact .inr ⟨j',r',List.mem_cons_of_mem _ h1,h2⟩
   split at h
   ·rename_i hD
    rw [get_append] at h
    cases hg:get (f r) id with
    | none=>rw [hg] at h;exact up (lg_from h)
    | some b=>rw [hg] at h;cases h;exact .inr ⟨j,r,by simp,hD,hg⟩
   ·exact up (lg_from h)
theorem get_map {α β:Type} (g:α→β):∀ (l:List (Nat×α)) (id:Nat),get (l.map fun p=>(p.1,g p.2)) id=(get l id).map g
 | [],_=>rfl
 | p::l,id=>by
   rw [List.map_cons,get_cons,get_cons]
   split
   ·rfl
   ·exact get_map g l id
def lgC {α:Type} (D:Nat→Bool) (h0:List (Nat×α)) (c0:Cn) (f:Rec→List (Nat×α)) (rv:Rv):List (Nat×(α×Cn)):=
 lg D (h0.map fun p=>(p.1,(p.2,c0))) (fun r=>(f r).map fun p=>(p.1,(p.2,r.n1))) rv
theorem lgC_fst {α:Type} {D:Nat→Bool} {h0:List (Nat×α)} {c0:Cn} {f:Rec→List (Nat×α)}:∀ {rv:Rv} {id:Nat},get (lg D h0 f rv) id=(get (lgC D h0 c0 f rv) id).map Prod.fst
 | [],id=>by
   show get h0 id=(get (h0.map fun p=>(p.1,(p.2,c0))) id).map Prod.fst
   rw [get_map (fun a=>(a,c0))]
   cases get h0 id<;>rfl
 | (j,r)::rv,id=>by
   have ih:=lgC_fst (D:=D) (h0:=h0) (c0:=c0) (f:=f) (rv:=rv) (id:=id)
   unfold lgC at ih ⊢
   rw [lg_cons,lg_cons]
   split
   ·rw [get_append,get_append,get_map (fun a=>(a,r.n1))]
    cases get (f r) id with
    | none=>exact ih
    | some a=>rfl
   ·exact ih
theorem lgC_of {α:Type} {D:Nat→Bool} {h0:List (Nat×α)} {c0:Cn} {f:Rec→List (Nat×α)} {rv:Rv} {id:Nat} {a:α} (h:get (lg D h0 f rv) id=some a):∃ c,get (lgC D h0 c0 f rv) id=some (a,c):=by
 rw [lgC_fst (c0:=c0)] at h
 cases hg:get (lgC D h0 c0 f rv) id with
 | none=>rw [hg] at h;cases h
 | some p=>rw [hg] at h;cases h;exact ⟨p.2,rfl⟩
theorem lgC_to {α:Type} {D:Nat→Bool} {h0:List (Nat×α)} {c0:Cn} {f:Rec→List (Nat×α)} {rv:Rv} {id:Nat} {a:α} {c:Cn} (h:get (lgC D h0 c0 f rv) id=some (a,c)):get (lg D h0 f rv) id=some a:=by
 rw [lgC_fst (c0:=c0),h];rfl
theorem lgC_from {α:Type} {D:Nat→Bool} {h0:List (Nat×α)} {c0:Cn} {f:Rec→List (Nat×α)} {rv:Rv} {id:Nat} {a:α} {c:Cn} (h:get (lgC D h0 c0 f rv) id=some (a,c)) :
  (get h0 id=some a∧c=c0)∨∃ j r,(j,r)∈rv∧D j=true∧get (f r) id=some a∧c=r.n1:=by
 rcases lg_from h with h | ⟨j,r,h1,h2,h3⟩
 ·rw [get_map (fun a=>(a,c0))] at h
  cases hg:get h0 id with
  | none=>rw [hg] at h;cases h
  | some x=>rw [hg] at h;cases h;exact .inl ⟨rfl,rfl⟩
 ·rw [get_map (fun a=>(a,r.n1))] at h3
  cases hg:get (f r) id with
  | none=>rw [hg] at h3;cases h3
  | some x=>rw [hg] at h3;cases h3;exact .inr ⟨j,r,h1,h2,hg,rfl⟩
theorem lgC_congr {α:Type} {D D':Nat→Bool} {h0:List (Nat×α)} {c0:Cn} {f:Rec→List (Nat×α)} {id:Nat} {rv:Rv} (h:∀ j r,(j,r)∈rv→get (f r) id≠none→D j=D' j):get (lgC D h0 c0 f rv) id=get (lgC D' h0 c0 f rv) id:=
 lg_congr fun j r hm hne=>h j r hm fun e=>hne (by rw [get_map (fun a=>(a,r.n1)),e];rfl)
theorem mem_phD {D:Nat→Bool} {p0:List Nat} {p:Nat}:∀ {rv:Rv},p∈phD D p0 rv↔p∈p0∨∃ j r,(j,r)∈rv∧D j=true∧p∈r.dp
 | []=>by simp [phD]
 | (j,r)::rv=>by
   rw [phD_cons]
   have ih:=mem_phD (D:=D) (p0:=p0) (p:=p) (rv:=rv)
   cases hD:D j with
   | true=>
     simp only [if_true,List.mem_append,ih]
     constructor
     ·rintro (h | h | ⟨j',r',h1,h2⟩)
      ·exact .inr ⟨j,r,by simp,hD,h⟩
      ·exact .inl h
      ·exact .inr ⟨j',r',List.mem_cons_of_mem _ h1,h2⟩
     ·rintro (h | ⟨j',r',h1,h2,h3⟩)
      ·exact .inr (.inl h)
      ·rcases List.mem_cons.1 h1 with e | h1
       ·cases e;exact .inl h3
       ·exact .inr (.inr ⟨j',r',h1,h2,h3⟩)
   | false=>
     simp only [Bool.false_eq_true,if_false,ih]
     constructor
     ·rintro (h | ⟨j',r',h1,h2⟩)
      ·exact .inl h
      ·exact .inr ⟨j',r',List.mem_cons_of_mem _ h1,h2⟩
     ·rintro (h | ⟨j',r',h1,h2,h3⟩)
      ·exact .inl h
      ·rcases List.mem_cons.1 h1 with e | h1
       ·cases e;rw [hD] at h2;cases h2
       ·exact .inr ⟨j',r',h1,h2,h3⟩
theorem mem_fcD {D:Nat→Bool} {p0:List (SB×Bool)} {p:SB×Bool}:∀ {rv:Rv},p∈fcD D p0 rv↔p∈p0∨∃ j r,(j,r)∈rv∧D j=true∧p∈r.dq
 | []=>by simp [fcD]
 | (j,r)::rv=>by
   rw [fcD_cons]
   have ih:=mem_fcD (D:=D) (p0:=p0) (p:=p) (rv:=rv)
   cases hD:D j with
   | true=>
     simp only [if_true,List.mem_append,ih]
     constructor
     ·rintro (h | h | ⟨j',r',h1,h2⟩)
      ·exact .inr ⟨j,r,by simp,hD,h⟩
      ·exact .inl h
      ·exact .inr ⟨j',r',List.mem_cons_of_mem _ h1,h2⟩
     ·rintro (h | ⟨j',r',h1,h2,h3⟩)
      ·exact .inr (.inl h)
      ·rcases List.mem_cons.1 h1 with e | h1
       ·cases e;exact .inl h3
       ·exact .inr (.inr ⟨j',r',h1,h2,h3⟩)
   | false=>
     simp only [Bool.false_eq_true,if_false,ih]
     constructor
     ·rintro (h | ⟨j',r',h1,h2⟩)
      ·exact .inl h
      ·exact .inr ⟨j',r',List.mem_cons_of_mem _ h1,h2⟩
     ·rintro (h | ⟨j',r',h1,h2,h3⟩)
      ·exact .inl h
      ·rcases List.mem_cons.1 h1 with e | h1
       ·cases e;rw [hD] at h2;cases h2
       ·exact .inr ⟨j',r',h1,h2,h3⟩
def Dyn.cut (ρ:Dyn) (c:Cn):Dyn:={ bl:=fun i=>if i < c.b then ρ.bl i else none,di:=fun i=>if i < c.d then ρ.di i else none,dv:=fun i=>if i < c.v then ρ.dv i else none,fz:=ρ.fz }
theorem Dyn.cut_le (ρ:Dyn) (c:Cn):(ρ.cut c).Le ρ:=by
 refine ⟨fun i x h=>?_,fun i x h=>?_,fun i x h=>?_,fun _ _ h=>h⟩<;>(simp only [Dyn.cut] at h;split at h<;>first | exact h | cases h)
theorem Dyn.cut_mono {ρ ρ':Dyn} {c c':Cn} (h:ρ.Le ρ') (hc:c.Le c'):(ρ.cut c).Le (ρ'.cut c'):=by
 refine ⟨fun i x e=>?_,fun i x e=>?_,fun i x e=>?_,h.fz⟩
 ·simp only [Dyn.cut] at e ⊢
  split at e
  ·rename_i hi;rw [if_pos (Nat.lt_of_lt_of_le hi hc.1)];exact h.bl i x e
  ·cases e
 ·simp only [Dyn.cut] at e ⊢
  split at e
  ·rename_i hi;rw [if_pos (Nat.lt_of_lt_of_le hi hc.2.1)];exact h.di i x e
  ·cases e
 ·simp only [Dyn.cut] at e ⊢
  split at e
  ·rename_i hi;rw [if_pos (Nat.lt_of_lt_of_le hi hc.2.2)];exact h.dv i x e
  ·cases e
end
end Go.Sx
namespace Go.Sx
set_option linter.unusedVariables false
set_option linter.unusedSimpArgs false
open Go.RowKit
section
variable (cc:Cc) (E:Ents) (nst:Fr→Hp→Nr) (nt:Nat) (T0:List (Nat×SV)) (H0:Hp) (ops:Array Oper)
structure GoodRec (rv:Rv) (n:Cn) (r:Rec):Prop where
 le:n.Le r.n1
 prlt:∀ j∈r.pr,j < rv.length
 prcl:∀ j∈r.pr,∀ rj,(j,rj)∈rv→∀ k∈rj.pr,k∈r.pr
 ap:∀ j rj,(j,rj)∈rv→j ∉ r.pr→(∀ d,rj.dst=some d→d ∉ r.lk∧r.dst≠some d)∧(∀ d,r.dst=some d→d ∉ rj.lk)∧(∀ id∈r.wo,seesV rj.vis id=false)∧(∀ id∈rj.wo,seesV r.vis id=false)
 ids:∀ id bk,get r.dh id=some bk→id < r.n1.b∧(id < n.b→id∈r.wo∧∃ bk',get (hiOf H0 rv n r.vis r.pr).heap id=some bk'∧bk'.live=true)
 dstlt:∀ d,r.dst=some d→d < nt
 op:∃ o H',ops[rv.length]? = some o∧r.lk=o.looksAt ops∧r.dst=o.dst∧(∀ e∈o.after,Region.binds .any e=true→e.on∈r.pr)∧
  (∀ j∈r.pr,∃ e∈o.after,Region.binds .any e=true∧(j=e.on∨∃ r',(e.on,r')∈rv∧j∈r'.pr))∧
  doOp cc E nst ((hiOf H0 rv n r.vis r.pr).lrnO r.ex) (tlOf T0 rv r.pr r.lk) ops o=.ok r.z H'∧r.dh=diff H'.heap (hiOf H0 rv n r.vis r.pr).heap∧r.dp=diff H'.phis (hiOf H0 rv n r.vis r.pr).phis∧r.dq=diff H'.facts (hiOf H0 rv n r.vis r.pr).facts∧r.n1=cnOf H'
 n0:r.n0=n
inductive Good:Rv→Cn→Prop
 | nil:Good [] (cnOf H0)
 | cons {rv:Rv} {n:Cn} {r:Rec}:Good rv n→GoodRec cc E nst nt T0 H0 ops rv n r→Good ((rv.length,r)::rv) r.n1
end
section
variable {cc:Cc} {E:Ents} {nst:Fr→Hp→Nr} {nt:Nat} {T0:List (Nat×SV)} {H0:Hp} {ops:Array Oper}
theorem Good.idx {rv:Rv} {n:Cn} (h:Good cc E nst nt T0 H0 ops rv n):∀ j r,(j,r)∈rv→j < rv.length:=by
 induction h with
 | nil=>intro j r hm;cases hm
 | cons _ _ ih=>
   intro j r hm
   rcases List.mem_cons.1 hm with e | hm
   ·cases e;simp
   ·have:=ih j r hm;simp;omega
theorem Good.split {rv:Rv} {n:Cn} (h:Good cc E nst nt T0 H0 ops rv n) {i:Nat} {r:Rec} (hm:(i,r)∈rv) :
  ∃ l rv' n',rv=l++(i,r)::rv'∧Good cc E nst nt T0 H0 ops rv' n'∧GoodRec cc E nst nt T0 H0 ops rv' n' r∧rv'.length=i∧(∀ j s,(j,s)∈l→i < j)∧r.n1.Le n:=by
 induction h with
 | nil=>cases hm
 | @cons rv0 n0 r0 hg hr ih=>
   rcases List.mem_cons.1 hm with e | hm
   ·cases e
    exact ⟨[],rv0,n0,rfl,hg,hr,rfl,by simp,Cn.Le.refl _⟩
   ·obtain ⟨l,rv',n',h1,h2,h3,h4,h5,h6⟩:=ih hm
    refine ⟨(rv0.length,r0)::l,rv',n',by rw [h1];rfl,h2,h3,h4,?_,h6.trans hr.le⟩
    intro j s hs
    rcases List.mem_cons.1 hs with e | hs
    ·cases e
     rw [h1];simp;omega
    ·exact h5 j s hs
theorem Good.uniq {rv:Rv} {n:Cn} (h:Good cc E nst nt T0 H0 ops rv n) {i:Nat} {r r':Rec} (hm:(i,r)∈rv) (hm':(i,r')∈rv):r=r':=by
 induction h with
 | nil=>cases hm
 | @cons rv0 n0 r0 hg hr ih=>
   rcases List.mem_cons.1 hm with e | hm1<;>rcases List.mem_cons.1 hm' with e' | hm2
   ·cases e;cases e';rfl
   ·cases e;have:=hg.idx _ _ hm2;omega
   ·cases e';have:=hg.idx _ _ hm1;omega
   ·exact ih hm1 hm2
theorem Good.mono {rv:Rv} {n:Cn} (h:Good cc E nst nt T0 H0 ops rv n) {j:Nat} {r:Rec} (hm:(j,r)∈rv):r.n1.Le n:=by
 obtain ⟨_,_,_,_,_,_,_,_,h6⟩:=h.split hm
 exact h6
theorem Good.base {rv:Rv} {n:Cn} (h:Good cc E nst nt T0 H0 ops rv n):(cnOf H0).Le n:=by
 induction h with
 | nil=>exact Cn.Le.refl _
 | cons _ hr ih=>exact ih.trans hr.le
theorem Good.two {rv:Rv} {n:Cn} (h:Good cc E nst nt T0 H0 ops rv n) {i j:Nat} {r s:Rec} (hi:(i,r)∈rv) (hj:(j,s)∈rv) (hlt:i < j):r.n1.Le s.n0:=by
 obtain ⟨l,rv',n',h1,h2,h3,h4,h5,_⟩:=h.split hj
 rw [h3.n0]
 rw [h1] at hi
 rcases List.mem_append.1 hi with hi | hi
 ·have:=h5 i r hi;omega
 ·rcases List.mem_cons.1 hi with e | hi
  ·cases e;omega
  ·exact h2.mono hi
theorem Good.mem {rv:Rv} {n:Cn} (h:Good cc E nst nt T0 H0 ops rv n) {i:Nat} (hi:i < rv.length):∃ r,(i,r)∈rv:=by
 induction h with
 | nil=>simp at hi
 | @cons rv0 n0 r0 hg hr ih=>
   by_cases e:i=rv0.length
   ·subst e;exact ⟨r0,by simp⟩
   ·obtain ⟨r,hr'⟩:=ih (by simp at hi;omega)
    exact ⟨r,List.mem_cons_of_mem _ hr'⟩
theorem Good.maker (hb:∀ id bk,get H0.heap id=some bk→id < H0.nb) {rv:Rv} {n:Cn} (h:Good cc E nst nt T0 H0 ops rv n) {j:Nat} {rj:Rec} (hj:(j,rj)∈rv) {id:Nat} (h1:rj.n0.b≤id) (h2:id < rj.n1.b) :
  ∀ p rp bk,(p,rp)∈rv→get rp.dh id=some bk→p=j∨j∈rp.pr:=by
 intro p
 induction p using Nat.strongRecOn with
 | _ p ih=>
   intro rp bk hp hg
   obtain ⟨l,rv',n',e1,e2,e3,e4,e5,_⟩:=h.split hp
   by_cases hpj:p=j
   ·exact .inl hpj
   right
   obtain ⟨k1,k2⟩:=e3.ids id bk hg
   have hold:id < n'.b:=by
    rcases Nat.lt_or_ge p j with hlt | hge
    ·have:=(h.two hp hj hlt).1;omega
    ·have:=(h.two hj hp (by omega)).1
     rw [e3.n0] at this;omega
   obtain ⟨_,bk',hbk',hlv⟩:=k2 hold
   have hbk':=(visH_get hbk').2
   rcases lg_from hbk' with hb0 | ⟨q,rq,hq,hqD,hqg⟩
   ·have:=hb id bk' hb0
    have h3:=(h.mono hj)
    have:H0.nb≤rj.n0.b:=by
     obtain ⟨_,rv2,n2,_,g2,g3,_⟩:=h.split hj
     rw [g3.n0];exact g2.base.1
    omega
   ·have hqpr:q∈rp.pr:=lmem_iff.1 hqD
    have hqlt:q < p:=by have:=e3.prlt q hqpr;omega
    have hqm:(q,rq)∈rv:=by rw [e1];exact List.mem_append_right _ (List.mem_cons_of_mem _ hq)
    rcases ih q hqlt rq bk' hqm hqg with e | e
    ·subst e;exact hqpr
    ·exact e3.prcl q hqpr rq hq j e
def Closed (D:Nat→Bool) (rv:Rv):Prop:=∀ j r,(j,r)∈rv→D j=true→∀ k∈r.pr,D k=true
theorem agree_hp (hb:∀ id bk,get H0.heap id=some bk→id < H0.nb) {rvF:Rv} {nF:Cn} (h:Good cc E nst nt T0 H0 ops rvF nF) {l rv:Rv} {n:Cn} {i:Nat} {r:Rec} (e1:rvF=l++(i,r)::rv) (e3:GoodRec cc E nst nt T0 H0 ops rv n r) (e4:rv.length=i) (e5:∀ j s,(j,s)∈l→i < j)
  {D:Nat→Bool} (hcl:Closed D rvF) (hi:D i=false) (hpr:∀ k∈r.pr,D k=true) {id:Nat} (hsee:seesV r.vis id=true) {x:Bk×Cn} (hx:get (lgC (lmem r.pr) H0.heap (cnOf H0) (fun r=>r.dh) rv) id=some x) :
  get (lgC D H0.heap (cnOf H0) (fun r=>r.dh) rvF) id=some x:=by
 have hir:(i,r)∈rvF:=by rw [e1];simp
 have hw:get (lgC (lmem r.pr) H0.heap (cnOf H0) (fun r=>r.dh) rvF) id=some x:=by
  rw [e1]
  unfold lgC at hx ⊢
  rw [lg_none (fun j s hs=>?_),lg_cons]
  ·rw [if_neg]
   ·exact hx
   ·intro hc
    have:=e3.prlt i (lmem_iff.1 hc);omega
  ·cases hc:lmem r.pr j with
   | false=>rfl
   | true=>have:=e3.prlt j (lmem_iff.1 hc);have:=e5 j s hs;omega
 rw [← hw]
 refine (lgC_congr fun j rj hj hne=>?_).symm
 cases hjp:lmem r.pr j with
 | true=>exact (hpr j (lmem_iff.1 hjp)).symm ▸ rfl
 | false=>
   cases hDj:D j with
   | false=>rfl
   | true=>
     exfalso
     have hjnot:j ∉ r.pr:=fun hc=>by rw [lmem_iff.2 hc] at hjp;cases hjp
     have hji:j≠i:=fun e=>by subst e;rw [hi] at hDj;cases hDj
     obtain ⟨bkj,hbkj⟩:∃ b,get rj.dh id=some b:=by
      cases hg:get rj.dh id with
      | none=>exact absurd hg hne
      | some b=>exact ⟨b,rfl⟩
     obtain ⟨lj,rvj,nj,f1,f2,f3,f4,f5,_⟩:=h.split hj
     obtain ⟨k1,k2⟩:=f3.ids id bkj hbkj
     by_cases hold:id < nj.b
     ·have hwr:=(k2 hold).1
      rcases Nat.lt_or_ge j i with hlt | hge
      ·have hjm:(j,rj)∈rv:=by
        have hj':=hj
        rw [e1] at hj'
        rcases List.mem_append.1 hj' with hm | hm
        ·have:=e5 j rj hm;omega
        ·rcases List.mem_cons.1 hm with e | hm
         ·cases e;exact absurd rfl hji
         ·exact hm
       have:=(e3.ap j rj hjm hjnot).2.2.2 id hwr
       rw [hsee] at this;cases this
      ·have him:(i,r)∈rvj:=by
        have hi':=hir
        rw [f1] at hi'
        rcases List.mem_append.1 hi' with hm | hm
        ·have:=f5 i r hm;omega
        ·rcases List.mem_cons.1 hm with e | hm
         ·cases e;exact absurd rfl hji
         ·exact hm
       by_cases hin:i∈rj.pr
       ·have:=hcl j rj hj hDj i hin
        rw [hi] at this;cases this
       ·have:=(f3.ap i r him hin).2.2.1 id hwr
        rw [hsee] at this;cases this
     ·
      have hn0:rj.n0.b≤id:=by rw [f3.n0];omega
      rcases lgC_from (c:=x.2) (a:=x.1) hx with ⟨hb0,_⟩ | ⟨q,rq,hq,hqD,hqg,_⟩
      ·have:=hb id x.1 hb0
       have:H0.nb≤nj.b:=f2.base.1
       omega
      ·have hqm:(q,rq)∈rvF:=by rw [e1];exact List.mem_append_right _ (List.mem_cons_of_mem _ hq)
       rcases h.maker hb hj hn0 k1 q rq x.1 hqm hqg with e | e
       ·subst e;exact hjnot (lmem_iff.1 hqD)
       ·exact hjnot (e3.prcl q (lmem_iff.1 hqD) rq hq j e)
theorem agree_tm {rvF:Rv} {nF:Cn} (h:Good cc E nst nt T0 H0 ops rvF nF) {l rv:Rv} {n:Cn} {i:Nat} {r:Rec} (e1:rvF=l++(i,r)::rv) (e3:GoodRec cc E nst nt T0 H0 ops rv n r) (e4:rv.length=i) (e5:∀ j s,(j,s)∈l→i < j)
  {D:Nat→Bool} (hcl:Closed D rvF) (hi:D i=false) (hpr:∀ k∈r.pr,D k=true) {t:Nat} (ht:t∈r.lk) {x:SV×Cn} (hx:get (lgC (lmem r.pr) T0 (cnOf H0) tmFr rv) t=some x) :
  get (lgC D T0 (cnOf H0) tmFr rvF) t=some x:=by
 have hir:(i,r)∈rvF:=by rw [e1];simp
 have hw:get (lgC (lmem r.pr) T0 (cnOf H0) tmFr rvF) t=some x:=by
  rw [e1]
  unfold lgC at hx ⊢
  rw [lg_none (fun j s hs=>?_),lg_cons]
  ·rw [if_neg]
   ·exact hx
   ·intro hc
    have:=e3.prlt i (lmem_iff.1 hc);omega
  ·cases hc:lmem r.pr j with
   | false=>rfl
   | true=>have:=e3.prlt j (lmem_iff.1 hc);have:=e5 j s hs;omega
 rw [← hw]
 refine (lgC_congr fun j rj hj hne=>?_).symm
 cases hjp:lmem r.pr j with
 | true=>exact (hpr j (lmem_iff.1 hjp)).symm ▸ rfl
 | false=>
   cases hDj:D j with
   | false=>rfl
   | true=>
     exfalso
     have hjnot:j ∉ r.pr:=fun hc=>by rw [lmem_iff.2 hc] at hjp;cases hjp
     have hji:j≠i:=fun e=>by subst e;rw [hi] at hDj;cases hDj
     have hdj:rj.dst=some t:=by
      unfold tmFr at hne
      split at hne
      ·rename_i d hd
       rw [get_cons] at hne
       split at hne
       ·rename_i e;simp only at e;rw [hd,e]
       ·exact absurd rfl hne
      ·exact absurd rfl hne
     obtain ⟨lj,rvj,nj,f1,f2,f3,f4,f5,_⟩:=h.split hj
     rcases Nat.lt_or_ge j i with hlt | hge
     ·have hjm:(j,rj)∈rv:=by
       have hj':=hj
       rw [e1] at hj'
       rcases List.mem_append.1 hj' with hm | hm
       ·have:=e5 j rj hm;omega
       ·rcases List.mem_cons.1 hm with e | hm
        ·cases e;exact absurd rfl hji
        ·exact hm
      exact ((e3.ap j rj hjm hjnot).1 t hdj).1 ht
     ·have him:(i,r)∈rvj:=by
       have hi':=hir
       rw [f1] at hi'
       rcases List.mem_append.1 hi' with hm | hm
       ·have:=f5 i r hm;omega
       ·rcases List.mem_cons.1 hm with e | hm
        ·cases e;exact absurd rfl hji
        ·exact hm
      by_cases hin:i∈rj.pr
      ·have:=hcl j rj hj hDj i hin
       rw [hi] at this;cases this
      ·exact (f3.ap i r him hin).2.1 t hdj ht
end
end Go.Sx
namespace Go.Sx
set_option linter.unusedVariables false
set_option linter.unusedSimpArgs false
open Go.RowKit
section
variable {cc:Cc} {E:Ents} {nst:Fr→Hp→Nr} {nt:Nat} {T0:List (Nat×SV)} {H0:Hp} {ops:Array Oper} {C:Ct} {hc:Nat→Option Obj} {w0:World}
structure KK (C:Ct) (hc:Nat→Option Obj) (w0:World) (nt:Nat) (T0:List (Nat×SV)) (H0:Hp) (rvF:Rv) (nF:Cn) (ρ0:Dyn) (W0:World) (D:Nat→Bool) (ρ:Dyn) (tmps:Array Value) (w:World):Prop where
 size:tmps.size=nt
 tm:∀ t z c,get (lgC D T0 (cnOf H0) tmFr rvF) t=some (z,c)→z.Is C.σ (ρ.cut c) (tmps.getD t undef)
 hp:∀ id bk c,get (lgC D H0.heap (cnOf H0) (fun r=>r.dh) rvF) id=some (bk,c)→bk.live=true→∃ b o,ρ.bl id=some b∧w.heap[b]? = some o∧bk.Is C.σ (ρ.cut c) o
 inj:∀ id id' bk bk' b,get (hpD D H0.heap rvF) id=some bk→bk.live=true→get (hpD D H0.heap rvF) id'=some bk'→bk'.live=true→ρ.bl id=some b→ρ.bl id'=some b→id=id'
 fc0:∀ f∈H0.facts,f.1.den C.σ (ρ.cut (cnOf H0))=some f.2
 fc:∀ j r,(j,r)∈rvF→D j=true→∀ f∈r.dq,f.1.den C.σ (ρ.cut r.n1)=some f.2
 ph0:∀ p∈H0.phis,C.phi p (ρ.cut (cnOf H0)) (Un hc ρ (hpD D H0.heap rvF) w)
 ph:∀ j r,(j,r)∈rvF→D j=true→∀ p∈r.dp,C.phi p (ρ.cut r.n1) (Un hc ρ (hpD D H0.heap rvF) w)
 fz:∀ b o,ρ.fz b=some o→Un hc ρ (hpD D H0.heap rvF) w b o∧(C.F0 b=some o∨w0.heap.size≤b∨C.X b)
 bd:∀ i a b,(i,a,b)∈H0.bd→InR a b (C.σ.iv i)
 un:∀ j r,(j,r)∈rvF→D j=false→(∀ i,r.n0.b≤i→i < r.n1.b→ρ.bl i=none)∧(∀ i,r.n0.d≤i→i < r.n1.d→ρ.di i=none)∧(∀ i,r.n0.v≤i→i < r.n1.v→ρ.dv i=none)
 fin:(∀ i,nF.b≤i→ρ.bl i=none)∧(∀ i,nF.d≤i→ρ.di i=none)∧(∀ i,nF.v≤i→ρ.dv i=none)
 lt:∀ i b,ρ.bl i=some b→b < w.heap.size
 hid:∀ b o,hc b=some o→w.heap[b]? = some o
 nh:∀ b,Own ρ (hpD D H0.heap rvF) b→hc b=none∧(w0.heap.size≤b∨C.X b)
 os:w.os=w0.os
 tape:w.tape=w0.tape
 output:w.output=w0.output
 size0:w0.heap.size≤w.heap.size
 sizeW:W0.heap.size≤w.heap.size
 ag:Dyn.Ag H0 ρ0 ρ
 new:∀ id b,ρ.bl id=some b→ρ0.bl id=some b∨W0.heap.size≤b∨∃ id',ρ0.bl id'=some b∧get (hpD D [] rvF) id'≠none
 same:∀ b,b < W0.heap.size→(∀ id,ρ0.bl id=some b→get (hpD D [] rvF) id=none)→w.heap[b]? = W0.heap[b]?
theorem Dyn.cut_base {ρ:Dyn} {H:Hp} {w:World} (h:HpRel C hc w0 ρ H w):ρ.cut (cnOf H)=ρ:=by
 have e1:(ρ.cut (cnOf H)).bl=ρ.bl:=by
  funext i
  show (if i < H.nb then ρ.bl i else none)=ρ.bl i
  by_cases hi:i < H.nb
  ·rw [if_pos hi]
  ·rw [if_neg hi];exact (h.fb i (by omega)).symm
 have e2:(ρ.cut (cnOf H)).di=ρ.di:=by
  funext i
  show (if i < H.nd then ρ.di i else none)=ρ.di i
  by_cases hi:i < H.nd
  ·rw [if_pos hi]
  ·rw [if_neg hi];exact (h.fd i (by omega)).symm
 have e3:(ρ.cut (cnOf H)).dv=ρ.dv:=by
  funext i
  show (if i < H.nv then ρ.dv i else none)=ρ.dv i
  by_cases hi:i < H.nv
  ·rw [if_pos hi]
  ·rw [if_neg hi];exact (h.fv i (by omega)).symm
 cases ρ
 simp only [Dyn.cut] at e1 e2 e3 ⊢
 rw [e1,e2,e3]
theorem hpD_no (D:Nat→Bool) (hD:∀ j,D j=false) (h0:List (Nat×Bk)) (rv:Rv):hpD D h0 rv=h0:=by
 have:=lg_none (D:=D) (h0:=h0) (f:=fun r=>r.dh) (l:=rv) (rv:=[]) (fun j _ _=>hD j)
 rw [List.append_nil] at this
 exact this
theorem KK.start {ρ0:Dyn} {w:World} {tmps:Array Value} {rvF:Rv} {nF:Cn} (h:HpRel C hc w0 ρ0 H0 w) (ht:TmRel C.σ ρ0 nt T0 tmps) (hg:Good cc E nst nt T0 H0 ops rvF nF):KK C hc w0 nt T0 H0 rvF nF ρ0 w (fun _=>false) ρ0 tmps w:=by
 have hcut:=Dyn.cut_base h
 have hno:hpD (fun _=>false) H0.heap rvF=H0.heap:=hpD_no _ (fun _=>rfl) _ _
 have hbase:=hg.base
 refine ⟨ht.size,?_,?_,?_,?_,?_,?_,?_,by rw [hno];exact h.fz,h.bd,?_,?_,h.lt,h.hid,?_,h.os,h.tape,h.output,h.size,Nat.le_refl _,Dyn.Ag.refl H0 ρ0,fun _ _ e=>.inl e,fun _ _ _=>rfl⟩
 ·intro t z c hx
  rcases lgC_from hx with ⟨h1,rfl⟩ | ⟨_,_,_,h2,_⟩
  ·rw [hcut];exact ht.get t z h1
  ·cases h2
 ·intro id bk c hx hl
  rcases lgC_from hx with ⟨h1,rfl⟩ | ⟨_,_,_,h2,_⟩
  ·rw [hcut];exact h.blk id bk h1 hl
  ·cases h2
 ·rw [hno];exact h.inj
 ·rw [hcut];exact h.facts
 ·intro _ _ _ h2;cases h2
 ·rw [hno,hcut];exact h.phis
 ·intro _ _ _ h2;cases h2
 ·intro j r hj _
  obtain ⟨_,_,_,_,h2,h3,_⟩:=hg.split hj
  have:=h2.base
  rw [h3.n0]
  exact ⟨fun i h1 _=>h.fb i (Nat.le_trans this.1 h1),fun i h1 _=>h.fd i (Nat.le_trans this.2.1 h1),fun i h1 _=>h.fv i (Nat.le_trans this.2.2 h1)⟩
 ·exact ⟨fun i h1=>h.fb i (Nat.le_trans hbase.1 h1),fun i h1=>h.fd i (Nat.le_trans hbase.2.1 h1),fun i h1=>h.fv i (Nat.le_trans hbase.2.2 h1)⟩
 ·rw [hno];exact h.nh
theorem KK.finish {ρ0 ρ:Dyn} {W0 w:World} {tmps:Array Value} {rvF:Rv} {nF:Cn} (hb:∀ id bk,get H0.heap id=some bk→id < H0.nb) (hg:Good cc E nst nt T0 H0 ops rvF nF) (k:KK C hc w0 nt T0 H0 rvF nF ρ0 W0 (fun _=>true) ρ tmps w) :
  Tn ρ0 H0 W0 ρ { heap:=hpD (fun _=>true) H0.heap rvF,nb:=nF.b,nd:=nF.d,nv:=nF.v,facts:=fcD (fun _=>true) H0.facts rvF,phis:=phD (fun _=>true) H0.phis rvF,bd:=H0.bd } w∧
  TmRel C.σ ρ nt (tmD (fun _=>true) T0 rvF) tmps∧
  HpRel C hc w0 ρ { heap:=hpD (fun _=>true) H0.heap rvF,nb:=nF.b,nd:=nF.d,nv:=nF.v,facts:=fcD (fun _=>true) H0.facts rvF,phis:=phD (fun _=>true) H0.phis rvF,bd:=H0.bd } w:=by
 have ext:∀ (rv:Rv),∃ l,hpD (fun _=>true) H0.heap rv=l++H0.heap∧l=hpD (fun _=>true) [] rv:=by
  intro rv
  induction rv with
  | nil=>exact ⟨[],rfl,rfl⟩
  | cons e rv ih=>
    obtain ⟨l,h1,h2⟩:=ih
    obtain ⟨j,r⟩:=e
    refine ⟨r.dh++l,?_,?_⟩
    ·unfold hpD at h1 ⊢;rw [lg_cons,if_pos rfl,h1,List.append_assoc]
    ·unfold hpD at h2 ⊢;rw [lg_cons,if_pos rfl,h2]
 have extp:∀ (rv:Rv),∃ l,phD (fun _=>true) H0.phis rv=l++H0.phis:=by
  intro rv
  induction rv with
  | nil=>exact ⟨[],rfl⟩
  | cons e rv ih=>
    obtain ⟨l,h1⟩:=ih
    obtain ⟨j,r⟩:=e
    exact ⟨r.dp++l,by rw [phD_cons,if_pos rfl,h1,List.append_assoc]⟩
 have extf:∀ (rv:Rv),∃ l,fcD (fun _=>true) H0.facts rv=l++H0.facts:=by
  intro rv
  induction rv with
  | nil=>exact ⟨[],rfl⟩
  | cons e rv ih=>
    obtain ⟨l,h1⟩:=ih
    obtain ⟨j,r⟩:=e
    exact ⟨r.dq++l,by rw [fcD_cons,if_pos rfl,h1,List.append_assoc]⟩
 obtain ⟨l,hl1,hl2⟩:=ext rvF
 refine ⟨⟨k.ag,⟨⟨l,hl1⟩,hg.base.1,hg.base.2.1,hg.base.2.2,extf rvF,extp rvF⟩,k.sizeW,?_,?_⟩,⟨k.size,?_⟩,?_⟩
 ·intro l' hl' id b e
  have:l'=l:=List.append_cancel_right (by rw [← hl'];exact hl1)
  rcases k.new id b e with h | h | ⟨id',h1,h2⟩
  ·exact .inl h
  ·exact .inr (.inl h)
  ·exact .inr (.inr ⟨id',h1,by rw [this,hl2];exact h2⟩)
 ·intro l' hl' b hb' hid
  refine k.same b hb' fun id e=>?_
  have:l'=l:=List.append_cancel_right (by rw [← hl'];exact hl1)
  rw [← hl2,← this]
  exact hid id e
 ·intro t z h
  obtain ⟨c,hx⟩:=lgC_of (c0:=cnOf H0) h
  exact SV.is_mono (Dyn.cut_le ρ c) z _ (k.tm t z c hx)
 ·refine ⟨?_,k.inj,k.fin.1,k.fin.2.1,k.fin.2.2,k.lt,?_,k.hid,k.nh,?_,k.bd,?_,k.fz,k.os,k.tape,k.output,k.size0⟩
  ·intro id bk h hlv
   have h':get (lg (fun _=>true) H0.heap (fun r=>r.dh) rvF) id=some bk:=h
   obtain ⟨c,hx⟩:=lgC_of (c0:=cnOf H0) h'
   obtain ⟨b,o,h1,h2,h3⟩:=k.hp id bk c hx hlv
   exact ⟨b,o,h1,h2,Bk.is_mono (Dyn.cut_le ρ c) h3⟩
  ·intro id bk h
   have h':get (lg (fun _=>true) H0.heap (fun r=>r.dh) rvF) id=some bk:=h
   rcases lg_from h' with h | ⟨j,r,hj,_,hr⟩
   ·exact Nat.lt_of_lt_of_le (hb id bk h) hg.base.1
   ·obtain ⟨_,_,_,_,_,h3,_,_,h6⟩:=hg.split hj
    exact Nat.lt_of_lt_of_le (h3.ids id bk hr).1 h6.1
  ·intro f hf
   have hf':f∈fcD (fun _=>true) H0.facts rvF:=hf
   rcases mem_fcD.1 hf' with hf | ⟨j,r,h1,h2,h3⟩
   ·exact SB.den_mono (Dyn.cut_le ρ _) _ _ (k.fc0 f hf)
   ·exact SB.den_mono (Dyn.cut_le ρ _) _ _ (k.fc j r h1 h2 f h3)
  ·intro p hp
   have hp':p∈phD (fun _=>true) H0.phis rvF:=hp
   rcases mem_phD.1 hp' with hp | ⟨j,r,h1,h2,h3⟩
   ·exact C.mono p _ ρ _ _ (Dyn.cut_le ρ _) (fun _ _ h=>h) (k.ph0 p hp)
   ·exact C.mono p _ ρ _ _ (Dyn.cut_le ρ _) (fun _ _ h=>h) (k.ph j r h1 h2 p h3)
theorem KK.know {ρ0 ρ:Dyn} {W0 w:World} {tmps:Array Value} {D:Nat→Bool} (hb:∀ id bk,get H0.heap id=some bk→id < H0.nb) {rvF:Rv} {nF:Cn} (hg:Good cc E nst nt T0 H0 ops rvF nF) (k:KK C hc w0 nt T0 H0 rvF nF ρ0 W0 D ρ tmps w)
  {l rv:Rv} {n:Cn} {i:Nat} {r:Rec} (e1:rvF=l++(i,r)::rv) (e2:Good cc E nst nt T0 H0 ops rv n) (e3:GoodRec cc E nst nt T0 H0 ops rv n r) (e4:rv.length=i) (e5:∀ j s,(j,s)∈l→i < j)
  (hcl:Closed D rvF) (hi:D i=false) (hpr:∀ k∈r.pr,D k=true) :
  (∀ id bk,get (hiOf H0 rv n r.vis r.pr).heap id=some bk→id < n.b∧∃ c,get (lgC D H0.heap (cnOf H0) (fun r=>r.dh) rvF) id=some (bk,c)∧c.Le n)∧
  ∃ hc':Nat→Option Obj,(∀ b o,hc' b=some o→w.heap[b]? = some o)∧(∀ b,hc' b=none↔(hc b=none∧(Own ρ (hpD D H0.heap rvF) b→Own (ρ.cut n) (hiOf H0 rv n r.vis r.pr).heap b)))∧
    HpRel C hc' w0 (ρ.cut n) (hiOf H0 rv n r.vis r.pr) w∧TmRel C.σ (ρ.cut n) nt (tlOf T0 rv r.pr r.lk) tmps:=by
 have hsub:∀ j s,(j,s)∈rv→(j,s)∈rvF:=fun j s hm=>by rw [e1];exact List.mem_append_right _ (List.mem_cons_of_mem _ hm)
 have hk:∀ id bk,get (hiOf H0 rv n r.vis r.pr).heap id=some bk→id < n.b∧∃ c,get (lgC D H0.heap (cnOf H0) (fun r=>r.dh) rvF) id=some (bk,c)∧c.Le n:=by
  intro id bk h
  obtain ⟨hsee,h⟩:=visH_get h
  obtain ⟨c,hx⟩:=lgC_of (c0:=cnOf H0) h
  refine ⟨?_,c,agree_hp hb hg e1 e3 e4 e5 hcl hi hpr hsee hx,?_⟩
  ·rcases lg_from h with h | ⟨j,s,hj,_,hs⟩
   ·exact Nat.lt_of_lt_of_le (hb id bk h) e2.base.1
   ·obtain ⟨_,_,_,_,_,h3,_,_,h6⟩:=e2.split hj
    exact Nat.lt_of_lt_of_le (h3.ids id bk hs).1 h6.1
  ·rcases lgC_from hx with ⟨_,rfl⟩ | ⟨j,s,hj,_,_,rfl⟩
   ·exact e2.base
   ·exact e2.mono hj
 refine ⟨hk,?_⟩
 have hown:∀ b,Own (ρ.cut n) (hiOf H0 rv n r.vis r.pr).heap b→Own ρ (hpD D H0.heap rvF) b:=by
  rintro b ⟨id,bk,h1,h2,h3⟩
  obtain ⟨_,c,h4,_⟩:=hk id bk h1
  exact ⟨id,bk,lgC_to h4,h2,(Dyn.cut_le ρ n).bl _ _ h3⟩
 open Classical in
 let hc':Nat→Option Obj:=fun b=>if Own ρ (hpD D H0.heap rvF) b∧¬ Own (ρ.cut n) (hiOf H0 rv n r.vis r.pr).heap b then w.heap[b]? else hc b
 have hcn:∀ b,hc' b=none↔(hc b=none∧(Own ρ (hpD D H0.heap rvF) b→Own (ρ.cut n) (hiOf H0 rv n r.vis r.pr).heap b)):=by
  intro b
  show (if Own ρ (hpD D H0.heap rvF) b∧¬ Own (ρ.cut n) (hiOf H0 rv n r.vis r.pr).heap b then w.heap[b]? else hc b)=none↔_
  split
  ·rename_i hc
   obtain ⟨id,bk,h1,h2,h3⟩:=hc.1
   have:=k.lt id b h3
   constructor
   ·intro h;rw [Array.getElem?_eq_getElem this] at h;cases h
   ·rintro ⟨_,h⟩;exact absurd (h hc.1) hc.2
  ·rename_i hc
   constructor
   ·intro h
    refine ⟨h,fun ho=>?_⟩
    by_cases hh:Own (ρ.cut n) (hiOf H0 rv n r.vis r.pr).heap b
    ·exact hh
    ·exact absurd ⟨ho,hh⟩ hc
   ·exact fun h=>h.1
 have hU:∀ b o,Un hc ρ (hpD D H0.heap rvF) w b o→Un hc' (ρ.cut n) (hiOf H0 rv n r.vis r.pr).heap w b o:=by
  rintro b o ⟨h1,h2,h3⟩
  exact ⟨h1,(hcn b).2 ⟨h2,fun h=>absurd h h3⟩,fun h=>h3 (hown b h)⟩
 refine ⟨hc',?_,hcn,?_,?_⟩
 ·intro b o h
  have h':(if Own ρ (hpD D H0.heap rvF) b∧¬ Own (ρ.cut n) (hiOf H0 rv n r.vis r.pr).heap b then w.heap[b]? else hc b)=some o:=h
  split at h'
  ·exact h'
  ·exact k.hid b o h'
 ·refine ⟨?_,?_,?_,?_,?_,?_,?_,?_,?_,?_,k.bd,?_,fun b o e=>(k.fz b o e).imp (hU b o) (fun h=>h),k.os,k.tape,k.output,k.size0⟩
  ·intro id bk h hlv
   obtain ⟨h1,c,h2,h3⟩:=hk id bk h
   obtain ⟨b,o,h4,h5,h6⟩:=k.hp id bk c h2 hlv
   exact ⟨b,o,by simp only [Dyn.cut];rw [if_pos h1];exact h4,h5,Bk.is_mono (Dyn.cut_mono (Dyn.Le.refl ρ) h3) h6⟩
  ·intro id id' bk bk' b g1 l1 g2 l2 q1 q2
   obtain ⟨_,c,h2,_⟩:=hk id bk g1
   obtain ⟨_,c',h2',_⟩:=hk id' bk' g2
   exact k.inj id id' bk bk' b (lgC_to h2) l1 (lgC_to h2') l2 ((Dyn.cut_le ρ n).bl _ _ q1) ((Dyn.cut_le ρ n).bl _ _ q2)
  ·intro j hj;simp only [Dyn.cut];rw [if_neg (by have:n.b≤j:=hj;omega)]
  ·intro j hj;simp only [Dyn.cut];rw [if_neg (by have:n.d≤j:=hj;omega)]
  ·intro j hj;simp only [Dyn.cut];rw [if_neg (by have:n.v≤j:=hj;omega)]
  ·intro j b h;exact k.lt j b ((Dyn.cut_le ρ n).bl _ _ h)
  ·intro id bk h;exact (hk id bk h).1
  ·intro b o h
   have h':(if Own ρ (hpD D H0.heap rvF) b∧¬ Own (ρ.cut n) (hiOf H0 rv n r.vis r.pr).heap b then w.heap[b]? else hc b)=some o:=h
   split at h'
   ·exact h'
   ·exact k.hid b o h'
  ·intro b h;exact ⟨(hcn b).2 ⟨(k.nh b (hown b h)).1,fun _=>h⟩,(k.nh b (hown b h)).2⟩
  ·intro f hf
   rcases mem_fcD.1 hf with hf | ⟨j,s,h1,h2,h3⟩
   ·exact SB.den_mono (Dyn.cut_mono (Dyn.Le.refl ρ) e2.base) _ _ (k.fc0 f hf)
   ·exact SB.den_mono (Dyn.cut_mono (Dyn.Le.refl ρ) (e2.mono h1)) _ _ (k.fc j s (hsub j s h1) (hpr j (lmem_iff.1 h2)) f h3)
  ·intro p hp
   rcases mem_phD.1 hp with hp | ⟨j,s,h1,h2,h3⟩
   ·exact C.mono p _ _ _ _ (Dyn.cut_mono (Dyn.Le.refl ρ) e2.base) hU (k.ph0 p hp)
   ·exact C.mono p _ _ _ _ (Dyn.cut_mono (Dyn.Le.refl ρ) (e2.mono h1)) hU (k.ph j s (hsub j s h1) (hpr j (lmem_iff.1 h2)) p h3)
 ·refine ⟨k.size,fun t z h=>?_⟩
  obtain ⟨h1,h2⟩:=tlOf_get h
  obtain ⟨c,hx⟩:=lgC_of (c0:=cnOf H0) h2
  have:=k.tm t z c (agree_tm hg e1 e3 e4 e5 hcl hi hpr h1 hx)
  refine SV.is_mono (Dyn.cut_mono (Dyn.Le.refl ρ) ?_) z _ this
  rcases lgC_from hx with ⟨_,rfl⟩ | ⟨j,s,hj,_,_,rfl⟩
  ·exact e2.base
  ·exact e2.mono hj
end
end Go.Sx
namespace Go.Sx
set_option linter.unusedVariables false
set_option linter.unusedSimpArgs false
open Go.RowKit
def addD (D:Nat→Bool) (i:Nat):Nat→Bool:=fun j=>D j || Nat.beq j i
theorem addD_self (D:Nat→Bool) (i:Nat):addD D i i=true:=by simp [addD]
theorem addD_of {D:Nat→Bool} {i j:Nat} (h:D j=true):addD D i j=true:=by simp [addD,h]
theorem addD_ne {D:Nat→Bool} {i j:Nat} (h:j≠i):addD D i j=D j:=by
 have:Nat.beq j i=false:=by
  cases e:Nat.beq j i with
  | false=>rfl
  | true=>exact absurd (Nat.eq_of_beq_eq_true e) h
 simp [addD,this]
theorem lg_all {α:Type} {D:Nat→Bool} {h0:List (Nat×α)} {f:Rec→List (Nat×α)} {id:Nat}:∀ {rv:Rv},get (lg D h0 f rv) id=none→∀ j r,(j,r)∈rv→D j=true→get (f r) id=none
 | [],_,_,_,hm,_=>by cases hm
 | (i,s)::rv,h,j,r,hm,hD=>by
   rw [lg_cons] at h
   rcases List.mem_cons.1 hm with e | hm
   ·cases e
    rw [if_pos hD,get_append] at h
    cases hg:get (f s) id with
    | none=>rfl
    | some a=>rw [hg] at h;cases h
   ·refine lg_all (h0:=h0) (rv:=rv) ?_ j r hm hD
    split at h
    ·rw [get_append] at h
     cases hg:get (f s) id with
     | none=>rw [hg] at h;exact h
     | some a=>rw [hg] at h;cases h
    ·exact h
theorem lg_top {α:Type} {D:Nat→Bool} {h0:List (Nat×α)} {f:Rec→List (Nat×α)} {id:Nat} {i:Nat} {r:Rec} {rv:Rv} {a:α} (hD:D i=true) (hr:get (f r) id=some a) :
  ∀ {l:Rv},(∀ j s,(j,s)∈l→D j=true→get (f s) id=none)→get (lg D h0 f (l++(i,r)::rv)) id=some a
 | [],_=>by rw [List.nil_append,lg_cons,if_pos hD,get_append,hr]
 | (j,s)::l,h=>by
   rw [List.cons_append,lg_cons]
   have ih:=lg_top (h0:=h0) (rv:=rv) hD hr (l:=l) fun j s hm=>h j s (List.mem_cons_of_mem _ hm)
   split
   ·rename_i hj
    rw [get_append,h j s (by simp) hj]
    exact ih
   ·exact ih
section
variable {cc:Cc} {E:Ents} {nst:Fr→Hp→Nr} {nt:Nat} {T0:List (Nat×SV)} {H0:Hp} {ops:Array Oper} {C:Ct} {hc:Nat→Option Obj} {w0:World}
def mixN {α:Type} (a b:Nat) (f g:Nat→Option α):Nat→Option α:=fun i=>if a≤i∧i < b then f i else g i
theorem mixN_in {α:Type} {a b i:Nat} {f g:Nat→Option α} (h1:a≤i) (h2:i < b):mixN a b f g i=f i:=if_pos ⟨h1,h2⟩
theorem mixN_out {α:Type} {a b i:Nat} {f g:Nat→Option α} (h:i < a∨b≤i):mixN a b f g i=g i:=if_neg (by omega)
theorem mixN_cut {α:Type} {a b:Nat} (_:a≤b) {f g:Nat→Option α} (h1:∀ i,i < a→f i=g i) (h2:∀ i,b≤i→f i=none):(fun i=>if i < b then mixN a b f g i else none)=f:=by
 funext i
 by_cases hi:i < b
 ·rw [if_pos hi]
  by_cases ha:a≤i
  ·exact mixN_in ha hi
  ·rw [mixN_out (.inl (by omega))];exact (h1 i (by omega)).symm
 ·rw [if_neg hi];exact (h2 i (by omega)).symm
theorem mixN_le {α:Type} {a b:Nat} {f g:Nat→Option α} (h:∀ i,a≤i→i < b→g i=none) (i:Nat) (x:α) (e:g i=some x):mixN a b f g i=some x:=by
 by_cases hi:a≤i∧i < b
 ·rw [h i hi.1 hi.2] at e;cases e
 ·rw [mixN_out (by omega)];exact e
theorem Tn.of_lrnO {ρ ρ':Dyn} {H H':Hp} {w w':World} {ex:Option (SB×Bool)} (h:Tn ρ (H.lrnO ex) w ρ' H' w'):Tn ρ H w ρ' H' w':=by
 cases ex with
 | none=>exact h
 | some f=>
   obtain ⟨l,hl⟩:=h.ext.facts
   exact ⟨⟨h.ag.bl,h.ag.di,h.ag.dv,h.ag.fz⟩,⟨h.ext.heap,h.ext.nb,h.ext.nd,h.ext.nv,⟨l++[f],by rw [hl];show l++(f.1,f.2)::H.facts=_;simp⟩,h.ext.phis⟩,h.size,h.new,h.same⟩
theorem KK.step (hcc:cc.Ok C) (hE:EntsOk cc C E) (hn:NstOk cc C nst) {ρ0 ρ:Dyn} {W0 w:World} {tmps:Array Value} {D:Nat→Bool} (hb:∀ id bk,get H0.heap id=some bk→id < H0.nb) {rvF:Rv} {nF:Cn} (hg:Good cc E nst nt T0 H0 ops rvF nF) (k:KK C hc w0 nt T0 H0 rvF nF ρ0 W0 D ρ tmps w)
  {i:Nat} {r:Rec} (hir:(i,r)∈rvF) (hcl:Closed D rvF) (hi:D i=false) (hpr:∀ k∈r.pr,D k=true) (hx:∀ f,r.ex=some f→f.1.den C.σ (ρ.cut r.n0)=some f.2)
  {rest:List Nat} {kk:List Item} {df:List Deferred} {ro:Option Nat} {kd:CallKind} {fn:FuncId} {cs:List Frame} :
  ∃ ρ' tmps' w',KK C hc w0 nt T0 H0 rvF nF ρ0 W0 (addD D i) ρ' tmps' w'∧
    Steps cc.P (lone ((bF fn ro kd).atR { tmps:=tmps,defers:=df } (.inRegion ops (i::rest)::kk)) cs w) (lone ((bF fn ro kd).atR { tmps:=tmps',defers:=df } (.inRegion ops rest::kk)) cs w'):=by
 obtain ⟨l,rv,n,e1,e2,e3,e4,e5,e6⟩:=hg.split hir
 obtain ⟨o,H',p1,p2,p3,p4,_,p5,p6,p7,p8,p9⟩:=e3.op
 obtain ⟨hk,hc',q1,q2,q3,q4⟩:=k.know hb hg e1 e2 e3 e4 e5 hcl hi hpr
 rw [e4] at p1
 have q3':HpRel C hc' w0 (ρ.cut n) ((hiOf H0 rv n r.vis r.pr).lrnO r.ex) w:=by
  cases hex:r.ex with
  | none=>exact q3
  | some f=>exact q3.fact (by rw [← e3.n0];exact hx f hex)
 obtain ⟨ρs,u,w',tn0,hz,hr',hst⟩:=doOp_ok hcc hE hn (ops:=ops) (o:=o) (i:=i) (rest:=rest) (k:=kk) (cs:=cs) (df:=df) (ro:=ro) (fn:=fn) q3' q4 p1 p5
 have tn:=tn0.of_lrnO
 have dh:H'.heap=r.dh++(hiOf H0 rv n r.vis r.pr).heap:=by
  obtain ⟨x,hx⟩:=tn.ext.heap;rw [p6,diff_eq hx];exact hx
 have dp:H'.phis=r.dp++(hiOf H0 rv n r.vis r.pr).phis:=by
  obtain ⟨x,hx⟩:=tn.ext.phis;rw [p7,diff_eq hx];exact hx
 have dq:H'.facts=r.dq++(hiOf H0 rv n r.vis r.pr).facts:=by
  obtain ⟨x,hx⟩:=tn.ext.facts;rw [p8,diff_eq hx];exact hx
 have hle:=e3.le
 have cb:r.n1.b=H'.nb:=by rw [p9];rfl
 have cd:r.n1.d=H'.nd:=by rw [p9];rfl
 have cv:r.n1.v=H'.nv:=by rw [p9];rfl
 obtain ⟨un1,un2,un3⟩:=k.un i r hir hi
 rw [e3.n0] at un1 un2 un3
 let ρn:Dyn:={ bl:=mixN n.b r.n1.b ρs.bl ρ.bl,di:=mixN n.d r.n1.d ρs.di ρ.di,dv:=mixN n.v r.n1.v ρs.dv ρ.dv,fz:=ρs.fz }
 have hcutb:∀ x,x < n.b→(ρ.cut n).bl x=ρ.bl x:=fun x hx=>if_pos hx
 have hold:∀ x,x < n.b→ρs.bl x=ρ.bl x:=fun x hx=>(tn.ag.bl x hx).trans (hcutb x hx)
 have F1:ρn.cut r.n1=ρs:=by
  have a1:=mixN_cut (f:=ρs.bl) (g:=ρ.bl) hle.1 hold (fun x hx=>hr'.fb x (by rw [cb] at hx;exact hx))
  have a2:=mixN_cut (f:=ρs.di) (g:=ρ.di) hle.2.1 (fun x hx=>(tn.ag.di x hx).trans (if_pos hx)) (fun x hx=>hr'.fd x (by rw [cd] at hx;exact hx))
  have a3:=mixN_cut (f:=ρs.dv) (g:=ρ.dv) hle.2.2 (fun x hx=>(tn.ag.dv x hx).trans (if_pos hx)) (fun x hx=>hr'.fv x (by rw [cv] at hx;exact hx))
  simp only [Dyn.cut,ρn]
  rw [a1,a2,a3]
 have F2:ρ.Le ρn:=⟨fun x y=>mixN_le un1 x y,fun x y=>mixN_le un2 x y,fun x y=>mixN_le un3 x y,fun b o e=>tn.ag.fz b o e⟩
 have F3:ρs.Le ρn:=by rw [← F1];exact Dyn.cut_le ρn _
 have Fin:∀ x,x < r.n1.b→ρn.bl x=ρs.bl x:=fun x hx=>by
  by_cases h:n.b≤x
  ·exact mixN_in h hx
  ·show mixN _ _ _ _ x=_
   rw [mixN_out (.inl (by omega))];exact (hold x (by omega)).symm
 have Flow:∀ x,x < n.b→ρn.bl x=ρ.bl x:=fun x hx=>mixN_out (.inl hx)
 have hdh:∀ id bk,get r.dh id=some bk→get H'.heap id=some bk:=fun id bk h=>by rw [dh,get_append,h]
 have hdn:∀ id,get r.dh id=none→get H'.heap id=get (hiOf H0 rv n r.vis r.pr).heap id:=fun id h=>by rw [dh,get_append,h]
 have hlater:∀ j s,(j,s)∈l→addD D i j=true→D j=true∧i ∉ s.pr∧∃ rvj nj,(i,r)∈rvj∧GoodRec cc E nst nt T0 H0 ops rvj nj s∧r.n1.Le nj:=by
  intro j s hs hD
  have hij:=e5 j s hs
  have hDj:D j=true:=by rw [addD_ne (by omega)] at hD;exact hD
  have hjm:(j,s)∈rvF:=by rw [e1];exact List.mem_append_left _ hs
  obtain ⟨lj,rvj,nj,f1,f2,f3,f4,f5,_⟩:=hg.split hjm
  refine ⟨hDj,fun hin=>?_,rvj,nj,?_,f3,?_⟩
  ·have:=hcl j s hjm hDj i hin;rw [hi] at this;cases this
  ·have hi':=hir
   rw [f1] at hi'
   rcases List.mem_append.1 hi' with hm | hm
   ·have:=f5 i r hm;omega
   ·rcases List.mem_cons.1 hm with e | hm
    ·cases e;omega
    ·exact hm
  ·have:=hg.two hir hjm hij;rw [f3.n0] at this;exact this
 have htop:∀ id bk,get r.dh id=some bk→∀ j s,(j,s)∈l→addD D i j=true→get s.dh id=none:=by
  intro id bk hbk j s hs hD
  obtain ⟨_,hin,rvj,nj,him,f3,hle2⟩:=hlater j s hs hD
  cases hgs:get s.dh id with
  | none=>rfl
  | some b2=>
    exfalso
    have h1:=(e3.ids id bk hbk).1
    have h2:=(f3.ids id b2 hgs).2 (Nat.lt_of_lt_of_le h1 hle2.1)
    have h4:=(f3.ap i r him hin).2.2.1 id h2.1
    by_cases hold:id < n.b
    ·obtain ⟨_,bk',h5,_⟩:=(e3.ids id bk hbk).2 hold
     rw [(visH_get h5).1] at h4;cases h4
    ·have hjm:(j,s)∈rvF:=by rw [e1];exact List.mem_append_left _ hs
     have hij:=e5 j s hs
     rcases hg.maker hb hir (by rw [e3.n0];omega) h1 j s b2 hjm hgs with h | h
     ·omega
     ·exact hin h
 have hcongr:∀ id,get r.dh id=none→get (lgC (addD D i) H0.heap (cnOf H0) (fun r=>r.dh) rvF) id=get (lgC D H0.heap (cnOf H0) (fun r=>r.dh) rvF) id:=by
  intro id hnone
  refine lgC_congr fun j s hs hne=>?_
  by_cases hji:j=i
  ·subst hji
   have:=hg.uniq hs hir
   subst this
   exact absurd hnone hne
  ·exact addD_ne hji
 have hnew:∀ id bk,get r.dh id=some bk→get (lgC (addD D i) H0.heap (cnOf H0) (fun r=>r.dh) rvF) id=some (bk,r.n1):=by
  intro id bk hbk
  rw [e1]
  exact lg_top (f:=fun r=>r.dh.map fun p=>(p.1,(p.2,r.n1))) (addD_self D i) (by rw [get_map (fun a=>(a,r.n1)),hbk];rfl) fun j s hs hD=>by rw [get_map (fun a=>(a,s.n1)),htop id bk hbk j s hs hD];rfl
 have hcase:∀ id bk c,get (lgC (addD D i) H0.heap (cnOf H0) (fun r=>r.dh) rvF) id=some (bk,c)→(get r.dh id=some bk∧c=r.n1)∨(get r.dh id=none∧get (lgC D H0.heap (cnOf H0) (fun r=>r.dh) rvF) id=some (bk,c)):=by
  intro id bk c hx
  cases hgr:get r.dh id with
  | none=>rw [hcongr id hgr] at hx;exact .inr ⟨rfl,hx⟩
  | some b2=>rw [hnew id b2 hgr] at hx;cases hx;exact .inl ⟨rfl,rfl⟩
 have hcase':∀ id bk,get (hpD (addD D i) H0.heap rvF) id=some bk→get r.dh id=some bk∨(get r.dh id=none∧get (hpD D H0.heap rvF) id=some bk):=by
  intro id bk hx
  obtain ⟨c,hx⟩:=lgC_of (c0:=cnOf H0) (f:=fun r=>r.dh) hx
  rcases hcase id bk c hx with ⟨h,_⟩ | ⟨h1,h2⟩
  ·exact .inl h
  ·exact .inr ⟨h1,lgC_to h2⟩
 have holdw:∀ id bk b,get r.dh id=some bk→ρn.bl id=some b→b < w.heap.size→∃ id' bk',get (hiOf H0 rv n r.vis r.pr).heap id'=some bk'∧bk'.live=true∧(ρ.cut n).bl id'=some b∧get r.dh id'≠none:=by
  intro id bk b h1 h2 h3
  have hlive:∀ id,id < n.b→get r.dh id≠none→∃ bk',get (hiOf H0 rv n r.vis r.pr).heap id=some bk'∧bk'.live=true:=by
   intro id h5 h6
   cases hg6:get r.dh id with
   | none=>exact absurd hg6 h6
   | some bk6=>exact ((e3.ids id bk6 hg6).2 h5).2
  have h4:=(e3.ids id bk h1).1
  by_cases h5:id < n.b
  ·obtain ⟨bk',h6,h7⟩:=hlive id h5 (by rw [h1];simp)
   exact ⟨id,bk',h6,h7,by rw [hcutb id h5,← Flow id h5];exact h2,by rw [h1];simp⟩
  ·rw [Fin id h4] at h2
   rcases tn.new r.dh dh id b h2 with h | h | ⟨id',h,h'⟩
   ·simp only [Dyn.cut] at h;rw [if_neg h5] at h;cases h
   ·omega
   ·have hid':id' < n.b:=by
     by_cases hc:id' < n.b
     ·exact hc
     ·simp only [Dyn.cut] at h;rw [if_neg hc] at h;cases h
    obtain ⟨bk',h6,h7⟩:=hlive id' hid' h'
    exact ⟨id',bk',h6,h7,h,h'⟩
 have hDbl:∀ id bk,get (hpD D H0.heap rvF) id=some bk→bk.live=true→∃ b o,ρ.bl id=some b∧ρn.bl id=some b∧w.heap[b]? = some o:=by
  intro id bk h hl
  obtain ⟨c,hx⟩:=lgC_of (c0:=cnOf H0) (f:=fun r=>r.dh) h
  obtain ⟨b,o,h1,h2,_⟩:=k.hp id bk c hx hl
  exact ⟨b,o,h1,F2.bl _ _ h1,h2⟩
 have hsz:∀ b (o:Obj),w.heap[b]? = some o→b < w.heap.size:=fun b o h=>(Array.getElem?_eq_some_iff.1 h).1
 have hsame:∀ b,b < w.heap.size→(∀ id bk,get r.dh id=some bk→(ρ.cut n).bl id=some b→False)→w'.heap[b]? = w.heap[b]? := by
  intro b hlt h
  refine tn.same r.dh dh b hlt fun id e=>?_
  cases hgr:get r.dh id with
  | none=>rfl
  | some bk=>exact (h id bk hgr e).elim
 have hUn:∀ b o,Un hc ρ (hpD D H0.heap rvF) w b o→Un hc ρn (hpD (addD D i) H0.heap rvF) w' b o:=by
  rintro b o ⟨h1,h2,h3⟩
  have hlt:=hsz b o h1
  have hno:∀ id bk,get r.dh id=some bk→ρn.bl id=some b→False:=by
   intro id bk h4 h5
   obtain ⟨id',bk',h6,h7,h8,_⟩:=holdw id bk b h4 h5 hlt
   obtain ⟨_,c,h9,_⟩:=hk id' bk' h6
   exact h3 ⟨id',bk',lgC_to h9,h7,(Dyn.cut_le ρ n).bl _ _ h8⟩
  refine ⟨?_,h2,?_⟩
  ·rw [hsame b hlt fun id bk h4 h5=>hno id bk h4 (F2.bl _ _ ((Dyn.cut_le ρ n).bl _ _ h5))]
   exact h1
  ·rintro ⟨id,bk,h4,h5,h6⟩
   rcases hcase' id bk h4 with h7 | ⟨_,h7⟩
   ·exact hno id bk h7 h6
   ·obtain ⟨b',o',h8,h9,_⟩:=hDbl id bk h7 h5
    rw [h6] at h9;cases h9
    exact h3 ⟨id,bk,h7,h5,h8⟩
 have hUn2:∀ b ob,Un hc' ρs H'.heap w' b ob→Un hc ρn (hpD (addD D i) H0.heap rvF) w' b ob:=by
  rintro b ob ⟨h1,h2,h3⟩
  refine ⟨h1,((q2 b).1 h2).1,?_⟩
  rintro ⟨id,bk,h4,h5,h6⟩
  rcases hcase' id bk h4 with h7 | ⟨h7,h8⟩
  ·rw [Fin id (e3.ids id bk h7).1] at h6
   exact h3 ⟨id,bk,hdh id bk h7,h5,h6⟩
  ·obtain ⟨b',o',h9,h10,_⟩:=hDbl id bk h8 h5
   rw [h6] at h10;cases h10
   obtain ⟨id2,bk2,g1,g2,g3⟩:=((q2 b).1 h2).2 ⟨id,bk,h8,h5,h9⟩
   obtain ⟨_,c,g4,_⟩:=hk id2 bk2 g1
   have:id2=id:=k.inj id2 id bk2 bk b (lgC_to g4) g2 h8 h5 ((Dyn.cut_le ρ n).bl _ _ g3) h9
   subst this
   refine h3 ⟨id2,bk2,by rw [hdn id2 h7];exact g1,g2,?_⟩
   exact (Dyn.Ag.le q3 tn.ag).bl _ _ g3
 have hhid:∀ b o,hc' b=some o→w'.heap[b]? = w.heap[b]? := fun b o h=>by rw [hr'.hid b o h,q1 b o h]
 have htmF:∀ d,get (tmFr r) d=none→o.dst≠some d:=by
  intro d h e
  unfold tmFr at h
  rw [p3,e] at h
  simp [get_cons] at h
 refine ⟨ρn,(({ tmps:=tmps,defers:=df }:Act).put o.dst u).tmps,w',?_,?_⟩
 ·refine ⟨?_,?_,?_,?_,?_,?_,?_,?_,fun b o e=>(hr'.fz b o e).imp (hUn2 b o) (fun h=>h),k.bd,?_,?_,?_,?_,?_,hr'.os,hr'.tape,hr'.output,hr'.size,Nat.le_trans k.sizeW tn.size,?_,?_,?_⟩
  ·
   cases hd:o.dst with
   | none=>exact k.size
   | some d=>show (tmps.setIfInBounds d u).size=nt;simp [k.size]
  ·
   intro t z c hx
   cases hgt:get (tmFr r) t with
   | none=>
     have hx':get (lgC D T0 (cnOf H0) tmFr rvF) t=some (z,c):=by
      rw [← hx]
      refine (lgC_congr fun j s hs hne=>?_).symm
      by_cases hji:j=i
      ·subst hji
       have:=hg.uniq hs hir
       subst this
       exact absurd hgt hne
      ·exact addD_ne hji
     have h1:=k.tm t z c hx'
     have h2:=htmF t hgt
     have h3:(({ tmps:=tmps,defers:=df }:Act).put o.dst u).tmps.getD t undef=tmps.getD t undef:=by
      cases hd:o.dst with
      | none=>rfl
      | some d=>
        have hdt:d≠t:=fun e=>h2 (by rw [hd,e])
        show (tmps.setIfInBounds d u).getD t undef=_
        simp [Array.getElem?_setIfInBounds_ne hdt]
     rw [h3]
     exact SV.is_mono (Dyn.cut_mono F2 (Cn.Le.refl c)) z _ h1
   | some z0=>
     have hd:r.dst=some t∧z0=r.z:=by
      unfold tmFr at hgt
      split at hgt
      ·rename_i d hd
       rw [get_cons] at hgt
       split at hgt
       ·rename_i e;simp only at e;cases hgt;exact ⟨by rw [hd,e],rfl⟩
       ·cases hgt
      ·cases hgt
     have hx2:get (lgC (addD D i) T0 (cnOf H0) tmFr rvF) t=some (z0,r.n1):=by
      rw [e1]
      refine lg_top (f:=fun r=>(tmFr r).map fun p=>(p.1,(p.2,r.n1))) (addD_self D i) (by rw [get_map (fun a=>(a,r.n1)),hgt];rfl) fun j s hs hD=>?_
      obtain ⟨_,hin,rvj,nj,him,f3,_⟩:=hlater j s hs hD
      have:=((f3.ap i r him hin).1 t hd.1).2
      rw [get_map (fun a=>(a,s.n1))]
      have:get (tmFr s) t=none:=by
       unfold tmFr
       split
       ·rename_i d' hd'
        rw [get_cons,if_neg]
        ·rfl
        ·intro e;exact this (by rw [hd'];exact congrArg some e)
       ·rfl
      rw [this];rfl
     rw [hx2] at hx
     cases hx
     rw [F1,hd.2]
     have hlt:=e3.dstlt t hd.1
     have ho:o.dst=some t:=by rw [← p3];exact hd.1
     have:(({ tmps:=tmps,defers:=df }:Act).put o.dst u).tmps.getD t undef=u:=by
      rw [ho]
      show (tmps.setIfInBounds t u).getD t undef=u
      have:t < tmps.size:=by rw [k.size];exact hlt
      simp [this]
     rw [this];exact hz
  ·
   intro id bk c hx hl
   rcases hcase id bk c hx with ⟨h1,rfl⟩ | ⟨h1,h2⟩
   ·obtain ⟨b,ob,h3,h4,h5⟩:=hr'.blk id bk (hdh id bk h1) hl
    exact ⟨b,ob,F3.bl _ _ h3,h4,by rw [F1];exact h5⟩
   ·obtain ⟨b,ob,h3,h4,h5⟩:=k.hp id bk c h2 hl
    refine ⟨b,ob,F2.bl _ _ h3,?_,Bk.is_mono (Dyn.cut_mono F2 (Cn.Le.refl c)) h5⟩
    have hownD:Own ρ (hpD D H0.heap rvF) b:=⟨id,bk,lgC_to h2,hl,h3⟩
    cases hcb:hc' b with
    | some o2=>rw [hhid b o2 hcb];exact h4
    | none=>
      obtain ⟨id2,bk2,g1,g2,g3⟩:=((q2 b).1 hcb).2 hownD
      rw [hsame b (hsz b ob h4) fun id3 bk3 h6 h7=>?_]
      ·exact h4
      ·obtain ⟨id4,bk',h8,h9,h10,h12⟩:=holdw id3 bk3 b h6 (F2.bl _ _ ((Dyn.cut_le ρ n).bl _ _ h7)) (hsz b ob h4)
       obtain ⟨_,c3,h11,_⟩:=hk id4 bk' h8
       have:id4=id:=k.inj id4 id bk' bk b (lgC_to h11) h9 (lgC_to h2) hl ((Dyn.cut_le ρ n).bl _ _ h10) h3
       subst this
       exact h12 h1
  ·
   have mix:∀ id id' bk bk' b,get r.dh id=some bk→get r.dh id'=none→get (hpD D H0.heap rvF) id'=some bk'→bk'.live=true→ρn.bl id=some b→ρn.bl id'=some b→id=id':=by
    intro id id' bk bk' b g1 gn g2 l2 b1 b2
    obtain ⟨b',o',h1,h2,h3⟩:=hDbl id' bk' g2 l2
    rw [b2] at h2;cases h2
    obtain ⟨id4,bk2,h4,h5,h6,h8⟩:=holdw id bk b g1 b1 (hsz b o' h3)
    obtain ⟨_,c,h7,_⟩:=hk id4 bk2 h4
    have:id4=id':=k.inj id4 id' bk2 bk' b (lgC_to h7) h5 g2 l2 ((Dyn.cut_le ρ n).bl _ _ h6) h1
    subst this
    exact absurd gn h8
   intro id id' bk bk' b g1 l1 g2 l2 b1 b2
   rcases hcase' id bk g1 with h1 | ⟨h1,h1'⟩<;>rcases hcase' id' bk' g2 with h2 | ⟨h2,h2'⟩
   ·rw [Fin id (e3.ids id bk h1).1] at b1
    rw [Fin id' (e3.ids id' bk' h2).1] at b2
    exact hr'.inj id id' bk bk' b (hdh id bk h1) l1 (hdh id' bk' h2) l2 b1 b2
   ·exact mix id id' bk bk' b h1 h2 h2' l2 b1 b2
   ·exact (mix id' id bk' bk b h2 h1 h1' l1 b2 b1).symm
   ·obtain ⟨c1,_,h3,h4,_⟩:=hDbl id bk h1' l1
    obtain ⟨c2,_,h5,h6,_⟩:=hDbl id' bk' h2' l2
    rw [b1] at h4;cases h4
    rw [b2] at h6;cases h6
    exact k.inj id id' bk bk' b h1' l1 h2' l2 h3 h5
  ·
   exact fun f hf=>SB.den_mono (Dyn.cut_mono F2 (Cn.Le.refl _)) _ _ (k.fc0 f hf)
  ·
   intro j s hs hD f hf
   by_cases hji:j=i
   ·subst hji
    have:=hg.uniq hs hir
    subst this
    rw [F1]
    exact hr'.facts f (by rw [dq];exact List.mem_append_left _ hf)
   ·rw [addD_ne hji] at hD
    exact SB.den_mono (Dyn.cut_mono F2 (Cn.Le.refl _)) _ _ (k.fc j s hs hD f hf)
  ·
   exact fun p hp=>C.mono p _ _ _ _ (Dyn.cut_mono F2 (Cn.Le.refl _)) hUn (k.ph0 p hp)
  ·
   intro j s hs hD p hp
   by_cases hji:j=i
   ·subst hji
    have:=hg.uniq hs hir
    subst this
    rw [F1]
    exact C.mono p _ _ _ _ (Dyn.Le.refl _) hUn2 (hr'.phis p (by rw [dp];exact List.mem_append_left _ hp))
   ·rw [addD_ne hji] at hD
    exact C.mono p _ _ _ _ (Dyn.cut_mono F2 (Cn.Le.refl _)) hUn (k.ph j s hs hD p hp)
  ·
   intro j s hs hD
   have hji:j≠i:=fun e=>by subst e;rw [addD_self] at hD;cases hD
   rw [addD_ne hji] at hD
   obtain ⟨h1,h2,h3⟩:=k.un j s hs hD
   have hdis:s.n1.Le n∨r.n1.Le s.n0:=by
    rcases Nat.lt_or_ge j i with h | h
    ·have:=hg.two hs hir h;rw [e3.n0] at this;exact .inl this
    ·exact .inr (hg.two hir hs (by omega))
   refine ⟨fun x a b=>?_,fun x a b=>?_,fun x a b=>?_⟩
   ·show mixN _ _ _ _ x=none
    rw [mixN_out (by rcases hdis with h | h<;>have:=h.1<;>omega)];exact h1 x a b
   ·show mixN _ _ _ _ x=none
    rw [mixN_out (by rcases hdis with h | h<;>have:=h.2.1<;>omega)];exact h2 x a b
   ·show mixN _ _ _ _ x=none
    rw [mixN_out (by rcases hdis with h | h<;>have:=h.2.2<;>omega)];exact h3 x a b
  ·
   refine ⟨fun x a=>?_,fun x a=>?_,fun x a=>?_⟩
   ·show mixN _ _ _ _ x=none
    rw [mixN_out (.inr (by have:=e6.1;omega))];exact k.fin.1 x a
   ·show mixN _ _ _ _ x=none
    rw [mixN_out (.inr (by have:=e6.2.1;omega))];exact k.fin.2.1 x a
   ·show mixN _ _ _ _ x=none
    rw [mixN_out (.inr (by have:=e6.2.2;omega))];exact k.fin.2.2 x a
  ·
   intro x b e
   by_cases hx:n.b≤x∧x < r.n1.b
   ·rw [Fin x hx.2] at e;exact hr'.lt x b e
   ·have e':mixN n.b r.n1.b ρs.bl ρ.bl x=some b:=e
    rw [mixN_out (by omega)] at e'
    exact Nat.lt_of_lt_of_le (k.lt x b e') tn.size
  ·
   intro b ob h
   cases hcb:hc' b with
   | none=>have:=((q2 b).1 hcb).1;rw [h] at this;cases this
   | some o2=>rw [hhid b o2 hcb];exact k.hid b ob h
  ·
   rintro b ⟨id,bk,h1,h2,h3⟩
   rcases hcase' id bk h1 with h4 | ⟨_,h4⟩
   ·rw [Fin id (e3.ids id bk h4).1] at h3
    exact ⟨((q2 b).1 (hr'.nh b ⟨id,bk,hdh id bk h4,h2,h3⟩).1).1,(hr'.nh b ⟨id,bk,hdh id bk h4,h2,h3⟩).2⟩
   ·obtain ⟨b',_,h5,h6,_⟩:=hDbl id bk h4 h2
    rw [h3] at h6;cases h6
    exact k.nh b ⟨id,bk,h4,h2,h5⟩
  ·
   have hbs:=e2.base
   refine ⟨fun x hx=>?_,fun x hx=>?_,fun x hx=>?_,fun b o e=>tn.ag.fz b o (k.ag.fz b o e)⟩
   ·show mixN _ _ _ _ x=_
    have:H0.nb≤n.b:=hbs.1
    rw [mixN_out (.inl (by omega))];exact k.ag.bl x hx
   ·show mixN _ _ _ _ x=_
    have:H0.nd≤n.d:=hbs.2.1
    rw [mixN_out (.inl (by omega))];exact k.ag.di x hx
   ·show mixN _ _ _ _ x=_
    have:H0.nv≤n.v:=hbs.2.2
    rw [mixN_out (.inl (by omega))];exact k.ag.dv x hx
  ·
   have hup:∀ id,get (hpD D [] rvF) id≠none→get (hpD (addD D i) [] rvF) id≠none:=by
    intro id h h'
    cases hgx:get (hpD D [] rvF) id with
    | none=>exact h hgx
    | some bk=>
      rcases lg_from (f:=fun r=>r.dh) hgx with h | ⟨j,s,h1,h2,h3⟩
      ·cases h
      ·rw [lg_all (f:=fun r=>r.dh) h' j s h1 (addD_of h2)] at h3;cases h3
   have hold':∀ id b,ρ.bl id=some b→ρ0.bl id=some b∨W0.heap.size≤b∨∃ id',ρ0.bl id'=some b∧get (hpD (addD D i) [] rvF) id'≠none:=by
    intro id b e
    rcases k.new id b e with h | h | ⟨id',h1,h2⟩
    ·exact .inl h
    ·exact .inr (.inl h)
    ·exact .inr (.inr ⟨id',h1,hup id' h2⟩)
   intro id b e
   by_cases hx:n.b≤id∧id < r.n1.b
   ·rw [Fin id hx.2] at e
    rcases tn.new r.dh dh id b e with h | h | ⟨id',h,h'⟩
    ·simp only [Dyn.cut] at h;rw [if_neg (by omega)] at h;cases h
    ·exact .inr (.inl (Nat.le_trans k.sizeW h))
    ·rcases hold' id' b ((Dyn.cut_le ρ n).bl _ _ h) with h1 | h1 | h1
     ·exact .inr (.inr ⟨id',h1,fun hn=>h' (lg_all (f:=fun r=>r.dh) hn i r hir (addD_self D i))⟩)
     ·exact .inr (.inl h1)
     ·exact .inr (.inr h1)
   ·have e':mixN n.b r.n1.b ρs.bl ρ.bl id=some b:=e
    rw [mixN_out (by omega)] at e'
    exact hold' id b e'
  ·
   intro b hlt hno
   have hall:∀ id,ρ0.bl id=some b→∀ j s,(j,s)∈rvF→addD D i j=true→get s.dh id=none:=fun id e=>lg_all (f:=fun r=>r.dh) (hno id e)
   rw [hsame b (Nat.lt_of_lt_of_le hlt k.sizeW) fun id bk h1 h2=>?_]
   ·refine k.same b hlt fun id e=>?_
    cases hgx:get (hpD D [] rvF) id with
    | none=>rfl
    | some bk=>
      rcases lg_from (f:=fun r=>r.dh) hgx with h | ⟨j,s,h1,h2,h3⟩
      ·cases h
      ·rw [hall id e j s h1 (addD_of h2)] at h3;cases h3
   ·rcases k.new id b ((Dyn.cut_le ρ n).bl _ _ h2) with h | h | ⟨id',h,h'⟩
    ·rw [hall id h i r hir (addD_self D i)] at h1;cases h1
    ·omega
    ·cases hgx:get (hpD D [] rvF) id' with
     | none=>exact h' hgx
     | some bk'=>
       rcases lg_from (f:=fun r=>r.dh) hgx with h3 | ⟨j,s,h3,h4,h5⟩
       ·cases h3
       ·rw [hall id' h j s h3 (addD_of h4)] at h5;cases h5
 ·have hdf:(({ tmps:=tmps,defers:=df }:Act).put o.dst u)={ tmps:=(({ tmps:=tmps,defers:=df }:Act).put o.dst u).tmps,defers:=df }:=by
   cases o.dst<;>rfl
  rw [← hdf]
  exact hst
theorem Closed.add {D:Nat→Bool} {rvF:Rv} {nF:Cn} (hg:Good cc E nst nt T0 H0 ops rvF nF) (h:Closed D rvF) {i:Nat} {r:Rec} (hir:(i,r)∈rvF) (hpr:∀ k∈r.pr,D k=true):Closed (addD D i) rvF:=by
 intro j s hs hD x hx
 by_cases hji:j=i
 ·subst hji
  have:=hg.uniq hs hir
  subst this
  exact addD_of (hpr x hx)
 ·rw [addD_ne hji] at hD
  exact addD_of (h j s hs hD x hx)
end
end Go.Sx
