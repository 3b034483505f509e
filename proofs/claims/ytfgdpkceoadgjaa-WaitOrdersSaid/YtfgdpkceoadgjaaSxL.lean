/- A symbolic executor: regions that draw their order: what each operation does, whatever the order. -/
import Derived.Test.YtfgdpkceoadgjaaSxM
namespace Go.Sx
set_option linter.unusedSectionVars false
set_option linter.unusedVariables false
set_option linter.unusedSimpArgs false
open Go.RowKit
structure Cn where
 b:Nat
 d:Nat
 v:Nat
def Cn.Le (x y:Cn):Prop:=x.b≤y.b∧x.d≤y.d∧x.v≤y.v
theorem Cn.Le.refl (x:Cn):x.Le x:=⟨Nat.le_refl _,Nat.le_refl _,Nat.le_refl _⟩
theorem Cn.Le.trans {x y z:Cn} (h:x.Le y) (k:y.Le z):x.Le z:=⟨Nat.le_trans h.1 k.1,Nat.le_trans h.2.1 k.2.1,Nat.le_trans h.2.2 k.2.2⟩
noncomputable def cnOf (H:Hp):Cn:=⟨H.nb,H.nd,H.nv⟩
structure Rec where
 pr:List Nat
 lk:List Nat
 dst:Option Nat
 z:SV
 dh:List (Nat×Bk)
 dp:List Nat
 dq:List (SB×Bool)
 n0:Cn
 n1:Cn
 vis:Option (List Nat)
 wo:List Nat
 ex:Option (SB×Bool)
abbrev Rv:=List (Nat×Rec)
noncomputable def lg {α:Type} (D:Nat→Bool) (h0:List (Nat×α)) (f:Rec→List (Nat×α)) (rv:Rv):List (Nat×α):=
 List.rec (motive:=fun _=>List (Nat×α)) h0 (fun e _ ih=>bif D e.1 then lapp (f e.2) ih else ih) rv
noncomputable def hpD (D:Nat→Bool) (h0:List (Nat×Bk)) (rv:Rv):List (Nat×Bk):=lg D h0 (fun r=>r.dh) rv
noncomputable def phD (D:Nat→Bool) (p0:List Nat) (rv:Rv):List Nat:=
 List.rec (motive:=fun _=>List Nat) p0 (fun e _ ih=>bif D e.1 then lapp e.2.dp ih else ih) rv
noncomputable def fcD (D:Nat→Bool) (f0:List (SB×Bool)) (rv:Rv):List (SB×Bool):=
 List.rec (motive:=fun _=>List (SB×Bool)) f0 (fun e _ ih=>bif D e.1 then lapp e.2.dq ih else ih) rv
def tmF (r:Rec):List (Nat×SV):=match r.dst with | some d=>[(d,r.z)] | none=>[]
noncomputable def tmD (D:Nat→Bool) (T0:List (Nat×SV)) (rv:Rv):List (Nat×SV):=lg D T0 tmF rv
noncomputable def ladd (x:Nat) (l:List Nat):List Nat:=bif lmem l x then l else x::l
noncomputable def luni (l l':List Nat):List Nat:=List.rec (motive:=fun _=>List Nat) l' (fun x _ ih=>ladd x ih) l
theorem mem_ladd {x y:Nat} {l:List Nat}:y∈ladd x l↔y=x∨y∈l:=by
 unfold ladd
 cases h:lmem l x with
 | true=>
   have:=lmem_iff.1 h
   simp only [cond_true]
   exact ⟨.inr,fun h=>by rcases h with rfl | h<;>assumption⟩
 | false=>simp
theorem mem_luni {y:Nat} {l l':List Nat}:y∈luni l l'↔y∈l∨y∈l':=by
 induction l with
 | nil=>simp [luni]
 | cons a l ih=>
   have e:luni (a::l) l'=ladd a (luni l l'):=rfl
   rw [e,mem_ladd,ih]
   simp [or_assoc]
noncomputable def predsOf (rv:Rv) (es:List Edge):Option (List Nat):=
 List.rec (motive:=fun _=>Option (List Nat)) (some []) (fun e _ ih=>bif Region.binds .any e then (match get rv e.on,ih with
  | some r,some l=>some (ladd e.on (luni r.pr l))
  | _,_=>none) else ih) es
theorem predsOf_ok {rv:Rv}:∀ {es:List Edge} {l:List Nat},predsOf rv es=some l→
  (∀ e∈es,Region.binds .any e=true→e.on∈l)∧(∀ j∈l,∃ q r,get rv q=some r∧(j=q∨j∈r.pr))∧(∀ e∈es,Region.binds .any e=true→∀ r,get rv e.on=some r→∀ j∈r.pr,j∈l)∧
  (∀ j∈l,(∃ e∈es,Region.binds .any e=true∧(j=e.on∨∃ r,get rv e.on=some r∧j∈r.pr)))
 | [],l,h=>by
   have h':some []=some l:=h
   cases h'
   exact ⟨by simp,by simp,by simp,by simp⟩
 | e::es,l,h=>by
   have h':(bif Region.binds .any e then (match get rv e.on,predsOf rv es with
    | some r,some l=>some (ladd e.on (luni r.pr l))
    | _,_=>none) else predsOf rv es)=some l:=h
   cases hb:Region.binds .any e with
   | false=>
     rw [hb] at h'
     obtain ⟨i1,i2,i3,i4⟩:=predsOf_ok (es:=es) h'
     refine ⟨fun x hx hbx=>?_,i2,fun x hx hbx=>?_,fun j hj=>?_⟩
     ·rcases List.mem_cons.1 hx with rfl | hx
      ·rw [hb] at hbx;cases hbx
      ·exact i1 x hx hbx
     ·rcases List.mem_cons.1 hx with rfl | hx
      ·rw [hb] at hbx;cases hbx
      ·exact i3 x hx hbx
     ·obtain ⟨x,hx,r⟩:=i4 j hj
      exact ⟨x,List.mem_cons_of_mem _ hx,r⟩
   | true=>
     rw [hb] at h'
     simp only [cond_true] at h'
     split at h'
     ·rename_i r l' hr hl
      cases h'
      obtain ⟨i1,i2,i3,i4⟩:=predsOf_ok (es:=es) hl
      refine ⟨fun x hx hbx=>?_,fun j hj=>?_,fun x hx hbx=>?_,fun j hj=>?_⟩
      ·rw [mem_ladd,mem_luni]
       rcases List.mem_cons.1 hx with rfl | hx
       ·exact .inl rfl
       ·exact .inr (.inr (i1 x hx hbx))
      ·rw [mem_ladd,mem_luni] at hj
       rcases hj with rfl | hj | hj
       ·exact ⟨_,r,hr,.inl rfl⟩
       ·exact ⟨_,r,hr,.inr hj⟩
       ·exact i2 j hj
      ·rcases List.mem_cons.1 hx with rfl | hx
       ·intro r' hr' j hj
        rw [hr] at hr';cases hr'
        rw [mem_ladd,mem_luni]
        exact .inr (.inl hj)
       ·intro r' hr' j hj
        rw [mem_ladd,mem_luni]
        exact .inr (.inr (i3 x hx hbx r' hr' j hj))
      ·rw [mem_ladd,mem_luni] at hj
       rcases hj with rfl | hj | hj
       ·exact ⟨e,by simp,hb,.inl rfl⟩
       ·exact ⟨e,by simp,hb,.inr ⟨r,hr,hj⟩⟩
       ·obtain ⟨x,hx,r⟩:=i4 j hj
        exact ⟨x,List.mem_cons_of_mem _ hx,r⟩
     ·cases h'
def SI.stat:SI→Bool
 | .c _ | .v _=>true
 | .d _=>false
 | .op _ x y=>x.stat && y.stat
 | .wk _ x=>x.stat
 | .ap _ a0 a1 a2 a3 a4 a5=>a0.stat && a1.stat && a2.stat && a3.stat && a4.stat && a5.stat
def SB.stat:SB→Bool
 | .c _ | .v _ | .seq _ _=>true
 | .lt x y | .le x y | .eq x y=>x.stat && y.stat
 | .ap _ a0 a1 a2 a3 a4 a5=>a0.stat && a1.stat && a2.stat && a3.stat && a4.stat && a5.stat
 | .not p=>p.stat
 | .and p q | .or p q=>p.stat && q.stat
theorem SI.stat_den {σ:Sta} {ρ:Dyn}:∀ {x:SI},x.stat=true→∃ n,x.den σ ρ=some n:=by
 intro x
 induction x with
 | c n=>exact fun _=>⟨_,rfl⟩
 | v i=>exact fun _=>⟨_,rfl⟩
 | d i=>intro h;cases h
 | op f x y hx hy=>
   intro h
   simp only [SI.stat,Bool.and_eq_true] at h
   obtain ⟨a,ha⟩:=hx h.1;obtain ⟨b,hb⟩:=hy h.2
   exact ⟨_,by simp [SI.den,ha,hb];rfl⟩
 | wk k x hx=>
   intro h
   obtain ⟨a,ha⟩:=hx h
   exact ⟨_,by simp [SI.den,ha];rfl⟩
 | ap f a b c d e g ha hb hc hd he hg=>
   intro h
   simp only [SI.stat,Bool.and_eq_true] at h
   obtain ⟨x0,h0⟩:=ha h.1.1.1.1.1;obtain ⟨x1,h1⟩:=hb h.1.1.1.1.2;obtain ⟨x2,h2⟩:=hc h.1.1.1.2
   obtain ⟨x3,h3⟩:=hd h.1.1.2;obtain ⟨x4,h4⟩:=he h.1.2;obtain ⟨x5,h5⟩:=hg h.2
   exact ⟨_,by simp [SI.den,h0,h1,h2,h3,h4,h5];rfl⟩
theorem SB.stat_den {σ:Sta} {ρ:Dyn}:∀ {x:SB},x.stat=true→∃ b,x.den σ ρ=some b:=by
 intro x
 induction x with
 | c b=>exact fun _=>⟨_,rfl⟩
 | v i=>exact fun _=>⟨_,rfl⟩
 | seq x y=>exact fun _=>⟨_,rfl⟩
 | lt x y=>
   intro h;simp only [SB.stat,Bool.and_eq_true] at h
   obtain ⟨a,ha⟩:=SI.stat_den (σ:=σ) (ρ:=ρ) h.1;obtain ⟨b,hb⟩:=SI.stat_den (σ:=σ) (ρ:=ρ) h.2
   exact ⟨_,by simp [SB.den,ha,hb];rfl⟩
 | le x y=>
   intro h;simp only [SB.stat,Bool.and_eq_true] at h
   obtain ⟨a,ha⟩:=SI.stat_den (σ:=σ) (ρ:=ρ) h.1;obtain ⟨b,hb⟩:=SI.stat_den (σ:=σ) (ρ:=ρ) h.2
   exact ⟨_,by simp [SB.den,ha,hb];rfl⟩
 | eq x y=>
   intro h;simp only [SB.stat,Bool.and_eq_true] at h
   obtain ⟨a,ha⟩:=SI.stat_den (σ:=σ) (ρ:=ρ) h.1;obtain ⟨b,hb⟩:=SI.stat_den (σ:=σ) (ρ:=ρ) h.2
   exact ⟨_,by simp [SB.den,ha,hb];rfl⟩
 | ap f a b c d e g=>
   intro h
   simp only [SB.stat,Bool.and_eq_true] at h
   obtain ⟨x0,h0⟩:=SI.stat_den (σ:=σ) (ρ:=ρ) h.1.1.1.1.1;obtain ⟨x1,h1⟩:=SI.stat_den (σ:=σ) (ρ:=ρ) h.1.1.1.1.2;obtain ⟨x2,h2⟩:=SI.stat_den (σ:=σ) (ρ:=ρ) h.1.1.1.2
   obtain ⟨x3,h3⟩:=SI.stat_den (σ:=σ) (ρ:=ρ) h.1.1.2;obtain ⟨x4,h4⟩:=SI.stat_den (σ:=σ) (ρ:=ρ) h.1.2;obtain ⟨x5,h5⟩:=SI.stat_den (σ:=σ) (ρ:=ρ) h.2
   exact ⟨_,by simp [SB.den,h0,h1,h2,h3,h4,h5];rfl⟩
 | not p hp=>intro h;obtain ⟨a,ha⟩:=hp h;exact ⟨!a,by simp [SB.den,ha]⟩
 | and p q hp hq=>
   intro h;simp only [SB.stat,Bool.and_eq_true] at h
   obtain ⟨a,ha⟩:=hp h.1;obtain ⟨b,hb⟩:=hq h.2
   exact ⟨_,by simp [SB.den,ha,hb];rfl⟩
 | or p q hp hq=>
   intro h;simp only [SB.stat,Bool.and_eq_true] at h
   obtain ⟨a,ha⟩:=hp h.1;obtain ⟨b,hb⟩:=hq h.2
   exact ⟨_,by simp [SB.den,ha,hb];rfl⟩
def SI.dlo (k:Nat):SI→Bool
 | .c _ | .v _=>true
 | .d i=>Nat.blt i k
 | .op _ x y=>x.dlo k && y.dlo k
 | .wk _ x=>x.dlo k
 | .ap _ a0 a1 a2 a3 a4 a5=>a0.dlo k && (a1.dlo k && (a2.dlo k && (a3.dlo k && (a4.dlo k && a5.dlo k))))
def SB.dlo (k:Nat):SB→Bool
 | .c _ | .v _ | .seq _ _=>true
 | .lt x y | .le x y | .eq x y=>x.dlo k && y.dlo k
 | .ap _ a0 a1 a2 a3 a4 a5=>a0.dlo k && (a1.dlo k && (a2.dlo k && (a3.dlo k && (a4.dlo k && a5.dlo k))))
 | .not p=>p.dlo k
 | .and p q | .or p q=>p.dlo k && q.dlo k
theorem SI.dlo_den {σ:Sta} {ρ ρ':Dyn} {k:Nat} (h:∀ i,i < k→ρ'.di i=ρ.di i):∀ {x:SI},x.dlo k=true→x.den σ ρ'=x.den σ ρ:=by
 intro x
 induction x with
 | c n=>exact fun _=>rfl
 | v i=>exact fun _=>rfl
 | d i=>
   intro hx
   have:i < k:=by simpa [SI.dlo,Nat.blt_eq] using hx
   simp only [SI.den,h i this]
 | op f x y hx hy=>
   intro hh
   simp only [SI.dlo,Bool.and_eq_true] at hh
   simp only [SI.den,hx hh.1,hy hh.2]
 | wk k x hx=>intro hh;simp only [SI.den,hx hh]
 | ap f a0 a1 a2 a3 a4 a5 h0 h1 h2 h3 h4 h5=>
   intro hh
   simp only [SI.dlo,Bool.and_eq_true] at hh
   simp only [SI.den,h0 hh.1,h1 hh.2.1,h2 hh.2.2.1,h3 hh.2.2.2.1,h4 hh.2.2.2.2.1,h5 hh.2.2.2.2.2]
theorem SB.dlo_den {σ:Sta} {ρ ρ':Dyn} {k:Nat} (h:∀ i,i < k→ρ'.di i=ρ.di i):∀ {x:SB},x.dlo k=true→x.den σ ρ'=x.den σ ρ:=by
 intro x
 induction x with
 | c b=>exact fun _=>rfl
 | v i=>exact fun _=>rfl
 | seq x y=>exact fun _=>rfl
 | lt x y=>intro hh;simp only [SB.dlo,Bool.and_eq_true] at hh;simp only [SB.den,SI.dlo_den h hh.1,SI.dlo_den h hh.2]
 | le x y=>intro hh;simp only [SB.dlo,Bool.and_eq_true] at hh;simp only [SB.den,SI.dlo_den h hh.1,SI.dlo_den h hh.2]
 | eq x y=>intro hh;simp only [SB.dlo,Bool.and_eq_true] at hh;simp only [SB.den,SI.dlo_den h hh.1,SI.dlo_den h hh.2]
 | ap f a0 a1 a2 a3 a4 a5=>
   intro hh
   simp only [SB.dlo,Bool.and_eq_true] at hh
   simp only [SB.den,SI.dlo_den h hh.1,SI.dlo_den h hh.2.1,SI.dlo_den h hh.2.2.1,SI.dlo_den h hh.2.2.2.1,SI.dlo_den h hh.2.2.2.2.1,SI.dlo_den h hh.2.2.2.2.2]
 | not p hp=>intro hh;simp only [SB.den,hp hh]
 | and p q hp hq=>intro hh;simp only [SB.dlo,Bool.and_eq_true] at hh;simp only [SB.den,hp hh.1,hq hh.2]
 | or p q hp hq=>intro hh;simp only [SB.dlo,Bool.and_eq_true] at hh;simp only [SB.den,hp hh.1,hq hh.2]
inductive Nr where
 | done (z:SV) (H:Hp)
 | ask (p:SB)
 | bad (why:Nat)
def NstOk (cc:Cc) (C:Ct) (nst:Fr→Hp→Nr):Prop:=
 (∀ hc w0 cs ρ f H m z H',Sat C hc w0 cs ρ f [] H m→nst f H=.done z H'→
  ∃ ρ' u w',Tn ρ H m.world ρ' H' w'∧Ends cc.P m cs (botOf f []).1 (botOf f []).2 u w'∧z.Is C.σ ρ' u∧HpRel C hc w0 ρ' H' w')∧
 ∀ hc w0 cs ρ f H m p,Sat C hc w0 cs ρ f [] H m→nst f H=.ask p→p.dlo H.nd=true→∃ b,p.den C.σ ρ=some b
noncomputable def seesV (v:Option (List Nat)) (id:Nat):Bool:=match v with | none=>true | some l=>lmem l id
noncomputable def visH (v:Option (List Nat)) (h:List (Nat×Bk)):List (Nat×Bk):=
 match v with
 | none=>h
 | some l=>List.rec (motive:=fun _=>List (Nat×Bk)) [] (fun id _ ih=>match get h id with | some bk=>(id,bk)::ih | none=>ih) l
theorem visH_get {v:Option (List Nat)} {h:List (Nat×Bk)} {id:Nat} {bk:Bk} (e:get (visH v h) id=some bk):seesV v id=true∧get h id=some bk:=by
 cases v with
 | none=>exact ⟨rfl,e⟩
 | some l=>
   show lmem l id=true∧_
   induction l with
   | nil=>cases e
   | cons a l ih=>
     have e':get (match get h a with | some bk=>(a,bk)::visH (some l) h | none=>visH (some l) h) id=some bk:=e
     cases hg:get h a with
     | none=>
       rw [hg] at e'
       obtain ⟨h1,h2⟩:=ih e'
       exact ⟨lmem_iff.2 (List.mem_cons_of_mem _ (lmem_iff.1 h1)),h2⟩
     | some b=>
       rw [hg] at e'
       simp only [get_cons] at e'
       split at e'
       ·rename_i hh;cases e';subst hh;exact ⟨lmem_iff.2 (by simp),hg⟩
       ·obtain ⟨h1,h2⟩:=ih e'
        exact ⟨lmem_iff.2 (List.mem_cons_of_mem _ (lmem_iff.1 h1)),h2⟩
noncomputable def slId (z:SV):Option (List Nat):=match z with | .sl (.n id) _ _ _=>some [id] | .sl _ _ _ _=>some [] | .sn=>some [] | .st _=>some [] | _=>none
noncomputable def visOf (T:List (Nat×SV)) (op:Op):Option (List Nat):=
 match op with
 | .move _ | .assign _ | .pick _ _ _ | .build _ _ | .binOp _ _ _ _ _ | .unOp _ _ _ | .makeFunc _ _ _ | .fieldAddr _ _ _ | .field _ _ _ | .indexAddr _ _ _ | .index _ _ _ | .extract _ _ | .slice _ _ _ _ _ | .nilCheck _=>some []
 | .alloc _ | .box _ _ | .buildSlice _ _ _ | .makeMap _ _=>some []
 | .convert _ _ x=>match ev T x with | .it _ _ | .bo _ | .st _=>some [] | _=>none
 | .load _ a=>match ev T a with | .pt (.n id) _=>some [id] | .pt _ _=>some [] | _=>none
 | .store _ a _=>match ev T a with | .pt (.n id) _=>some [id] | .pt _ _=>some [] | _=>none
 | .call c=>match c.callee with
   | .builtin .len=>match evs T c.args with | [.mp (.n id)]=>some [id] | _=>some []
   | .builtin .cap | .builtin .min | .builtin .max=>some []
   | .builtin .append=>match evs T c.args with
     | [a,b]=>match slId a,slId b with
       | some l,some l'=>some (lapp l l')
       | _,_=>none
     | _=>none
   | _=>none
 | _=>none
noncomputable def hiOf (H0:Hp) (rv:Rv) (n0:Cn) (vis:Option (List Nat)) (pr:List Nat):Hp:=
 { heap:=visH vis (hpD (lmem pr) H0.heap rv),nb:=n0.b,nd:=n0.d,nv:=n0.v,facts:=fcD (lmem pr) H0.facts rv,phis:=phD (lmem pr) H0.phis rv,bd:=H0.bd }
noncomputable def tlOf (T0:List (Nat×SV)) (rv:Rv) (pr lk:List Nat):List (Nat×SV):=
 let T:=tmD (lmem pr) T0 rv
 List.rec (motive:=fun _=>List (Nat×SV)) [] (fun t _ ih=>match get T t with | some z=>(t,z)::ih | none=>ih) lk
theorem tlOf_get {T0:List (Nat×SV)} {rv:Rv} {pr:List Nat}:∀ {lk:List Nat} {t:Nat} {z:SV},get (tlOf T0 rv pr lk) t=some z→t∈lk∧get (tmD (lmem pr) T0 rv) t=some z
 | [],_,_,h=>by cases h
 | a::lk,t,z,h=>by
   have h':get (match get (tmD (lmem pr) T0 rv) a with | some z=>(a,z)::tlOf T0 rv pr lk | none=>tlOf T0 rv pr lk) t=some z:=h
   split at h'
   ·rename_i z' hz
    rw [get_cons] at h'
    split at h'
    ·rename_i e;cases h';simp only at e;subst e;exact ⟨by simp,hz⟩
    ·obtain ⟨h1,h2⟩:=tlOf_get h';exact ⟨List.mem_cons_of_mem _ h1,h2⟩
   ·obtain ⟨h1,h2⟩:=tlOf_get h';exact ⟨List.mem_cons_of_mem _ h1,h2⟩
inductive Er where
 | ok (z:SV) (H:Hp)
 | ask (p:SB)
 | bad (why:Nat)
noncomputable def doOp (cc:Cc) (E:Ents) (nst:Fr→Hp→Nr) (H:Hp) (T:List (Nat×SV)) (ops:Array Oper) (o:Oper):Er:=
 match wantS cc H T ops o with
 | some (.yes false)=>.ok (.tp []) H
 | some (.yes true)=>match symOp cc H T o.op with
   | .val z H'=>.ok z H'
   | .enter g args=>match fent E H g args with
     | .ok z H'=>.ok z H'
     | .ask p=>.ask p
     | .bad=>.bad 302
     | .no=>match cc.P.funcs[g]? with
       | some fn=>match fn.body with
         | some body=>match nst (enterF g fn body args) H with
           | .done z H'=>.ok z H'
           | .ask p=>.ask p
           | .bad n=>.bad n
         | none=>.bad 300
       | none=>.bad 301
   | .round id args=>match roundF H id args with
     | some g=>match nst g H with
       | .done z H'=>.ok z H'
       | .ask p=>.ask p
       | .bad n=>.bad n
     | none=>.bad 302
   | .ask p=>.ask p
   | .bad n=>.bad n
 | some (.ask q)=>.ask q
 | none=>.bad 303
section
variable {cc:Cc} {C:Ct} {E:Ents} {nst:Fr→Hp→Nr} {hc:Nat→Option Obj} {w0:World} {cs:List Frame} {ρ ρ':Dyn} {H:Hp} {w:World}
theorem doOp_ok (hcc:cc.Ok C) (hE:EntsOk cc C E) (hn:NstOk cc C nst) {ops:Array Oper} {o:Oper} {i:Nat} {rest:List Nat} {k:List Item} {nt:Nat} {T:List (Nat×SV)} {tmps:Array Value} {df:List Deferred} {ro:Option Nat} {fn:FuncId} {z:SV} {H':Hp}
  (hh:HpRel C hc w0 ρ H w) (ht:TmRel C.σ ρ nt T tmps) (ho:ops[i]? = some o) (h:doOp cc E nst H T ops o=.ok z H') :
  ∃ ρ' u w',Tn ρ H w ρ' H' w'∧z.Is C.σ ρ' u∧HpRel C hc w0 ρ' H' w'∧
    Steps cc.P (lone ((bF fn ro).atR { tmps:=tmps,defers:=df } (.inRegion ops (i::rest)::k)) cs w) (lone ((bF fn ro).atR (({ tmps:=tmps,defers:=df }:Act).put o.dst u) (.inRegion ops rest::k)) cs w'):=by
 have hfin:∀ u,((bF fn ro).atR { tmps:=tmps,defers:=df } (.inRegion ops (i::rest)::k)).finish u=(bF fn ro).atR (({ tmps:=tmps,defers:=df }:Act).put o.dst u) (.inRegion ops rest::k):=fun u=>by
  rw [Frame.finish_atR,ho];rfl
 unfold doOp at h
 split at h
 ·rename_i hw
  cases h
  have hw':=(wantS_ok hcc hh ht hw).1 false rfl
  refine ⟨ρ,undef,w,Tn.refl ρ H w,by simp only [SV.Is];exact ⟨[],SV.isL_nil.2 rfl,rfl⟩,hh,.one ?_⟩
  have:=stepR_op_skip (P:=cc.P) (b:=bF fn ro) (a:={ tmps:=tmps,defers:=df }) (k:=k) (cs:=cs) (w:=w) (ops:=ops) (i:=i) (rest:=rest) (by simp only [ho,Option.map_some,Option.getD_some];exact hw')
  rw [ho] at this
  exact this
 ·rename_i hw
  have hw':=(wantS_ok hcc hh ht hw).1 true rfl
  have hop:=symOp_ok hcc hh (evOk_of (a:={ tmps:=tmps,defers:=df }) ht) o
  have hnd:∀ z,symOp cc H T o.op=z→(∀ n,z≠.bad n)→∀ c,o.op≠.defer c:=by
   intro z hz hb c hcd
   rw [hcd,symOp_defer] at hz
   exact hb 117 hz.symm
  split at h
  ·rename_i z' H2 hsym
   cases h
   have hnd':=hnd _ hsym (by simp)
   rw [hsym] at hop
   obtain ⟨ρ',n,u,w',h2,h3,h4,h5,h6⟩:=hop
   refine ⟨ρ',u,w',h2,h5,h6,.one ?_⟩
   rw [← hfin]
   exact step_val ho hw' hnd' h3 h4
  ·rename_i g args hsym
   have hnd':=hnd _ hsym (by simp)
   rw [hsym] at hop
   obtain ⟨us,h2,h3,_⟩:=hop
   have hst:=step_enter (P:=cc.P) (b:=bF fn ro) (a:={ tmps:=tmps,defers:=df }) (k:=k) (cs:=cs) (rest:=rest) ho hw' hnd' h2
   split at h
   ·rename_i z' H2 he
    cases h
    obtain ⟨app,hok,happ⟩:=fent_ok hE he
    obtain ⟨e,w',fr1,⟨ρ',u,rfl,h4,h5,h6⟩,hc1,_,hleave⟩:=(hok hc w0 ρ H w args us hh h3).1 z H' happ ((bF fn ro).atR { tmps:=tmps,defers:=df } (.inRegion ops (i::rest)::k)::cs)
    refine ⟨ρ',u,w',h4,h5,h6,?_⟩
    rw [← hfin]
    exact (Steps.one hst).trans (Steps.trans hc1 (.one (step_leave_returned hleave)))
   ·cases h
   ·cases h
   ·split at h
    ·rename_i fn' hfn
     split at h
     ·rename_i body hb
      split at h
      ·rename_i z' H2 hnn
       cases h
       have hsat:Sat C hc w0 ((bF fn ro).atR { tmps:=tmps,defers:=df } (.inRegion ops (i::rest)::k)::cs) ρ (enterF g fn' body args) [] H (lone (Frame.enter cc.P g us.toArray .normal) ((bF fn ro).atR { tmps:=tmps,defers:=df } (.inRegion ops (i::rest)::k)::cs) w):=
        ⟨_,[],w,rfl,enterF_ok hfn hb h3,rfl,hh⟩
       obtain ⟨ρ',u,w',h4,h5,h6,h7⟩:=hn.1 _ _ _ _ _ _ _ _ _ hsat hnn
       refine ⟨ρ',u,w',h4,h6,h7,?_⟩
       rw [← hfin]
       exact (Steps.one hst).trans (h5.fin _ _ rfl)
      ·cases h
      ·cases h
     ·cases h
    ·cases h
  ·rename_i id args hsym
   have hnd':=hnd _ hsym (by simp)
   rw [hsym] at hop
   obtain ⟨b,us,h2,h3,h4⟩:=hop
   split at h
   ·rename_i g hg
    obtain ⟨gf,tm',asg,body,h5,h6⟩:=roundF_ok (P:=cc.P) hh h2 h4 hg
    have hst:=step_round (P:=cc.P) (b:=bF fn ro) (a:={ tmps:=tmps,defers:=df }) (k:=k) (cs:=cs) (rest:=rest) ho hw' hnd' (h3.trans h5)
    split at h
    ·rename_i z' H2 hnn
     cases h
     have hsat:Sat C hc w0 ((bF fn ro).atR { tmps:=tmps,defers:=df } (.inRegion ops (i::rest)::k)::cs) ρ g [] H (lone (Frame.round b gf tm' asg body .normal) ((bF fn ro).atR { tmps:=tmps,defers:=df } (.inRegion ops (i::rest)::k)::cs) w):=
      ⟨_,[],w,rfl,h6,rfl,hh⟩
     obtain ⟨ρ',u,w',h7,h8,h9,h10⟩:=hn.1 _ _ _ _ _ _ _ _ _ hsat hnn
     refine ⟨ρ',u,w',h7,h9,h10,?_⟩
     rw [← hfin]
     exact (Steps.one hst).trans (h8.fin _ _ rfl)
    ·cases h
    ·cases h
   ·cases h
  ·cases h
  ·cases h
 ·cases h
 ·cases h
theorem doOp_ask (hcc:cc.Ok C) (hE:EntsOk cc C E) (hn:NstOk cc C nst) {ops:Array Oper} {o:Oper} {nt:Nat} {T:List (Nat×SV)} {tmps:Array Value} {p:SB}
  (hh:HpRel C hc w0 ρ H w) (ht:TmRel C.σ ρ nt T tmps) (h:doOp cc E nst H T ops o=.ask p) (hp:p.dlo H.nd=true):∃ b,p.den C.σ ρ=some b:=by
 unfold doOp at h
 split at h
 ·cases h
 ·rename_i hw
  have hw':=(wantS_ok hcc hh ht hw).1 true rfl
  have hop:=symOp_ok hcc hh (evOk_of (a:={ tmps:=tmps,defers:=[] }) ht) o
  split at h
  ·cases h
  ·rename_i g args hsym
   rw [hsym] at hop
   obtain ⟨us,h2,h3,_⟩:=hop
   split at h
   ·cases h
   ·rename_i q he
    cases h
    obtain ⟨app,hok,happ⟩:=fent_ask hE he
    exact (hok hc w0 ρ H w args us hh h3).2 p happ
   ·cases h
   ·split at h
    ·rename_i fn' hfn
     split at h
     ·rename_i body hb
      split at h
      ·cases h
      ·rename_i q hnn
       cases h
       have hsat:Sat C hc w0 [] ρ (enterF g fn' body args) [] H (lone (Frame.enter cc.P g us.toArray .normal) [] w):=
        ⟨_,[],w,rfl,enterF_ok hfn hb h3,rfl,hh⟩
       exact hn.2 _ _ _ _ _ _ _ _ hsat hnn hp
      ·cases h
     ·cases h
    ·cases h
  ·rename_i id args hsym
   rw [hsym] at hop
   obtain ⟨b,us,h2,h3,h4⟩:=hop
   split at h
   ·rename_i g hg
    obtain ⟨gf,tm',asg,body,h5,h6⟩:=roundF_ok (P:=cc.P) hh h2 h4 hg
    split at h
    ·cases h
    ·rename_i q hnn
     cases h
     have hsat:Sat C hc w0 [] ρ g [] H (lone (Frame.round b gf tm' asg body .normal) [] w):=
      ⟨_,[],w,rfl,h6,rfl,hh⟩
     exact hn.2 _ _ _ _ _ _ _ _ hsat hnn hp
    ·cases h
   ·cases h
  ·rename_i q hsym
   cases h
   rw [hsym] at hop
   exact hop
  ·cases h
 ·rename_i q hw
  cases h
  exact (wantS_ok hcc hh ht hw).2 _ rfl
 ·cases h
end
end Go.Sx
