/- A symbolic executor: regions that draw their order: whatever the order, one outcome. -/
import Derived.Test.YtfgdpkceoadgjaaSxL
namespace Go.Sx
set_option linter.unusedSectionVars false
set_option linter.unusedVariables false
set_option linter.unusedSimpArgs false
open Go.RowKit
def dstLt (nt:Nat):Option Nat→Bool
 | some d=>Nat.blt d nt
 | none=>true
noncomputable def offR (lk:List Nat):Option Nat→Bool
 | some d=>!lmem lk d
 | none=>true
def neD:Option Nat→Option Nat→Bool
 | some d,some d'=>!Nat.beq d d'
 | _,_=>true
noncomputable def okOps (rv:Rv) (pr lk:List Nat) (dst:Option Nat) (vis:Option (List Nat)) (wo:List Nat):Bool:=
 lall (fun e=>bif lmem pr e.1 then true else offR lk e.2.dst && (neD e.2.dst dst && (offR e.2.lk dst && (lall (fun id=>!seesV e.2.vis id) wo && lall (fun id=>!seesV vis id) e.2.wo)))) rv
noncomputable def okIds (Hi:Hp) (b1:Nat) (dh:List (Nat×Bk)):Bool:=
 lall (fun p=>bif Nat.blt p.1 b1 then (bif Nat.blt p.1 Hi.nb then (match get Hi.heap p.1 with | some bk=>bk.live | none=>false) else true) else false) dh
noncomputable def oldIds (b0:Nat) (dh:List (Nat×Bk)):List Nat:=
 List.rec (motive:=fun _=>List Nat) [] (fun p _ ih=>bif Nat.blt p.1 b0 then p.1::ih else ih) dh
theorem mem_oldIds {b0:Nat} {dh:List (Nat×Bk)} {p:Nat×Bk} (h:p∈dh) (hl:p.1 < b0):p.1∈oldIds b0 dh:=by
 induction dh with
 | nil=>cases h
 | cons q dh ih=>
   have e:oldIds b0 (q::dh)=bif Nat.blt q.1 b0 then q.1::oldIds b0 dh else oldIds b0 dh:=rfl
   rw [e]
   rcases List.mem_cons.1 h with rfl | h
   ·rw [show Nat.blt p.1 b0=true by simp [Nat.blt_eq,hl]];simp
   ·cases Nat.blt q.1 b0 with
    | true=>exact List.mem_cons_of_mem _ (ih h)
    | false=>exact ih h
inductive RD where
 | ok (r:Rec)
 | ask (p:SB)
 | bad (why:Nat)
noncomputable def diff {α:Type} (l l0:List α):List α:=ltake l (Nat.sub (llen l) (llen l0))
theorem diff_eq {α:Type} {l l0 d:List α} (h:l=d++l0):diff l l0=d:=by
 unfold diff
 rw [ltake_eq,llen_eq,llen_eq,h]
 have:Nat.sub (d++l0).length l0.length=d.length:=by show (d++l0).length - l0.length=_;simp
 rw [this];simp
noncomputable def Hp.lrnO (H:Hp) (ex:Option (SB×Bool)):Hp:=match ex with | none=>H | some f=>H.learn f.1 f.2
noncomputable def mkRec (Hi H':Hp) (z:SV) (dst:Option Nat) (pr lk:List Nat) (n0:Cn) (vis:Option (List Nat)) (rv:Rv) (ex:Option (SB×Bool)):Option Rec:=
 let dh:=diff H'.heap Hi.heap
 let wo:=oldIds n0.b dh
 bif Nat.ble n0.b H'.nb && (Nat.ble n0.d H'.nd && Nat.ble n0.v H'.nv) then
  (bif okOps rv pr lk dst vis wo then
   (bif okIds Hi H'.nb dh then some ⟨pr,lk,dst,z,dh,diff H'.phis Hi.phis,diff H'.facts Hi.facts,n0,cnOf H',vis,wo,ex⟩
    else none)
   else none)
  else none
noncomputable def whyRec (Hi H':Hp) (dst:Option Nat) (pr lk:List Nat) (n0:Cn) (vis:Option (List Nat)) (rv:Rv):Nat:=
 let dh:=diff H'.heap Hi.heap
 Nat.add (Nat.mul 1000 (Nat.succ (llen rv))) (bif okOps rv pr lk dst vis (oldIds n0.b dh) then (bif okIds Hi H'.nb dh then 3 else 2) else 1)
noncomputable def opX (cc:Cc) (E:Ents) (nst:Fr→Hp→Nr) (nt:Nat) (T0:List (Nat×SV)) (H0:Hp) (ops:Array Oper) (rv:Rv) (n0:Cn) (o:Oper) (ex:Option (SB×Bool)):RD:=
 match predsOf rv o.after.toList with
 | none=>.bad 310
 | some pr=>
   let lk:=o.looksAt ops
   let vis:=visOf (tlOf T0 rv pr lk) o.op
   let Hi:=hiOf H0 rv n0 vis pr
   bif dstLt nt o.dst then
    (match doOp cc E nst (Hi.lrnO ex) (tlOf T0 rv pr lk) ops o with
    | .ok z H'=>match mkRec Hi H' z o.dst pr lk n0 vis rv ex with
      | some r=>.ok r
      | none=>.bad (whyRec Hi H' o.dst pr lk n0 vis rv)
    | .ask p=>.ask p
    | .bad n=>.bad n) else .bad 313
noncomputable def opD (cc:Cc) (E:Ents) (nst:Fr→Hp→Nr) (nt:Nat) (T0:List (Nat×SV)) (H0:Hp) (ops:Array Oper) (rv:Rv) (n0:Cn) (o:Oper):RD:=
 match opX cc E nst nt T0 H0 ops rv n0 o none with
 | .ok r=>.ok r
 | .ask p=>bif p.stat then .ask p else .bad 312
 | .bad n=>.bad n
noncomputable def drawL (cc:Cc) (E:Ents) (nst:Fr→Hp→Nr) (nt:Nat) (T0:List (Nat×SV)) (H0:Hp) (ops:Array Oper) (l:List Oper):Nat→Rv→Cn→Dr:=
 List.rec (motive:=fun _=>Nat→Rv→Cn→Dr)
  (fun _ rv n=>.ok (tmD (fun _=>true) T0 rv) { heap:=hpD (fun _=>true) H0.heap rv,nb:=n.b,nd:=n.d,nv:=n.v,facts:=fcD (fun _=>true) H0.facts rv,phis:=phD (fun _=>true) H0.phis rv,bd:=H0.bd })
  (fun o _ ih i rv n=>match opD cc E nst nt T0 H0 ops rv n o with
   | .ok r=>ih (Nat.succ i) ((i,r)::rv) r.n1
   | .ask p=>.ask p
   | .bad w=>.bad w) l
noncomputable def lateO (i:Nat) (o:Oper):Bool:=
 List.rec (motive:=fun _=>Bool) false (fun e _ r=>bif Region.binds .any e then (bif Nat.ble i e.on then true else r) else r) o.after.toList
noncomputable def leafD (T0:List (Nat×SV)) (H0:Hp) (rv:Rv) (n:Cn):List (Nat×SV)×Hp:=
 (tmD (fun _=>true) T0 rv,{ heap:=hpD (fun _=>true) H0.heap rv,nb:=n.b,nd:=n.d,nv:=n.v,facts:=fcD (fun _=>true) H0.facts rv,phis:=phD (fun _=>true) H0.phis rv,bd:=H0.bd })
inductive DF where
 | ok (x:List (Nat×SV)×Hp) (l:List (List (Nat×SV)×Hp))
 | no (why:Nat)
noncomputable def RD.why (r:RD):Nat:=match r with | .ok _=>1 | .ask _=>2 | .bad n=>n
noncomputable def drawF (cc:Cc) (E:Ents) (nst:Fr→Hp→Nr) (nt:Nat) (T0:List (Nat×SV)) (H0:Hp) (ops:Array Oper) (l:List Oper):Nat→Rv→Cn→DF:=
 List.rec (motive:=fun _=>Nat→Rv→Cn→DF)
  (fun _ rv n=>.ok (leafD T0 H0 rv n) [])
  (fun o l ih i rv n=>match opX cc E nst nt T0 H0 ops rv n o none with
   | .ok r=>ih (Nat.succ i) ((i,r)::rv) r.n1
   | .ask p=>bif p.dlo n.d then (bif lall (lateO i) l then
     (match opX cc E nst nt T0 H0 ops rv n o (some (p,true)),opX cc E nst nt T0 H0 ops rv n o (some (p,false)) with
     | .ok r1,.ok r2=>(match ih (Nat.succ i) ((i,r1)::rv) r1.n1,ih (Nat.succ i) ((i,r2)::rv) r2.n1 with
       | .ok x a,.ok y b=>.ok x (lapp a (y::b))
       | .no w,_=>.no w
       | _,.no w=>.no w)
     | x,y=>.no (Nat.add (Nat.mul 10000 (RD.why x)) (RD.why y))) else .no 402) else .no 401
   | .bad w=>.no w) l
noncomputable def drawS (cc:Cc) (E:Ents) (nst:Fr→Hp→Nr) (nt:Nat) (T0:List (Nat×SV)) (H0:Hp) (ops:Array Oper):Dr:=
 match drawL cc E nst nt T0 H0 ops ops.toList 0 [] (cnOf H0) with
 | .bad n=>bif Nat.beq n 312 then (match drawF cc E nst nt T0 H0 ops ops.toList 0 [] (cnOf H0) with | .ok x l=>.par x l | .no w=>.bad w) else .bad n
 | r=>r
theorem lg_cons {α:Type} (D:Nat→Bool) (h0:List (Nat×α)) (f:Rec→List (Nat×α)) (i:Nat) (r:Rec) (rv:Rv):lg D h0 f ((i,r)::rv)=if D i then f r++lg D h0 f rv else lg D h0 f rv:=by
 show (bif D i then lapp (f r) (lg D h0 f rv) else lg D h0 f rv)=_
 cases D i<;>simp [lapp_eq]
theorem phD_cons (D:Nat→Bool) (h0:List Nat) (i:Nat) (r:Rec) (rv:Rv):phD D h0 ((i,r)::rv)=if D i then r.dp++phD D h0 rv else phD D h0 rv:=by
 show (bif D i then lapp r.dp (phD D h0 rv) else phD D h0 rv)=_
 cases D i<;>simp [lapp_eq]
theorem fcD_cons (D:Nat→Bool) (h0:List (SB×Bool)) (i:Nat) (r:Rec) (rv:Rv):fcD D h0 ((i,r)::rv)=if D i then r.dq++fcD D h0 rv else fcD D h0 rv:=by
 show (bif D i then lapp r.dq (fcD D h0 rv) else fcD D h0 rv)=_
 cases D i<;>simp [lapp_eq]
theorem lg_congr {α:Type} {D D':Nat→Bool} {h0:List (Nat×α)} {f:Rec→List (Nat×α)} {id:Nat}:∀ {rv:Rv},(∀ j r,(j,r)∈rv→get (f r) id≠none→D j=D' j)→get (lg D h0 f rv) id=get (lg D' h0 f rv) id
 | [],_=>rfl
 | (j,r)::rv,h=>by
   have ih:=lg_congr (h0:=h0) (f:=f) (rv:=rv) fun j' r' hm=>h j' r' (List.mem_cons_of_mem _ hm)
   rw [lg_cons,lg_cons]
   cases hg:get (f r) id with
   | none=>split<;>split<;>simp [get_append,hg,ih]
   | some bk=>
     have:=h j r (by simp) (by rw [hg];simp)
     rw [this]
     split<;>simp [get_append,hg,ih]
theorem lg_none {α:Type} {D:Nat→Bool} {h0:List (Nat×α)} {f:Rec→List (Nat×α)}:∀ {l rv:Rv},(∀ j r,(j,r)∈l→D j=false)→lg D h0 f (l++rv)=lg D h0 f rv
 | [],_,_=>rfl
 | (j,r)::l,rv,h=>by
   rw [List.cons_append,lg_cons,h j r (by simp)]
   exact lg_none fun j' r' hm=>h j' r' (List.mem_cons_of_mem _ hm)
theorem lg_from {α:Type} {D:Nat→Bool} {h0:List (Nat×α)} {f:Rec→List (Nat×α)} {id:Nat} {bk:α}:∀ {rv:Rv},get (lg D h0 f rv) id=some bk→get h0 id=some bk∨∃ j r,(j,r)∈rv∧D j=true∧get (f r) id=some bk
 | [],h=>.inl h
 | (j,r)::rv,h=>by
   rw [lg_cons] at h
   have up:(get h0 id=some bk∨∃ j r,(j,r)∈rv∧D j=true∧get (f r) id=some bk)→(get h0 id=some bk∨∃ j' r',(j',r')∈(j,r)::rv∧D j'=true∧get (f r') id=some bk):=by
    rintro (h | ⟨j',r',h1,h2⟩)
    ·exact .inl h
    ·exact .inr ⟨j',r',List.mem_cons_of_mem _ h1,h2⟩
   split at h
   ·rename_i hD
    rw [get_append] at h
    cases hg:get (f r) id with
    | none=>rw [hg] at h;exact up (lg_from h)
    | some b=>rw [hg] at h;cases h;exact .inr ⟨j,r,by simp,hD,hg⟩
   ·exact up (lg_from h)
theorem get_map {α β:Type} (g:α→β):∀ (l:List (Nat×α)) (id:Nat),get (l.map fun p=>(p.1,g p.2)) id=(get l id).map g
 | [],_=>rfl
 | p::l,id=>by
   rw [List.map_cons,get_cons,get_cons]
   split
   ·rfl
   ·exact get_map g l id
noncomputable def lgC {α:Type} (D:Nat→Bool) (h0:List (Nat×α)) (c0:Cn) (f:Rec→List (Nat×α)) (rv:Rv):List (Nat×(α×Cn)):=
 lg D (h0.map fun p=>(p.1,(p.2,c0))) (fun r=>(f r).map fun p=>(p.1,(p.2,r.n1))) rv
theorem lgC_fst {α:Type} {D:Nat→Bool} {h0:List (Nat×α)} {c0:Cn} {f:Rec→List (Nat×α)}:∀ {rv:Rv} {id:Nat},get (lg D h0 f rv) id=(get (lgC D h0 c0 f rv) id).map Prod.fst
 | [],id=>by
   show get h0 id=(get (h0.map fun p=>(p.1,(p.2,c0))) id).map Prod.fst
   rw [get_map (fun a=>(a,c0))]
   cases get h0 id<;>rfl
 | (j,r)::rv,id=>by
   have ih:=lgC_fst (D:=D) (h0:=h0) (c0:=c0) (f:=f) (rv:=rv) (id:=id)
   unfold lgC at ih ⊢
   rw [lg_cons,lg_cons]
   split
   ·rw [get_append,get_append,get_map (fun a=>(a,r.n1))]
    cases get (f r) id with
    | none=>exact ih
    | some a=>rfl
   ·exact ih
theorem lgC_of {α:Type} {D:Nat→Bool} {h0:List (Nat×α)} {c0:Cn} {f:Rec→List (Nat×α)} {rv:Rv} {id:Nat} {a:α} (h:get (lg D h0 f rv) id=some a):∃ c,get (lgC D h0 c0 f rv) id=some (a,c):=by
 rw [lgC_fst (c0:=c0)] at h
 cases hg:get (lgC D h0 c0 f rv) id with
 | none=>rw [hg] at h;cases h
 | some p=>rw [hg] at h;cases h;exact ⟨p.2,rfl⟩
theorem lgC_to {α:Type} {D:Nat→Bool} {h0:List (Nat×α)} {c0:Cn} {f:Rec→List (Nat×α)} {rv:Rv} {id:Nat} {a:α} {c:Cn} (h:get (lgC D h0 c0 f rv) id=some (a,c)):get (lg D h0 f rv) id=some a:=by
 rw [lgC_fst (c0:=c0),h];rfl
theorem lgC_from {α:Type} {D:Nat→Bool} {h0:List (Nat×α)} {c0:Cn} {f:Rec→List (Nat×α)} {rv:Rv} {id:Nat} {a:α} {c:Cn} (h:get (lgC D h0 c0 f rv) id=some (a,c)) :
  (get h0 id=some a∧c=c0)∨∃ j r,(j,r)∈rv∧D j=true∧get (f r) id=some a∧c=r.n1:=by
 rcases lg_from h with h | ⟨j,r,h1,h2,h3⟩
 ·rw [get_map (fun a=>(a,c0))] at h
  cases hg:get h0 id with
  | none=>rw [hg] at h;cases h
  | some x=>rw [hg] at h;cases h;exact .inl ⟨rfl,rfl⟩
 ·rw [get_map (fun a=>(a,r.n1))] at h3
  cases hg:get (f r) id with
  | none=>rw [hg] at h3;cases h3
  | some x=>rw [hg] at h3;cases h3;exact .inr ⟨j,r,h1,h2,hg,rfl⟩
theorem lgC_congr {α:Type} {D D':Nat→Bool} {h0:List (Nat×α)} {c0:Cn} {f:Rec→List (Nat×α)} {id:Nat} {rv:Rv} (h:∀ j r,(j,r)∈rv→get (f r) id≠none→D j=D' j):get (lgC D h0 c0 f rv) id=get (lgC D' h0 c0 f rv) id:=
 lg_congr fun j r hm hne=>h j r hm fun e=>hne (by rw [get_map (fun a=>(a,r.n1)),e];rfl)
theorem mem_phD {D:Nat→Bool} {p0:List Nat} {p:Nat}:∀ {rv:Rv},p∈phD D p0 rv↔p∈p0∨∃ j r,(j,r)∈rv∧D j=true∧p∈r.dp
 | []=>by simp [phD]
 | (j,r)::rv=>by
   rw [phD_cons]
   have ih:=mem_phD (D:=D) (p0:=p0) (p:=p) (rv:=rv)
   cases hD:D j with
   | true=>
     simp only [if_true,List.mem_append,ih]
     constructor
     ·rintro (h | h | ⟨j',r',h1,h2⟩)
      ·exact .inr ⟨j,r,by simp,hD,h⟩
      ·exact .inl h
      ·exact .inr ⟨j',r',List.mem_cons_of_mem _ h1,h2⟩
     ·rintro (h | ⟨j',r',h1,h2,h3⟩)
      ·exact .inr (.inl h)
      ·rcases List.mem_cons.1 h1 with e | h1
       ·cases e;exact .inl h3
       ·exact .inr (.inr ⟨j',r',h1,h2,h3⟩)
   | false=>
     simp only [Bool.false_eq_true,if_false,ih]
     constructor
     ·rintro (h | ⟨j',r',h1,h2⟩)
      ·exact .inl h
      ·exact .inr ⟨j',r',List.mem_cons_of_mem _ h1,h2⟩
     ·rintro (h | ⟨j',r',h1,h2,h3⟩)
      ·exact .inl h
      ·rcases List.mem_cons.1 h1 with e | h1
       ·cases e;rw [hD] at h2;cases h2
       ·exact .inr ⟨j',r',h1,h2,h3⟩
theorem mem_fcD {D:Nat→Bool} {p0:List (SB×Bool)} {p:SB×Bool}:∀ {rv:Rv},p∈fcD D p0 rv↔p∈p0∨∃ j r,(j,r)∈rv∧D j=true∧p∈r.dq
 | []=>by simp [fcD]
 | (j,r)::rv=>by
   rw [fcD_cons]
   have ih:=mem_fcD (D:=D) (p0:=p0) (p:=p) (rv:=rv)
   cases hD:D j with
   | true=>
     simp only [if_true,List.mem_append,ih]
     constructor
     ·rintro (h | h | ⟨j',r',h1,h2⟩)
      ·exact .inr ⟨j,r,by simp,hD,h⟩
      ·exact .inl h
      ·exact .inr ⟨j',r',List.mem_cons_of_mem _ h1,h2⟩
     ·rintro (h | ⟨j',r',h1,h2,h3⟩)
      ·exact .inr (.inl h)
      ·rcases List.mem_cons.1 h1 with e | h1
       ·cases e;exact .inl h3
       ·exact .inr (.inr ⟨j',r',h1,h2,h3⟩)
   | false=>
     simp only [Bool.false_eq_true,if_false,ih]
     constructor
     ·rintro (h | ⟨j',r',h1,h2⟩)
      ·exact .inl h
      ·exact .inr ⟨j',r',List.mem_cons_of_mem _ h1,h2⟩
     ·rintro (h | ⟨j',r',h1,h2,h3⟩)
      ·exact .inl h
      ·rcases List.mem_cons.1 h1 with e | h1
       ·cases e;rw [hD] at h2;cases h2
       ·exact .inr ⟨j',r',h1,h2,h3⟩
def Dyn.cut (ρ:Dyn) (c:Cn):Dyn:={ bl:=fun i=>if i < c.b then ρ.bl i else none,di:=fun i=>if i < c.d then ρ.di i else none,dv:=fun i=>if i < c.v then ρ.dv i else none }
theorem Dyn.cut_le (ρ:Dyn) (c:Cn):(ρ.cut c).Le ρ:=by
 refine ⟨fun i x h=>?_,fun i x h=>?_,fun i x h=>?_⟩<;>(simp only [Dyn.cut] at h;split at h<;>first | exact h | cases h)
theorem Dyn.cut_mono {ρ ρ':Dyn} {c c':Cn} (h:ρ.Le ρ') (hc:c.Le c'):(ρ.cut c).Le (ρ'.cut c'):=by
 refine ⟨fun i x e=>?_,fun i x e=>?_,fun i x e=>?_⟩
 ·simp only [Dyn.cut] at e ⊢
  split at e
  ·rename_i hi;rw [if_pos (Nat.lt_of_lt_of_le hi hc.1)];exact h.bl i x e
  ·cases e
 ·simp only [Dyn.cut] at e ⊢
  split at e
  ·rename_i hi;rw [if_pos (Nat.lt_of_lt_of_le hi hc.2.1)];exact h.di i x e
  ·cases e
 ·simp only [Dyn.cut] at e ⊢
  split at e
  ·rename_i hi;rw [if_pos (Nat.lt_of_lt_of_le hi hc.2.2)];exact h.dv i x e
  ·cases e
end Go.Sx
