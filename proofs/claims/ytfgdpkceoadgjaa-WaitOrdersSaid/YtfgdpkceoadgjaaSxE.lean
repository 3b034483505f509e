/- A symbolic executor: loads, stores, comparisons, arithmetic, each proved. -/
import Derived.Test.YtfgdpkceoadgjaaSxD
namespace Go.Sx
set_option linter.unusedSectionVars false
set_option linter.unusedVariables false
set_option linter.unusedSimpArgs false
open Go.RowKit
structure Cc where
 P:Program
 B:Bd
 rd:List (Nat×SR×SI×List SV)
 eqt:List TypeId
 ar:List (Nat×SR×SI×List Kd×SI×SI)
def SR.beq:SR→SR→Bool
 | .n a,.n b=>Nat.beq a b
 | .k a,.k b=>Nat.beq a b
 | .g a,.g b=>Nat.beq a b
 | _,_=>false
theorem SR.beq_eq {a b:SR} (h:a.beq b=true):a=b:=by
 cases a<;>cases b<;>simp [SR.beq] at h<;>simp [h]
def isOv (fn:Func):Bool:=bif fn.body.isNone then fn.origin == "slices.overlaps" else false
def ovOk (fn:Func):Bool:=bif isOv fn then (Extern.allNextRows.lookup fn.name).isNone && ((Extern.allGenericRows.lookup fn.name).isNone && ((Extern.allTypedRows.lookup fn.name).isNone && (Extern.allRows.lookup fn.name).isNone)) else true
theorem ov_none:(Extern.allNextRows.lookup "slices.overlaps").isNone=true:=by kernel_rfl
theorem ov_noneG:(Extern.allGenericRows.lookup "slices.overlaps").isNone=true:=by kernel_rfl
theorem ov_some:Extern.allTypedRows.lookup "slices.overlaps" = some Extern.SlicesOverlaps.overlaps:=by kernel_rfl
theorem ovOk_ok {fn:Func} (h1:isOv fn=true) (h:ovOk fn=true):fn.body=none∧Extern.findNext fn=none∧Extern.find fn=some (Extern.SlicesOverlaps.overlaps fn.params fn.resultTypes):=by
 unfold ovOk at h
 rw [h1] at h
 simp only [cond_true,Bool.and_eq_true,Option.isNone_iff_eq_none] at h
 obtain ⟨e1,e2,e3,e4⟩:=h
 unfold isOv at h1
 cases hb:fn.body with
 | some b=>rw [hb] at h1;cases h1
 | none=>
   rw [hb] at h1
   have ho:fn.origin = "slices.overlaps" := by simpa using h1
   have n1:Extern.allNextRows.lookup "slices.overlaps" = none:=Option.isNone_iff_eq_none.1 ov_none
   have n2:Extern.allGenericRows.lookup "slices.overlaps" = none:=Option.isNone_iff_eq_none.1 ov_noneG
   refine ⟨rfl,?_,?_⟩
   ·simp only [Extern.findNext,e1,ho,n1];rfl
   ·simp only [Extern.find,e2,e3,e4,ho,n2,ov_some];rfl
structure Cc.Ok (cc:Cc) (C:Ct):Prop where
 B:cc.B.Ok C.σ
 rd:∀ j r o cs,(j,r,o,cs)∈cc.rd→∀ ρ U,C.phi j ρ U→∃ b n us,r.den C.σ ρ=some b∧o.den C.σ ρ=some (Int.ofNat n)∧SV.IsL C.σ ρ cs us∧
  ∃ c t fz,U b (.cells c t fz)∧∀ k u,us[k]? = some u→c[n+k]? = some u
 eqt:∀ t∈cc.eqt,cc.P.stoodInHeld t=false∧cc.P.eqGuardType cc.P.depth t=false∧∀ fs,cc.P.underlying t=some (.struct fs)→∀ f∈fs.toList,f.name ≠ "_"
 names:∀ (f:Nat) (fn:Func),cc.P.funcs[f]? = some fn→(fn.name == "runtime.NumGoroutine")=false
 ov:∀ (f:Nat) (fn:Func),cc.P.funcs[f]? = some fn→ovOk fn=true
 mixed:cc.P.follows .mixedOrders=true
 al:ArrLaw C.σ
 ar:∀ j r o lay c n,(j,r,o,lay,c,n)∈cc.ar→∀ ρ U,C.phi j ρ U→∃ b on cv nv,r.den C.σ ρ=some b∧o.den C.σ ρ=some (Int.ofNat on)∧c.den C.σ ρ=some cv∧n.den C.σ ρ=some (Int.ofNat nv)∧
  ∀ j,j < nv→∀ f κ,lay[f]? = some κ→∃ (A:Array Value) (t:TypeId) (fz:Nat×Nat),U b (.cells A t fz)∧A[on+j * lay.length+f]? = some (κ.val C.σ cv j f)
section
variable {cc:Cc} {C:Ct} {hc:Nat→Option Obj} {w0:World} {ρ:Dyn} {H:Hp} {w:World}
def bdOf (cc:Cc) (H:Hp):Bd:=⟨H.bd,cc.B.f⟩
theorem bdOf_ok (hcc:cc.Ok C) (h:HpRel C hc w0 ρ H w):(bdOf cc H).Ok C.σ:=⟨h.bd,hcc.B.f⟩
noncomputable def rdf (cc:Cc) (H:Hp) (r:SR) (o:SI) (n:Nat):Option (List SV):=
 List.rec (motive:=fun _=>Option (List SV)) none (fun e _ ih=>
  bif lmem H.phis e.1 then (bif e.2.1.beq r then (bif e.2.2.1.beq o then (bif Nat.ble n (llen e.2.2.2) then some (ltake e.2.2.2 n) else ih) else ih) else ih) else ih) cc.rd
theorem rdf_mem {l:List (Nat×SR×SI×List SV)} {H:Hp} {r:SR} {o:SI} {n:Nat} {cs:List SV}
  (h:(List.rec (motive:=fun _=>Option (List SV)) none (fun e _ ih=>
   bif lmem H.phis e.1 then (bif e.2.1.beq r then (bif e.2.2.1.beq o then (bif Nat.ble n (llen e.2.2.2) then some (ltake e.2.2.2 n) else ih) else ih) else ih) else ih) l)=some cs) :
  ∃ j cs',(j,r,o,cs')∈l∧j∈H.phis∧n≤cs'.length∧cs=cs'.take n:=by
 induction l with
 | nil=>cases h
 | cons e l ih=>
   obtain ⟨j,r',o',cs'⟩:=e
   dsimp only at h
   have up:(∃ j cs',(j,r,o,cs')∈l∧j∈H.phis∧n≤cs'.length∧cs=cs'.take n)→∃ j2 cs2,(j2,r,o,cs2)∈(j,r',o',cs')::l∧j2∈H.phis∧n≤cs2.length∧cs=cs2.take n:=
    fun ⟨a,b,h1,h2⟩=>⟨a,b,List.mem_cons_of_mem _ h1,h2⟩
   cases h1:lmem H.phis j with
   | false=>rw [h1] at h;exact up (ih h)
   | true=>
     cases h2:r'.beq r with
     | false=>rw [h1,h2] at h;exact up (ih h)
     | true=>
       cases h3:o'.beq o with
       | false=>rw [h1,h2,h3] at h;exact up (ih h)
       | true=>
         cases h4:Nat.ble n (llen cs') with
         | false=>rw [h1,h2,h3,h4] at h;exact up (ih h)
         | true=>
           rw [h1,h2,h3,h4] at h
           simp only [cond_true,Option.some.injEq] at h
           have:=SR.beq_eq h2;subst this
           have:=SI.beq_eq h3;subst this
           have:=Nat.le_of_ble_eq_true h4
           rw [llen_eq] at this
           exact ⟨j,cs',by simp,lmem_iff.1 h1,this,by rw [← h,ltake_eq]⟩
noncomputable def lod (cc:Cc) (H:Hp) (r:SR) (o:SI) (n:Nat):Option (List SV):=
 match r,o with
 | .n id,.c (.ofNat k)=>match get H.heap id with
   | some (.cells l _)=>bif Nat.ble (Nat.add k n) (llen l) then some (ltake (ldrop l k) n) else none
   | some (.row none l _ _ _)=>bif Nat.ble (Nat.add k n) (llen l) then some (ltake (ldrop l k) n) else none
   | _=>rdf cc H (.n id) (.c (.ofNat k)) n
 | r,o=>rdf cc H r o n
theorem lod_ok (hcc:cc.Ok C) (h:HpRel C hc w0 ρ H w) {r:SR} {o:SI} {n:Nat} {cs:List SV} {b k:Nat} (hr:r.den C.σ ρ=some b) (ho:o.den C.σ ρ=some (Int.ofNat k)) (hl:lod cc H r o n=some cs) :
  ∃ us,SV.IsL C.σ ρ cs us∧us.length=n∧∀ j u,us[j]? = some u→w.cell? ⟨b,k+j,none⟩=some u:=by
 have viaRd:∀ r o,r.den C.σ ρ=some b→o.den C.σ ρ=some (Int.ofNat k)→rdf cc H r o n=some cs→
   ∃ us,SV.IsL C.σ ρ cs us∧us.length=n∧∀ j u,us[j]? = some u→w.cell? ⟨b,k+j,none⟩=some u:=by
  intro r o hr ho hl
  obtain ⟨j,cs',h1,h2,h3,rfl⟩:=rdf_mem hl
  obtain ⟨b',n',us,e1,e2,e3,c,t,fz,hU,e4⟩:=hcc.rd j r o cs' h1 ρ _ (h.phis j h2)
  rw [hr] at e1;cases e1
  rw [ho] at e2;cases e2
  refine ⟨us.take n,SV.isL_take n e3,by rw [List.length_take,SV.isL_length e3];omega,fun i u hu=>?_⟩
  have hi:us[i]? = some u:=by
   rw [List.getElem?_take] at hu
   split at hu
   ·exact hu
   ·cases hu
  have:=e4 i u hi
  simp only [World.cell?,hU.1]
  simpa using this
 unfold lod at hl
 split at hl
 ·rename_i id k'
  simp only [SI.den,Option.some.injEq] at ho
  have hk:k'=k:=by injection ho
  subst hk
  have known:∀ (l:List SV) (us:List Value) (c:Array Value) (t:TypeId),SV.IsL C.σ ρ l us→w.heap[b]? = some (.cells c t (0,0))→(∀ (j:Nat) (u:Value),us[j]? = some u→c[j]? = some u)→
    (bif Nat.ble (Nat.add k' n) (llen l) then some (ltake (ldrop l k') n) else none)=some cs→
    ∃ us,SV.IsL C.σ ρ cs us∧us.length=n∧∀ j u,us[j]? = some u→w.cell? ⟨b,k'+j,none⟩=some u:=by
   intro l us c t hlu hw hcu hh
   cases hb:Nat.ble (Nat.add k' n) (llen l) with
   | false=>rw [hb] at hh;cases hh
   | true=>
     rw [hb] at hh
     simp only [cond_true,Option.some.injEq] at hh
     have hle:=Nat.le_of_ble_eq_true hb
     rw [llen_eq] at hle
     have hle':k'+n≤l.length:=hle
     rw [← hh,ltake_eq,ldrop_eq]
     refine ⟨(us.drop k').take n,SV.isL_take n (SV.isL_drop k' hlu),?_,fun j u hu=>?_⟩
     ·rw [List.length_take,List.length_drop,SV.isL_length hlu];omega
     ·have hj:us[k'+j]? = some u:=by
       rw [List.getElem?_take] at hu
       split at hu
       ·rwa [List.getElem?_drop] at hu
       ·cases hu
      have:=hcu _ _ hj
      simp only [World.cell?,hw]
      simpa using this
  split at hl
  ·rename_i l t hg
   obtain ⟨b',o',e1,e2,us,e3,rfl⟩:=h.blk id _ hg rfl
   have:b'=b:=by simp only [SR.den] at hr;rw [e1] at hr;exact Option.some.inj hr
   subst this
   exact known l us us.toArray t e3 e2 (fun j u hu=>by simpa using hu) hl
  ·rename_i l t cp sz hg
   obtain ⟨b',o',e1,e2,us,sp,nn,e3,e4,e5,rfl⟩:=h.blk id _ hg rfl
   have:b'=b:=by simp only [SR.den] at hr;rw [e1] at hr;exact Option.some.inj hr
   subst this
   refine known l us _ t e3 e2 (fun j u hu=>?_) hl
   have hlt:=(List.getElem?_eq_some_iff.1 hu).1
   simp only [preL,List.nil_append,List.getElem?_toArray]
   rw [List.getElem?_append_left hlt];exact hu
  ·exact viaRd _ _ hr rfl hl
 ·exact viaRd _ _ hr ho hl
theorem addr_add (b k j:Nat):(⟨b,k,none⟩:Addr).add j=⟨b,k+j,none⟩:=by
 unfold Addr.add;split<;>simp_all
noncomputable def lodV (cc:Cc) (H:Hp) (t:TypeId) (r:SR) (o:SI):Option SV:=
 match aggOf cc.P t with
 | some (true,n)=>match lod cc H r o n with | some cs=>some (.ag cs) | none=>none
 | some (false,_)=>match lod cc H r o 1 with | some (z::_)=>some z | _=>none
 | none=>none
theorem lodV_ok (hcc:cc.Ok C) (h:HpRel C hc w0 ρ H w) {t:TypeId} {r:SR} {o:SI} {z:SV} {b k:Nat} (hr:r.den C.σ ρ=some b) (ho:o.den C.σ ρ=some (Int.ofNat k)) (hl:lodV cc H t r o=some z) :
  ∃ u,(loadVar t ⟨b,k,none⟩).run cc.P w=.ok u w∧z.Is C.σ ρ u:=by
 unfold lodV at hl
 split at hl
 ·rename_i n ha
  obtain ⟨h1,h2,_⟩:=aggOf_ok ha w
  split at hl
  ·rename_i cs hcs
   cases hl
   obtain ⟨us,e1,e2,e3⟩:=lod_ok hcc h hr ho hcs
   have hld:=run_loadCells_list (P:=cc.P) w ⟨b,k,none⟩ us (fun j v hj=>by rw [addr_add];exact e3 j v hj)
   rw [e2] at hld
   exact ⟨.agg us.toArray,by simp [loadVar,h1,h2,hld],by simp only [SV.Is];exact ⟨us,e1,rfl⟩⟩
  ·cases hl
 ·rename_i n ha
  obtain ⟨h1,h2,_⟩:=aggOf_ok ha w
  split at hl
  ·rename_i z' cs hcs
   cases hl
   obtain ⟨us,e1,e2,e3⟩:=lod_ok hcc h hr ho hcs
   rw [SV.isL_cons] at e1
   obtain ⟨u,r',rfl,e4,_⟩:=e1
   have:=e3 0 u (by simp)
   exact ⟨u,by simp [loadVar,h1,run_load,show w.cell? ⟨b,k,none⟩=some u from this],e4⟩
  ·cases hl
 ·cases hl
noncomputable def sto (H:Hp) (r:SR) (o:SI) (cs:List SV):Option Hp:=
 match r,o with
 | .n id,.c (.ofNat k)=>match get H.heap id with
   | some (.cells l t)=>bif Nat.ble (Nat.add k (llen cs)) (llen l) then (bif lall SV.one cs then some (H.put id (.cells (splice l k cs) t)) else none) else none
   | some (.row none l t cp sz)=>bif Nat.ble (Nat.add k (llen cs)) (llen l) then (bif lall SV.one cs then some (H.put id (.row none (splice l k cs) t cp sz)) else none) else none
   | _=>none
 | _,_=>none
theorem sto_ok (h:HpRel C hc w0 ρ H w) {r:SR} {o:SI} {cs:List SV} {b k:Nat} {H':Hp} {us:List Value} (hr:r.den C.σ ρ=some b) (ho:o.den C.σ ρ=some (Int.ofNat k)) (hcs:SV.IsL C.σ ρ cs us)
  (hl:sto H r o cs=some H'):∃ w',(storeCells ⟨b,k,none⟩ us 0).run cc.P w=.ok () w'∧HpRel C hc w0 ρ H' w'∧Tn ρ H w ρ H' w':=by
 unfold sto at hl
 split at hl
 ·rename_i id k'
  simp only [SI.den,Option.some.injEq] at ho
  have hk:k'=k:=by injection ho
  subst hk
  have lcs:=SV.isL_length hcs
  split at hl
  ·rename_i l t hg
   obtain ⟨b',o',e1,e2,vs,e3,rfl⟩:=h.blk id _ hg rfl
   have:b'=b:=by simp only [SR.den] at hr;rw [e1] at hr;exact Option.some.inj hr
   subst this
   cases h1:Nat.ble (Nat.add k' (llen cs)) (llen l) with
   | false=>rw [h1] at hl;cases hl
   | true=>
     cases h2:lall SV.one cs with
     | false=>rw [h1,h2] at hl;cases hl
     | true=>
       rw [h1,h2] at hl;cases hl
       have hle:=Nat.le_of_ble_eq_true h1
       rw [llen_eq,llen_eq] at hle
       have hle':k'+cs.length≤l.length:=hle
       have lvs:=SV.isL_length e3
       have hst:=run_storeCells_at (P:=cc.P) b' k' t us 0 vs.toArray w e2 (by simp;omega) (SV.all_one hcs h2)
       refine ⟨_,hst,?_,Tn.of_put e1 (fun i hi=>setRow_other _ _ _ _ hi) (by simp)⟩
       refine h.put hg rfl e1 (o:=.cells (vs.take k'++(us++vs.drop (k'+us.length))).toArray t (0,0)) rfl ?_ (fun i hi=>setRow_other _ _ _ _ hi) ?_ (by simp) rfl rfl rfl
       ·exact ⟨_,splice_is k' e3 hcs,rfl⟩
       ·rw [setRow_heap _ _ _ _ t _ e2];simp
  ·rename_i l t cp sz hg
   obtain ⟨b',o',e1,e2,vs,sp,nn,e3,e4,e5,rfl⟩:=h.blk id _ hg rfl
   simp only [preL] at e2 e5
   have:b'=b:=by simp only [SR.den] at hr;rw [e1] at hr;exact Option.some.inj hr
   subst this
   cases h1:Nat.ble (Nat.add k' (llen cs)) (llen l) with
   | false=>rw [h1] at hl;cases hl
   | true=>
     cases h2:lall SV.one cs with
     | false=>rw [h1,h2] at hl;cases hl
     | true=>
       rw [h1,h2] at hl;cases hl
       have hle:=Nat.le_of_ble_eq_true h1
       rw [llen_eq,llen_eq] at hle
       have hle':k'+cs.length≤l.length:=hle
       have lvs:=SV.isL_length e3
       have hst:=run_storeCells_at (P:=cc.P) b' k' t us 0 ([]++vs++sp).toArray w e2 (by simp;omega) (SV.all_one hcs h2)
       refine ⟨_,hst,?_,Tn.of_put e1 (fun i hi=>setRow_other _ _ _ _ hi) (by simp)⟩
       refine h.put hg rfl e1 (o:=.cells ([]++(vs.take k'++(us++vs.drop (k'+us.length)))++sp).toArray t (0,0)) rfl ?_ (fun i hi=>setRow_other _ _ _ _ hi) ?_ (by simp) rfl rfl rfl
       ·refine ⟨_,sp,nn,splice_is k' e3 hcs,e4,?_,rfl⟩
        have lus:=SV.isL_length hcs
        rw [← e5];simp [preL];omega
       ·rw [setRow_heap _ _ _ _ t _ e2]
        simp only [List.nil_append,Nat.add_zero,List.append_assoc]
        rw [List.take_append_of_le_length (by omega),List.drop_append_of_le_length (by omega)]
  ·cases hl
 ·cases hl
noncomputable def stoV (cc:Cc) (H:Hp) (t:TypeId) (r:SR) (o:SI) (x:SV):Option Hp:=
 match x.cells,aggOf cc.P t with
 | some cs,some (_,n)=>bif Nat.beq (llen cs) n then sto H r o cs else none
 | _,_=>none
theorem stoV_ok (h:HpRel C hc w0 ρ H w) {t:TypeId} {r:SR} {o:SI} {x:SV} {u:Value} {b k:Nat} {H':Hp} (hr:r.den C.σ ρ=some b) (ho:o.den C.σ ρ=some (Int.ofNat k)) (hx:x.Is C.σ ρ u)
  (hl:stoV cc H t r o x=some H'):∃ w',(storeVar t ⟨b,k,none⟩ u).run cc.P w=.ok () w'∧HpRel C hc w0 ρ H' w'∧Tn ρ H w ρ H' w':=by
 unfold stoV at hl
 split at hl
 ·rename_i cs g n hcs ha
  obtain ⟨h1,h2,_⟩:=aggOf_ok ha w
  cases hb:Nat.beq (llen cs) n with
  | false=>rw [hb] at hl;cases hl
  | true=>
    rw [hb] at hl
    have hn:=Nat.eq_of_beq_eq_true hb
    rw [llen_eq] at hn
    have hc1:=SV.cells_is hx hcs
    have hlen:=SV.isL_length hc1
    obtain ⟨w',e1,e2,e3⟩:=sto_ok (cc:=cc) h hr ho hc1 hl
    refine ⟨w',?_,e2,e3⟩
    have hsz:u.cells.size=n:=by rw [← hn,← hlen];simp
    simp [storeVar,h2,hsz,e1]
 ·cases hl
noncomputable def eqFs (P:Program) (rec:TypeId→SV→SV→Option SB) (xs ys:List SV) (fs:List Field):Option SB:=
 List.rec (motive:=fun _=>Option SB) (some (.c true)) (fun f _ ih=>
  match partOf P f.type xs f.offset,partOf P f.type ys f.offset with
  | some a,some b=>match rec f.type a b,ih with
    | some p,some q=>some (.and p q)
    | _,_=>none
  | _,_=>none) fs
noncomputable def eqIs (P:Program) (rec:TypeId→SV→SV→Option SB) (e n:Nat) (xs ys:List SV) (is:List Nat):Option SB:=
 List.rec (motive:=fun _=>Option SB) (some (.c true)) (fun i _ ih=>
  match partOf P e xs (Nat.mul i n),partOf P e ys (Nat.mul i n) with
  | some a,some b=>match rec e a b,ih with
    | some p,some q=>some (.and p q)
    | _,_=>none
  | _,_=>none) is
def eqB (p q:SB):SB:=.or (.and p q) (.and (.not p) (.not q))
noncomputable def eqvS (cc:Cc) (ih:TypeId→SV→SV→Option SB) (t:TypeId) (x y:SV):Option SB:=
 match cc.P.underlying t,x,y with
 | some .bool,.bo p,.bo q=>some (eqB p q)
 | some (.int _),.it k a,.it k' b=>bif keq k k' then some (.eq a b) else none
 | some .string,.st a,.st b=>some (.seq a b)
 | some (.pointer _),.pn,.pn=>some (.c true)
 | some (.pointer _),.pn,.pt _ _=>some (.c false)
 | some (.pointer _),.pt _ _,.pn=>some (.c false)
 | some (.slice _),.sn,.sn=>some (.c true)
 | some (.slice _),.sn,.sl _ _ _ _=>some (.c false)
 | some (.slice _),.sl _ _ _ _,.sn=>some (.c false)
 | some (.map _ _),.mn,.mn=>some (.c true)
 | some (.map _ _),.mn,.mp _=>some (.c false)
 | some (.map _ _),.mp _,.mn=>some (.c false)
 | some (.func _ _ _),.fz,.fz=>some (.c true)
 | some (.func _ _ _),.fz,.fn _ _ _=>some (.c false)
 | some (.func _ _ _),.fn _ _ _,.fz=>some (.c false)
 | some (.struct fs),.ag xs,.ag ys=>bif lmem cc.eqt t then eqFs cc.P ih xs ys fs.toList else none
 | some (.array n e),.ag xs,.ag ys=>match aggOf cc.P e with
   | some (_,sz)=>eqIs cc.P ih e sz xs ys (List.range n)
   | none=>none
 | _,_,_=>none
noncomputable def eqv (cc:Cc) (d:Nat):TypeId→SV→SV→Option SB:=
 Nat.rec (motive:=fun _=>TypeId→SV→SV→Option SB) (fun _ _ _=>none) (fun _ ih=>eqvS cc ih) d
def EqOk (cc:Cc) (C:Ct) (ρ:Dyn) (w:World) (d:Nat) (rec:TypeId→SV→SV→Option SB):Prop:=
 ∀ t x y p u v,rec t x y=some p→x.Is C.σ ρ u→y.Is C.σ ρ v→∃ b,p.den C.σ ρ=some b∧(Op.equalIn d t u v).run cc.P w=.ok b w
theorem and_den {p q:SB} {a b:Bool} (hp:p.den C.σ ρ=some a) (hq:q.den C.σ ρ=some b):(SB.and p q).den C.σ ρ=some (a && b):=by simp [SB.den,hp,hq]
theorem eqFs_ok {d:Nat} {rec:TypeId→SV→SV→Option SB} (hrec:EqOk cc C ρ w d rec) {xs ys:List SV} {us vs:List Value} (hx:SV.IsL C.σ ρ xs us) (hy:SV.IsL C.σ ρ ys vs) :
  ∀ {fs:List Field} {p:SB},(∀ f∈fs,f.name ≠ "_")→eqFs cc.P rec xs ys fs=some p→∃ b,p.den C.σ ρ=some b∧(Op.eqFields d us.toArray vs.toArray fs).run cc.P w=.ok b w
 | [],p,_,h=>by
   have h':some (SB.c true)=some p:=h
   cases h'
   exact ⟨true,rfl,rfl⟩
 | f::fs,p,hn,h=>by
   have h':(match partOf cc.P f.type xs f.offset,partOf cc.P f.type ys f.offset with
    | some a,some b=>match rec f.type a b,eqFs cc.P rec xs ys fs with
      | some p,some q=>some (SB.and p q)
      | _,_=>none
    | _,_=>none)=some p:=h
   split at h'
   ·rename_i a b ha hb
    split at h'
    ·rename_i p1 q1 h1 h2
     cases h'
     obtain ⟨u,e1,e2⟩:=partOf_ok hx ha w
     obtain ⟨v,e3,e4⟩:=partOf_ok hy hb w
     obtain ⟨b1,e5,e6⟩:=hrec f.type a b p1 u v h1 e2 e4
     obtain ⟨b2,e7,e8⟩:=eqFs_ok hrec hx hy (fun g hg=>hn g (by simp [hg])) h2
     refine ⟨b1 && b2,and_den e5 e7,?_⟩
     simp only [Op.eqFields]
     rw [if_pos (hn f (by simp))]
     simp only [Sem.run_bind,e1,e3,e6,Result.andThen_ok,Sem.run_ite]
     cases b1
     ·simp
     ·simp [e8]
    ·cases h'
   ·cases h'
theorem eqIs_ok {d:Nat} {rec:TypeId→SV→SV→Option SB} (hrec:EqOk cc C ρ w d rec) {e n:Nat} {xs ys:List SV} {us vs:List Value} (hx:SV.IsL C.σ ρ xs us) (hy:SV.IsL C.σ ρ ys vs) :
  ∀ {is:List Nat} {p:SB},eqIs cc.P rec e n xs ys is=some p→∃ b,p.den C.σ ρ=some b∧(Op.eqItems d e n us.toArray vs.toArray is).run cc.P w=.ok b w
 | [],p,h=>by
   have h':some (SB.c true)=some p:=h
   cases h'
   exact ⟨true,rfl,rfl⟩
 | i::is,p,h=>by
   have h':(match partOf cc.P e xs (Nat.mul i n),partOf cc.P e ys (Nat.mul i n) with
    | some a,some b=>match rec e a b,eqIs cc.P rec e n xs ys is with
      | some p,some q=>some (SB.and p q)
      | _,_=>none
    | _,_=>none)=some p:=h
   split at h'
   ·rename_i a b ha hb
    split at h'
    ·rename_i p1 q1 h1 h2
     cases h'
     obtain ⟨u,e1,e2⟩:=partOf_ok hx ha w
     obtain ⟨v,e3,e4⟩:=partOf_ok hy hb w
     have e1':(part e us.toArray (i * n)).run cc.P w=.ok u w:=e1
     have e3':(part e vs.toArray (i * n)).run cc.P w=.ok v w:=e3
     obtain ⟨b1,e5,e6⟩:=hrec e a b p1 u v h1 e2 e4
     obtain ⟨b2,e7,e8⟩:=eqIs_ok hrec hx hy h2
     refine ⟨b1 && b2,and_den e5 e7,?_⟩
     simp only [Op.eqItems]
     simp only [Sem.run_bind,e1',e3',e6,Result.andThen_ok,Sem.run_ite]
     cases b1
     ·simp
     ·simp [e8]
    ·cases h'
   ·cases h'
theorem eqB_den {p q:SB} {a b:Bool} (hp:p.den C.σ ρ=some a) (hq:q.den C.σ ρ=some b):(eqB p q).den C.σ ρ=some (a == b):=by
 simp [eqB,SB.den,hp,hq]
 cases a<;>cases b<;>rfl
theorem eqv_ok (hcc:cc.Ok C) (w:World):∀ (n d:Nat),n≤d→EqOk cc C ρ w d (eqv cc n)
 | 0,_,_=>fun _ _ _ _ _ _ h=>by cases h
 | n+1,d,hd=>by
   obtain ⟨d,rfl⟩:∃ d',d=d'+1:=⟨d - 1,by omega⟩
   have ih:=eqv_ok hcc w n d (by omega)
   intro t x y p u v h hx hy
   have h':eqvS cc (eqv cc n) t x y=some p:=h
   clear h
   unfold eqvS at h'
   split at h'<;>(try cases h')<;>rename_i hu
   ·simp only [SV.Is] at hx hy
    obtain ⟨a,ha,rfl⟩:=hx;obtain ⟨b,hb,rfl⟩:=hy
    exact ⟨a == b,eqB_den ha hb,run_equalIn_bool w d t a b hu⟩
   ·rename_i k a k' b
    cases hk:keq k k' with
    | false=>rw [hk] at h';cases h'
    | true=>
      rw [hk] at h';cases h'
      have:=keq_eq hk;subst this
      simp only [SV.Is] at hx hy
      obtain ⟨a',ha,rfl⟩:=hx;obtain ⟨b',hb,rfl⟩:=hy
      refine ⟨decide (a'=b'),by simp [SB.den,ha,hb],?_⟩
      rw [run_equalIn_int w d t k _ a' b' hu]
      rfl
   ·simp only [SV.Is] at hx hy
    subst hx;subst hy
    exact ⟨_,rfl,run_equalIn_string w d t _ _ hu⟩
   ·simp only [SV.Is] at hx hy;subst hx;subst hy;exact ⟨_,rfl,by simp [Op.equalIn,run_underlying hu]⟩
   ·simp only [SV.Is] at hx hy;subst hx;obtain ⟨_,_,_,_,rfl⟩:=hy;exact ⟨_,rfl,by simp [Op.equalIn,run_underlying hu]⟩
   ·simp only [SV.Is] at hx hy;subst hy;obtain ⟨_,_,_,_,rfl⟩:=hx;exact ⟨_,rfl,by simp [Op.equalIn,run_underlying hu]⟩
   ·simp only [SV.Is] at hx hy;subst hx;subst hy;exact ⟨_,rfl,by simp [Op.equalIn,run_underlying hu]⟩
   ·simp only [SV.Is] at hx hy;subst hx;obtain ⟨_,_,_,_,_,_,_,_,rfl⟩:=hy;exact ⟨_,rfl,by simp [Op.equalIn,run_underlying hu]⟩
   ·simp only [SV.Is] at hx hy;subst hy;obtain ⟨_,_,_,_,_,_,_,_,rfl⟩:=hx;exact ⟨_,rfl,by simp [Op.equalIn,run_underlying hu]⟩
   ·simp only [SV.Is] at hx hy;subst hx;subst hy;exact ⟨_,rfl,by simp [Op.equalIn,run_underlying hu]⟩
   ·simp only [SV.Is] at hx hy;subst hx;obtain ⟨_,_,rfl⟩:=hy;exact ⟨_,rfl,by simp [Op.equalIn,run_underlying hu]⟩
   ·simp only [SV.Is] at hx hy;subst hy;obtain ⟨_,_,rfl⟩:=hx;exact ⟨_,rfl,by simp [Op.equalIn,run_underlying hu]⟩
   ·simp only [SV.Is] at hx hy;subst hx;subst hy;exact ⟨_,rfl,by simp [Op.equalIn,run_underlying hu]⟩
   ·simp only [SV.Is] at hx hy;subst hx;obtain ⟨_,_,_,_,rfl⟩:=hy;exact ⟨_,rfl,by simp [Op.equalIn,run_underlying hu]⟩
   ·simp only [SV.Is] at hx hy;subst hy;obtain ⟨_,_,_,_,rfl⟩:=hx;exact ⟨_,rfl,by simp [Op.equalIn,run_underlying hu]⟩
   ·rename_i fs xs ys
    cases hm:lmem cc.eqt t with
    | false=>rw [hm] at h';cases h'
    | true=>
      rw [hm] at h'
      simp only [cond_true] at h'
      obtain ⟨q1,_,q3⟩:=hcc.eqt t (lmem_iff.1 hm)
      simp only [SV.Is] at hx hy
      obtain ⟨us,hx',rfl⟩:=hx
      obtain ⟨vs,hy',rfl⟩:=hy
      have hfs:cc.P.fieldsOf t=fs:=by simp [Program.fieldsOf,hu]
      obtain ⟨b,e1,e2⟩:=eqFs_ok ih hx' hy' (q3 fs hu) h'
      refine ⟨b,e1,?_⟩
      rw [run_equalIn_struct w d t _ _ (by rw [hfs];exact hu) q1,hfs]
      exact e2
   ·rename_i m e xs ys
    split at h'
    ·rename_i g sz ha
     obtain ⟨_,_,i,hi,hsz⟩:=aggOf_ok ha w
     simp only [SV.Is] at hx hy
     obtain ⟨us,hx',rfl⟩:=hx
     obtain ⟨vs,hy',rfl⟩:=hy
     obtain ⟨b,e1,e2⟩:=eqIs_ok ih hx' hy' h'
     refine ⟨b,e1,?_⟩
     rw [run_equalIn_array w d _ _ hu hi]
     have:cc.P.cellsOf e=sz:=by simp [Program.cellsOf,hi,hsz]
     rw [this]
     exact e2
    ·cases h'
end
end Go.Sx
