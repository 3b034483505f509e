/- A symbolic executor: arrays that are told by a code: stores, what is appended. -/
import Derived.Test.YtfgdpkceoadgjaaSxGb
namespace Go.Sx
set_option linter.unusedSectionVars false
set_option linter.unusedVariables false
set_option linter.unusedSimpArgs false
open Go.RowKit
noncomputable def layT (P:Program) (d:Nat):TypeId→Option (List Kd):=
 Nat.rec (motive:=fun _=>TypeId→Option (List Kd)) (fun _=>none) (fun _ ih t=>match P.underlying t with
  | some (.int k)=>some [.nt k]
  | some .bool=>some [.tv]
  | some (.struct fs)=>List.rec (motive:=fun _=>Option (List Kd)) (some []) (fun f _ r=>match ih f.type,r with | some a,some b=>some (lapp a b) | _,_=>none) fs.toList
  | _=>none) d
theorem splice_get {α:Type} (A vs:List α) (k p:Nat) (h:k+vs.length≤A.length):(A.take k++vs++A.drop (k+vs.length))[p]? = if k≤p∧p < k+vs.length then vs[p - k]? else A[p]? := by
 have hk:(A.take k).length=k:=by rw [List.length_take];omega
 by_cases q1:k≤p∧p < k+vs.length
 ·rw [if_pos q1,List.append_assoc,List.getElem?_append_right (by omega),List.getElem?_append_left (by omega),hk]
 ·rw [if_neg q1,List.append_assoc]
  by_cases q2:p < k
  ·rw [List.getElem?_append_left (by omega),List.getElem?_take,if_pos q2]
  ·rw [List.getElem?_append_right (by omega),List.getElem?_append_right (by omega),List.getElem?_drop,hk]
   congr 1;omega
theorem splice_length {α:Type} (A vs:List α) (k:Nat) (h:k+vs.length≤A.length):(A.take k++vs++A.drop (k+vs.length)).length=A.length:=by
 simp only [List.length_append,List.length_take,List.length_drop];omega
section
variable {cc:Cc} {C:Ct} {hc:Nat→Option Obj} {w0:World} {ρ:Dyn} {H:Hp} {w:World}
noncomputable def stoA (cc:Cc) (H:Hp) (t:TypeId) (r:SR) (o:SI) (x:SV):OpR:=
 match r with
 | .n id=>match get H.heap id with
   | some (.arr lay c n t' cp)=>match splitA none (llen lay) o,x.cells,aggOf cc.P t with
     | some (j,f),some cs,some (_,m)=>bif Nat.beq (llen cs) m then (bif Nat.ble (Nat.add f m) (llen lay) then (bif Nat.blt f (llen lay) then (bif lall SV.one cs then
       need cc H (.le (.c 0) j) 310 (need cc H (.lt j n) 311 (match setsA cc H lay cs c j f with
        | .ok c'=>.val (.tp []) (H.put id (.arr lay c' n t' cp))
        | .ask p=>.ask p
        | .no=>.bad 312)) else .bad 313) else .bad 314) else .bad 315) else .bad 316
     | _,_,_=>.bad 317
   | _=>.bad 318
 | _=>.bad 319
theorem stoA_ok (hcc:cc.Ok C) (h:HpRel C hc w0 ρ H w) {t:TypeId} {r:SR} {o:SI} {x:SV} {u:Value} {b k:Nat} (hr:r.den C.σ ρ=some b) (ho:o.den C.σ ρ=some (Int.ofNat k)) (hx:x.Is C.σ ρ u) :
  (stoA cc H t r o x).Ok cc C hc w0 ρ H w (do storeVar t ⟨b,k,none⟩ u;pure .skip):=by
 unfold stoA
 split
 ·rename_i id
  split
  ·rename_i lay c n t' cp hg
   split
   ·rename_i j f cs g m hs hcs ha
    cases c1:Nat.beq (llen cs) m with
    | false=>trivial
    | true=>
    cases c2:Nat.ble (Nat.add f m) (llen lay) with
    | false=>trivial
    | true=>
    cases c3:Nat.blt f (llen lay) with
    | false=>trivial
    | true=>
    cases c4:lall SV.one cs with
    | false=>trivial
    | true=>
    simp only [cond_true]
    have c1:=Nat.eq_of_beq_eq_true c1
    rw [llen_eq] at c1
    have c2:=Nat.le_of_ble_eq_true c2
    rw [llen_eq] at c2
    have c2:f+m≤lay.length:=c2
    have c3:f < lay.length:=by rw [llen_eq] at c3;simpa [Nat.blt_eq] using c3
    obtain ⟨b',o',e1,e2,cv,nv,cpv,A,h1,h2,h3,h4,h5,h6,rfl⟩:=h.blk id _ hg rfl
    have:b'=b:=by simp only [SR.den] at hr;rw [e1] at hr;exact Option.some.inj hr
    subst this
    obtain ⟨y,s1,s2⟩:=splitA_ok (bn:=0) rfl hs ho
    rw [llen_eq] at s2
    have hcu:=SV.cells_is hx hcs
    have lcu:=SV.isL_length hcu
    refine need_ok hcc h (le_den0 s1) fun h0=>?_
    refine need_ok hcc h (b:=decide (y < Int.ofNat nv)) (by simp [SB.den,s1,h2]) fun h01=>?_
    have h0':0≤y:=by simpa using h0
    have h1':y < nv:=by simpa using h01
    obtain ⟨jv,rfl⟩:∃ jv:Nat,y=jv:=⟨y.toNat,by omega⟩
    have hk:k=jv * lay.length+f:=by
     have s2':(k:Int)=((0:Nat):Int)+(jv:Int) * (lay.length:Int)+(f:Int):=s2
     have e3:(k:Int)=((jv * lay.length+f:Nat):Int):=by
      rw [Int.natCast_add,Int.natCast_mul];omega
     omega
    have hbd:jv * lay.length+lay.length≤A.size:=by
     have h7:jv+1≤cpv:=by omega
     have h8:=Nat.mul_le_mul_right lay.length h7
     rw [h5];rw [Nat.add_mul] at h8;omega
    have hlen:u.cells.toList.length=m:=by rw [lcu,c1]
    split
    ·rename_i c' hset
     obtain ⟨cv',g1,g2⟩:=setsA_ok hcc h hcu h1 s1 c3 hset
     have hst:=run_storeCells_at (P:=cc.P) b' k t' u.cells.toList 0 A w e2 (by rw [hlen];omega) (SV.all_one hcu c4)
     obtain ⟨a1,a2,_⟩:=aggOf_ok ha w
     refine ⟨ρ,.skip,undef,w.setRow b' (A.toList.take k++u.cells.toList++A.toList.drop (k+u.cells.toList.length)).toArray,Tn.of_put e1 (fun i hi=>setRow_other _ _ _ _ hi) (by simp),?_,.inr ⟨rfl,rfl⟩,?_,?_⟩
     ·have hsz:u.cells.size=m:=by rw [← hlen];simp
      simp only [Nat.add_zero] at hst
      simp [storeVar,a2,hsz,hst]
     ·simp only [SV.Is];exact ⟨[],SV.isL_nil.2 rfl,rfl⟩
     ·refine h.put hg rfl e1 (o:=.cells (A.toList.take k++u.cells.toList++A.toList.drop (k+u.cells.toList.length)).toArray t' (0,0)) rfl ?_ (fun i hi=>setRow_other _ _ _ _ hi) (setRow_heap _ _ _ _ _ _ e2) (by simp) rfl rfl rfl
      refine ⟨cv',nv,cpv,_,g1,h2,h3,h4,?_,?_,rfl⟩
      ·rw [← h5,List.size_toArray,splice_length _ _ _ (by rw [hlen,Array.length_toList];omega),Array.length_toList]
      ·intro i hi f' κ hκ
       have hf':f' < lay.length:=(List.getElem?_eq_some_iff.1 hκ).1
       rw [g2 i f' κ hκ]
       have hold:=h6 i hi f' κ hκ
       simp only [Nat.zero_add] at hold ⊢
       rw [← hk]
       generalize i * lay.length+f'=p at hold ⊢
       simp only [List.getElem?_toArray]
       rw [splice_get _ _ _ _ (by rw [hlen,Array.length_toList];omega)]
       by_cases q1:k≤p∧p < k+u.cells.toList.length
       ·rw [if_pos q1,if_pos q1]
        have hlt:p - k < u.cells.toList.length:=by omega
        rw [List.getElem?_eq_getElem hlt,List.getD_eq_getElem?_getD,List.getElem?_eq_getElem hlt];rfl
       ·rw [if_neg q1,if_neg q1]
        simpa using hold
    ·rename_i q hset
     exact setsA_ask hcc h hcu hset
    ·trivial
   ·trivial
  ·trivial
 ·trivial
inductive VwR where
 | ok (c j m:SI)
 | ask (p:SB)
 | no
noncomputable def viewA1 (cc:Cc) (H:Hp) (lay:List Kd) (x:SV):VwR:=
 match x with
 | .sn=>.ok (.c 0) (.c 0) (.c 0)
 | .sl r o m _=>match arrAt cc H r with
   | some (lay',c,n,bv)=>bif layEq lay lay' then (match splitA bv (llen lay) o with
     | some (j,f)=>bif Nat.beq f 0 then (match dec (bdOf cc H) H.facts (.le (.c 0) j) with
       | .yes true=>match dec (bdOf cc H) H.facts (.le (SI.add j m) n) with
         | .yes true=>.ok c j m
         | .yes false=>.no
         | .ask p=>.ask p
       | .yes false=>.no
       | .ask p=>.ask p) else .no
     | none=>.no) else .no
   | none=>match m with
     | .c (.ofNat k)=>match lod cc H r o (Nat.mul k (llen lay)) with
       | some l=>match setsA cc H lay l (.c 0) (.c 0) 0 with
         | .ok c=>.ok c (.c 0) (.c (.ofNat k))
         | .ask p=>.ask p
         | .no=>.no
       | none=>.no
     | _=>.no
 | _=>.no
def VwOk (cc:Cc) (C:Ct) (ρ:Dyn) (w:World) (lay:List Kd) (c j m:SI) (u:Value):Prop:=
 ∃ a cap mv cv jv,∃ us:List Value,u=.slice a mv cap∧c.den C.σ ρ=some cv∧j.den C.σ ρ=some (Int.ofNat jv)∧m.den C.σ ρ=some (Int.ofNat mv)∧us.length=mv * lay.length∧
   (∀ i,i < mv→∀ f κ,lay[f]? = some κ→us[i * lay.length+f]? = some (κ.val C.σ cv (jv+i) f))∧
   (∀ b,a=some b→∀ p v,us[p]? = some v→w.cell? (b.add p)=some v)∧
   ∀ w2:World,w2.heap=w.heap→(Builtin.firstCells lay.length mv (.slice a mv cap)).run cc.P w2=.ok us.toArray w2
def cellsL (σ:Sta) (lay:List Kd) (cv:Int) (jv mv:Nat):List Value:=(List.range (mv * lay.length)).map fun p=>match lay[p % lay.length]? with | some κ=>κ.val σ cv (jv+p / lay.length) (p % lay.length) | none=>undef
theorem cellsL_length (σ:Sta) (lay:List Kd) (cv:Int) (jv mv:Nat):(cellsL σ lay cv jv mv).length=mv * lay.length:=by simp [cellsL]
theorem row_split {L i f:Nat} (hf:f < L):(i * L+f) / L=i∧(i * L+f) % L=f:=by
 have hL:0 < L:=by omega
 constructor
 ·rw [Nat.mul_comm,Nat.mul_add_div hL,Nat.div_eq_of_lt hf];simp
 ·rw [Nat.mul_comm,Nat.mul_add_mod,Nat.mod_eq_of_lt hf]
theorem cellsL_get {σ:Sta} {lay:List Kd} {cv:Int} {jv mv i f:Nat} {κ:Kd} (hi:i < mv) (hκ:lay[f]? = some κ):(cellsL σ lay cv jv mv)[i * lay.length+f]? = some (κ.val σ cv (jv+i) f):=by
 have hf:f < lay.length:=(List.getElem?_eq_some_iff.1 hκ).1
 have hm:i * lay.length+f < mv * lay.length:=by
  have:(i+1) * lay.length≤mv * lay.length:=Nat.mul_le_mul_right _ hi
  rw [Nat.add_mul] at this;omega
 obtain ⟨h1,h2⟩:=row_split (i:=i) hf
 simp only [cellsL,List.getElem?_map,List.getElem?_range hm,Option.map_some,h1,h2,hκ]
theorem cellsL_of {σ:Sta} {lay:List Kd} {cv:Int} {jv mv p:Nat} {v:Value} (h:(cellsL σ lay cv jv mv)[p]? = some v) (hlay:0 < lay.length):∃ i f κ,p=i * lay.length+f∧i < mv∧lay[f]? = some κ∧v=κ.val σ cv (jv+i) f:=by
 have hlt:p < mv * lay.length:=by
  have:=(List.getElem?_eq_some_iff.1 h).1
  rwa [cellsL_length] at this
 have hm:=Nat.mod_lt p hlay
 have hκ:=List.getElem?_eq_getElem hm
 have hd:=Nat.div_add_mod p lay.length
 refine ⟨p / lay.length,p % lay.length,_,by rw [Nat.mul_comm];exact hd.symm,Nat.div_lt_of_lt_mul (by rw [Nat.mul_comm];exact hlt),hκ,?_⟩
 simp only [cellsL,List.getElem?_map,List.getElem?_range hlt,Option.map_some,hκ,Option.some.injEq] at h
 exact h.symm
theorem viewA1_ok (hcc:cc.Ok C) (h:HpRel C hc w0 ρ H w) {lay:List Kd} (hlay:0 < lay.length) {x:SV} {u:Value} (hx:x.Is C.σ ρ u) :
  match viewA1 cc H lay x with
  | .ok c j m=>VwOk cc C ρ w lay c j m u
  | .ask p=>∃ b,p.den C.σ ρ=some b
  | .no=>True:=by
 cases x
 case sn=>
  simp only [SV.Is] at hx
  subst hx
  exact ⟨none,0,0,0,0,[],rfl,rfl,rfl,rfl,by simp,fun i hi=>absurd hi (Nat.not_lt_zero _),(fun _ hb=>by cases hb),fun w2 _=>by simp [Builtin.firstCells]⟩
 case sl r o m cp=>
  simp only [SV.Is] at hx
  obtain ⟨b,k,len,cap,e1,e2,e3,e4,rfl⟩:=hx
  cases harr:arrAt cc H r with
  | some p=>
    obtain ⟨lay',c,n,bv⟩:=p
    simp only [viewA1,harr]
    cases hl:layEq lay lay' with
    | false=>trivial
    | true=>
      have:=layEq_eq hl
      subst this
      simp only [cond_true]
      cases hs:splitA bv (llen lay) o with
      | none=>trivial
      | some p=>
        obtain ⟨j,f⟩:=p
        dsimp only
        cases hf:Nat.beq f 0 with
        | false=>trivial
        | true=>
          have:=Nat.eq_of_beq_eq_true hf
          subst this
          simp only [cond_true]
          obtain ⟨bn,cv,nv,q1,q2,q3,q5⟩:=arrAt_ok hcc h e1 harr
          obtain ⟨y,s1,s2⟩:=splitA_ok q1 hs e2
          rw [llen_eq] at s2
          have hd1:(SB.le (.c 0) j).den C.σ ρ=some (decide (0≤y)):=le_den0 s1
          have hd2:(SB.le (SI.add j m) n).den C.σ ρ=some (decide (y+Int.ofNat len≤Int.ofNat nv)):=by simp [SB.den,SI.add_den s1 e3,q3]
          cases hdec1:dec (bdOf cc H) H.facts (.le (.c 0) j) with
          | ask p=>exact ask_den (bdOf_ok hcc h) h.facts hd1 hdec1
          | yes b1=>
            cases b1 with
            | false=>trivial
            | true=>
              dsimp only
              cases hdec2:dec (bdOf cc H) H.facts (.le (SI.add j m) n) with
              | ask p=>exact ask_den (bdOf_ok hcc h) h.facts hd2 hdec2
              | yes b2=>
                cases b2 with
                | false=>trivial
                | true=>
                  dsimp only
                  have r1:=dec_ok (bdOf_ok hcc h) h.facts hd1 hdec1
                  have r2:=dec_ok (bdOf_ok hcc h) h.facts hd2 hdec2
                  have h0':0≤y:=by simpa using r1.symm
                  have h1':y+len≤nv:=by simpa using r2.symm
                  obtain ⟨jv,rfl⟩:∃ jv:Nat,y=jv:=⟨y.toNat,by omega⟩
                  have hk:k=bn+jv * lay.length:=by
                   have e3:(k:Int)=((bn+jv * lay.length:Nat):Int):=by
                    rw [Int.natCast_add,Int.natCast_mul];simp at s2;exact s2
                   omega
                  have hcell:∀ p v,(cellsL C.σ lay cv jv len)[p]? = some v→w.cell? ((⟨b,k,none⟩:Addr).add p)=some v:=by
                   intro p v hp
                   obtain ⟨i,f,κ,rfl,hi,hκ,rfl⟩:=cellsL_of hp hlay
                   have:=q5 (jv+i) (by omega) f κ hκ
                   rw [addr_add,hk]
                   have e:bn+jv * lay.length+(i * lay.length+f)=bn+(jv+i) * lay.length+f:=by rw [Nat.add_mul];omega
                   rw [e];exact this
                  refine ⟨_,cap,len,cv,jv,cellsL C.σ lay cv jv len,rfl,q2,s1,e3,cellsL_length _ _ _ _ _,fun i hi f κ hκ=>cellsL_get hi hκ,fun b' hb' p v hp=>?_,fun w2 hw=>run_firstCells_some w2 _ _ _ _ _ _ (cellsL_length _ _ _ _ _) fun p v hp=>?_⟩
                  ·cases hb';exact hcell p v hp
                  ·have:=hcell p v hp
                   rw [addr_add] at this ⊢
                   simp only [World.cell?,hw] at this ⊢
                   exact this
  | none=>
    simp only [viewA1,harr]
    rcases m with n | _ | _ | _ | _ | _<;>try trivial
    cases n with
    | negSucc n=>trivial
    | ofNat kk=>
      simp only [SI.den,Option.some.injEq] at e3
      have e3':kk=len:=by injection e3
      subst e3'
      dsimp only
      cases hl:lod cc H r o (Nat.mul kk (llen lay)) with
      | none=>trivial
      | some l=>
        dsimp only
        obtain ⟨us,h1,h2,h3⟩:=lod_ok hcc h e1 e2 hl
        rw [llen_eq] at h2
        cases hset:setsA cc H lay l (.c 0) (.c 0) 0 with
        | no=>trivial
        | ask p=>exact setsA_ask hcc h h1 hset
        | ok c=>
          dsimp only
          obtain ⟨cv',g1,g2⟩:=setsA_ok hcc h h1 (c:=.c 0) (cv:=0) rfl (j:=.c 0) (jv:=0) rfl hlay hset
          refine ⟨_,cap,kk,cv',0,us,rfl,g1,rfl,rfl,h2,fun i hi f κ hκ=>?_,(fun b' hb' p v hp=>by cases hb';rw [addr_add];exact h3 p v hp),fun w2 hw=>run_firstCells_some w2 _ _ _ _ _ us h2 fun j v hj=>?_⟩
          ·have hlt:f < lay.length:=(List.getElem?_eq_some_iff.1 hκ).1
           have hm:i * lay.length+f < kk * lay.length:=by
            have:(i+1) * lay.length≤kk * lay.length:=Nat.mul_le_mul_right _ hi
            rw [Nat.add_mul] at this;omega
           have h2':us.length=kk * lay.length:=h2
           rw [Nat.zero_add,g2 i f κ hκ,if_pos (by omega)]
           have:i * lay.length+f - (0 * lay.length+0)=i * lay.length+f:=by omega
           rw [this]
           have hlt2:i * lay.length+f < us.length:=by omega
           rw [List.getElem?_eq_getElem hlt2,List.getD_eq_getElem?_getD,List.getElem?_eq_getElem hlt2];rfl
          ·rw [addr_add]
           have:=h3 j v hj
           simp only [World.cell?,hw] at this ⊢
           exact this
 all_goals trivial
def isZ (m:SI):Bool:=match m with | .c 0=>true | _=>false
theorem isZ_eq {m:SI} (h:isZ m=true):m=.c 0:=by
 unfold isZ at h
 split at h
 ·rfl
 ·cases h
def lenZ (x:SV):Bool:=match x with | .sl _ _ m _=>isZ m | _=>false
noncomputable def viewA (cc:Cc) (H:Hp) (lay:List Kd) (x:SV):VwR:=bif lenZ x then .ok (.c 0) (.c 0) (.c 0) else viewA1 cc H lay x
theorem viewA_ok (hcc:cc.Ok C) (h:HpRel C hc w0 ρ H w) {lay:List Kd} (hlay:0 < lay.length) {x:SV} {u:Value} (hx:x.Is C.σ ρ u) :
  match viewA cc H lay x with
  | .ok c j m=>VwOk cc C ρ w lay c j m u
  | .ask p=>∃ b,p.den C.σ ρ=some b
  | .no=>True:=by
 have h1:=viewA1_ok hcc h hlay hx
 unfold viewA
 cases hz:lenZ x with
 | false=>exact h1
 | true=>
   simp only [cond_true]
   unfold lenZ at hz
   split at hz
   ·rename_i r o m cp
    have:=isZ_eq hz;subst this
    simp only [SV.Is] at hx
    obtain ⟨b,k,len,cap,e1,e2,e3,e4,rfl⟩:=hx
    simp only [SI.den,Option.some.injEq] at e3
    have:len=0:=by
     have e3:(0:Int)=len:=e3
     omega
    subst this
    exact ⟨_,cap,0,0,0,[],rfl,rfl,rfl,rfl,by simp,fun i hi=>absurd hi (Nat.not_lt_zero _),(fun _ _ p v hp=>by simp at hp),fun w2 _=>by simp [Builtin.firstCells,loadCells_zero]⟩
   ·cases hz
theorem VwOk.one {lay:List Kd} {σ:Sta} {cv:Int} {jv mv:Nat} {us:List Value} (h1:us.length=mv * lay.length) (h2:∀ i,i < mv→∀ f κ,lay[f]? = some κ→us[i * lay.length+f]? = some (κ.val σ cv (jv+i) f)) (hlay:0 < lay.length):∀ u∈us,u.oneCell'=true:=by
 intro u hu
 obtain ⟨p,hp⟩:=List.getElem?_of_mem hu
 have hlt:=(List.getElem?_eq_some_iff.1 hp).1
 have hd:=Nat.div_add_mod p lay.length
 have hm:=Nat.mod_lt p hlay
 have hi:p / lay.length < mv:=by
  rw [h1] at hlt
  exact Nat.div_lt_of_lt_mul (by rw [Nat.mul_comm];exact hlt)
 have:=h2 (p / lay.length) hi (p % lay.length) _ (List.getElem?_eq_getElem hm)
 have e:p / lay.length * lay.length+p % lay.length=p:=by rw [Nat.mul_comm];exact hd
 rw [e,hp] at this
 cases this
 exact Kd.val_one
end
end Go.Sx
