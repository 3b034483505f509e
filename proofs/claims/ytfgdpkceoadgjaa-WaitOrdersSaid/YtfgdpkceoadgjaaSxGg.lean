/- A symbolic executor: maps of ints. -/
import Derived.Test.YtfgdpkceoadgjaaSxGf
import Derived.MapKept
namespace Go.Sx
set_option linter.unusedSectionVars false
set_option linter.unusedVariables false
set_option linter.unusedSimpArgs false
open Go.RowKit
section
variable {cc:Cc} {C:Ct} {hc:Nat→Option Obj} {w0:World} {ρ ρ':Dyn} {H:Hp} {w:World}
noncomputable def zeroCs (cc:Cc) (t:TypeId):Option (List SV):=
 match cc.P.info? t with
 | some i=>match i.zero with
   | some z=>(ofVal z).cells
   | none=>none
 | none=>none
theorem zeroCs_ok {t:TypeId} {l:List SV} (h:zeroCs cc t=some l) (w:World):∃ z,(zeroValue t).run cc.P w=.ok z w∧SV.IsL C.σ ρ l z.cells.toList:=by
 unfold zeroCs at h
 split at h
 ·rename_i i hi
  split at h
  ·rename_i z hz
   exact ⟨z,by simp [zeroValue,typeInfo,hi,hz],SV.cells_is (ofVal_is z) h⟩
  ·cases h
 ·cases h
noncomputable def mapK (cc:Cc) (t:TypeId):Option (IntKind×IntKind):=
 match cc.P.underlying t with
 | some (.map kt et)=>match cc.P.underlying kt,cc.P.info? et with
   | some (.int kk),some i=>match i.zero with
     | some (.int vk z)=>bif ieq z 0 then some (kk,vk) else none
     | _=>none
   | _,_=>none
 | _=>none
theorem mapK_ok {t:TypeId} {kk vk:IntKind} (h:mapK cc t=some (kk,vk)):∃ kt et,cc.P.underlying t=some (.map kt et)∧cc.P.underlying kt=some (.int kk)∧∀ w,(zeroValue et).run cc.P w=.ok (.int vk 0) w:=by
 unfold mapK at h
 split at h
 ·rename_i kt et hu
  split at h
  ·rename_i kk' i hk hi
   split at h
   ·rename_i vk' z hz
    cases hb:ieq z 0 with
    | false=>rw [hb] at h;cases h
    | true=>
      rw [hb] at h;cases h
      have:=ieq_iff.1 hb;subst this
      exact ⟨kt,et,hu,hk,fun w=>by simp [zeroValue,typeInfo,hi,hz]⟩
   ·cases h
  ·cases h
 ·cases h
theorem mpIs_nil {σ:Sta} (al:ArrLaw σ) {kk vk:IntKind}:MpIs σ kk vk 0 []:=⟨by simp,by simp,fun k _=>al.mz vk k⟩
noncomputable def opMakeMap (cc:Cc) (H:Hp) (t:TypeId) (r:Option SV):OpR:=
 match mapK cc t,r with
 | some (kk,vk),none=>.val (.mp (.n H.nb)) (H.alloc (.mapc kk vk (.c 0)))
 | some (kk,vk),some (.it _ _)=>.val (.mp (.n H.nb)) (H.alloc (.mapc kk vk (.c 0)))
 | _,_=>.bad 97
theorem opMakeMap_ok (hcc:cc.Ok C) (h:HpRel C hc w0 ρ H w) {t:TypeId} {r:Option SV} {u:Option Value} (hr:OIs C.σ ρ r u):(opMakeMap cc H t r).Ok cc C hc w0 ρ H w (do pure (.value (← Instr.makeMap t u))):=by
 have done:∀ (kk vk:IntKind) (s:Sem Value),s.run cc.P w=.ok (.map (some w.heap.size)) (w.alloc (.map #[] 0))→(OpR.val (.mp (.n H.nb)) (H.alloc (.mapc kk vk (.c 0)))).Ok cc C hc w0 ρ H w (do pure (.value (← s))):=fun kk vk s hs=>
  ⟨ρ.setBl H.nb w.heap.size,.value (.map (some w.heap.size)),.map (some w.heap.size),w.alloc (.map #[] 0),Tn.of_alloc ρ H w _ _,by simp [hs],.inl rfl,by simp only [SV.Is,SR.den];exact ⟨_,Dyn.setBl_same _ _ _,rfl⟩,
   h.alloc' ⟨0,[],0,rfl,mpIs_nil hcc.al,rfl⟩⟩
 unfold opMakeMap
 split
 ·cases u with
  | none=>exact done _ _ _ rfl
  | some v=>exact hr.elim
 ·rename_i kk vk k e hm
  obtain ⟨kt,et,hu,_,_⟩:=mapK_ok hm
  cases u with
  | none=>exact hr.elim
  | some v=>
    simp only [OIs,SV.Is] at hr
    obtain ⟨n,e1,rfl⟩:=hr
    exact done _ _ _ (by simp [Instr.makeMap,underlying,hu,asInt,asIntOf])
 ·trivial
noncomputable def gmD (vk:IntKind) (c x:SI):SI:=.ap vk.ctorIdx c x (.c 0) (.c 1) (.c 0) (.c 0)
noncomputable def isS (f:Nat) (a2 a4 a5:SI):Bool:=bif Nat.beq f 8 then (bif a2.beq (.c 0) then (bif a4.beq (.c 1) then a5.beq (.c 0) else false) else false) else false
noncomputable def gmS (cc:Cc) (H:Hp) (vk:IntKind) (x:SI) (c:SI):SI:=
 SI.rec (motive:=fun _=>SI) (fun n=>bif ieq n 0 then .c 0 else gmD vk (.c n) x) (fun i=>gmD vk (.v i) x) (fun i=>gmD vk (.d i) x) (fun f a b _ _=>gmD vk (.op f a b) x) (fun k a _=>gmD vk (.wk k a) x)
  (fun f a0 a1 a2 a3 a4 a5 ih0 _ _ _ _ _=>bif isS f a2 a4 a5 then (bif a1.beq x then SI.wr (bdOf cc H) vk a3 else match dec (bdOf cc H) H.facts (.eq x a1) with
   | .yes true=>SI.wr (bdOf cc H) vk a3
   | .yes false=>ih0
   | _=>gmD vk (.ap f a0 a1 a2 a3 a4 a5) x) else gmD vk (.ap f a0 a1 a2 a3 a4 a5) x) c
theorem gmD_den {vk:IntKind} {c x:SI} {cv xv:Int} (hc:c.den C.σ ρ=some cv) (hx:x.den C.σ ρ=some xv):(gmD vk c x).den C.σ ρ=some (gm C.σ vk cv xv):=by
 simp [gmD,SI.den,hc,hx,gm]
theorem gmS_den (hcc:cc.Ok C) (h:HpRel C hc w0 ρ H w) {vk:IntKind} {x:SI} {xv:Int} (hx:x.den C.σ ρ=some xv):∀ {c:SI} {cv:Int},c.den C.σ ρ=some cv→(gmS cc H vk x c).den C.σ ρ=some (gm C.σ vk cv xv):=by
 intro c
 induction c with
 | c n=>
   intro cv hc
   show (bif ieq n 0 then SI.c 0 else gmD vk (.c n) x).den C.σ ρ=_
   cases hb:ieq n 0 with
   | true=>
     have:=ieq_iff.1 hb;subst this
     cases hc
     rw [hcc.al.mz];rfl
   | false=>exact gmD_den hc hx
 | v i=>intro cv hc;exact gmD_den hc hx
 | d i=>intro cv hc;exact gmD_den hc hx
 | op f a b _ _=>intro cv hc;exact gmD_den hc hx
 | wk k a _=>intro cv hc;exact gmD_den hc hx
 | ap f a0 a1 a2 a3 a4 a5 ih0 _ _ _ _ _=>
   intro cv hc
   show (bif isS f a2 a4 a5 then (bif a1.beq x then SI.wr (bdOf cc H) vk a3 else match dec (bdOf cc H) H.facts (.eq x a1) with
    | .yes true=>SI.wr (bdOf cc H) vk a3
    | .yes false=>gmS cc H vk x a0
    | _=>gmD vk (.ap f a0 a1 a2 a3 a4 a5) x) else gmD vk (.ap f a0 a1 a2 a3 a4 a5) x).den C.σ ρ=_
   cases hs:isS f a2 a4 a5 with
   | false=>exact gmD_den hc hx
   | true=>
     have hs':(bif Nat.beq f 8 then (bif a2.beq (.c 0) then (bif a4.beq (.c 1) then a5.beq (.c 0) else false) else false) else false)=true:=hs
     simp only [cond_true_iff] at hs'
     obtain ⟨s1,s2,s3,s4⟩:=hs'
     have:=Nat.eq_of_beq_eq_true s1;subst this
     have:=SI.beq_eq s2;subst this
     have:=SI.beq_eq s3;subst this
     have:=SI.beq_eq s4;subst this
     simp only [SI.den,Option.bind_eq_some_iff,Option.some.injEq] at hc
     obtain ⟨c0,e0,k0,e1,z0,rfl,y0,e3,o0,rfl,z1,rfl,rfl⟩:=hc
     have hset:=hcc.al.ms vk c0 k0 y0 xv
     have hwr:(SI.wr (bdOf cc H) vk a3).den C.σ ρ=some (vk.wrap y0):=SI.wr_den (bdOf_ok hcc h) e3
     have heq:(SB.eq x a1).den C.σ ρ=some (decide (xv=k0)):=by simp [SB.den,hx,e1]
     simp only [cond_true]
     cases hb:a1.beq x with
     | true=>
       have:=SI.beq_eq hb;subst this
       rw [e1] at hx;cases hx
       rw [hset,if_pos rfl];exact hwr
     | false=>
       simp only [cond_false]
       split
       ·rename_i hd
        have hk:xv=k0:=by simpa using (dec_ok (bdOf_ok hcc h) h.facts heq hd).symm
        rw [hset,if_pos hk];exact hwr
       ·rename_i hd
        have hk:¬ xv=k0:=by simpa using (dec_ok (bdOf_ok hcc h) h.facts heq hd).symm
        rw [hset,if_neg hk];exact ih0 e0
       ·exact gmD_den (by simp [SI.den,e0,e1,e3]) hx
noncomputable def opLookup (cc:Cc) (H:Hp) (t:TypeId) (m x:SV):OpR:=
 match mapK cc t,m,x with
 | some (kk,vk),.mp (.n id),.it k e=>match get H.heap id with
   | some (.mapc kk' vk' c)=>bif keq k kk then (bif keq kk kk' then (bif keq vk vk' then .val (.it vk (gmS cc H vk e c)) H else .bad 400) else .bad 401) else .bad 402
   | _=>.bad 403
 | _,_,_=>.bad 404
theorem opLookup_ok (hcc:cc.Ok C) (h:HpRel C hc w0 ρ H w) {t:TypeId} {m x:SV} {um ux:Value} (hm:m.Is C.σ ρ um) (hx:x.Is C.σ ρ ux):(opLookup cc H t m x).Ok cc C hc w0 ρ H w (do pure (.value (← Instr.lookup t um ux false))):=by
 unfold opLookup
 split
 ·rename_i kk vk id k e hmk
  obtain ⟨kt,et,hu,hk,hz⟩:=mapK_ok hmk
  split
  ·rename_i kk' vk' c hg
   cases h1:keq k kk with
   | false=>trivial
   | true=>
   cases h2:keq kk kk' with
   | false=>trivial
   | true=>
   cases h3:keq vk vk' with
   | false=>trivial
   | true=>
   have:=keq_eq h1;subst this
   have:=keq_eq h2;subst this
   have:=keq_eq h3;subst this
   simp only [SV.Is] at hm hx
   obtain ⟨b,e1,rfl⟩:=hm
   obtain ⟨xv,e2,rfl⟩:=hx
   obtain ⟨b2,o,e3,e4,cv,l,clock,e5,hmp,rfl⟩:=h.blk id _ hg rfl
   have:b2=b:=by simp only [SR.den] at e1;rw [e3] at e1;exact Option.some.inj e1
   subst this
   refine OpR.ok_pure h (u:=.int vk (gm C.σ vk cv xv)) ?_ (by simp only [SV.Is];exact ⟨_,gmS_den hcc h e2 e5,rfl⟩)
   have hkey:MapKept.IsKey (.int k) (.int k xv):=rfl
   have hks:∀ y∈l,MapKept.IsKey (.int k) y.key:=fun y hy=>by obtain ⟨q,hq,_⟩:=hmp.1 y hy;rw [hq];rfl
   rcases MapKept.findNow_spec hkey l 0 hks with ⟨f1,f2⟩ | ⟨j,e',f1,f2,f3⟩
   ·simp [Instr.lookup,underlying,hu,MapKept.run_getObj_map e4,MapKept.run_checkKey hk hkey,MapKept.run_findKey hk f1,hz,Result.andThen]
    rw [hmp.2.2 xv f2]
   ·simp [Instr.lookup,underlying,hu,MapKept.run_getObj_map e4,MapKept.run_checkKey hk hkey,MapKept.run_findKey hk f1,Result.andThen]
    obtain ⟨q,q1,q2⟩:=hmp.1 e' (List.mem_of_getElem? f2)
    rw [f3] at q1
    simp only [Value.int.injEq,true_and] at q1
    rw [q2,q1]
  ·trivial
 ·trivial
theorem mpIs_push {σ:Sta} (al:ArrLaw σ) {kk vk:IntKind} {c x y:Int} {l:List MapEntry} (h:MpIs σ kk vk c l) (hn:∀ e∈l,e.key≠.int kk x) (hy:vk.wrap y=y) (n:Nat) :
  MpIs σ kk vk (σ.fi 8 c x 0 y 1 0) (l++[{ key:=.int kk x,val:=.int vk y,born:=n }]):=by
 obtain ⟨h1,h2,h3⟩:=h
 refine ⟨fun e he=>?_,?_,fun k hk=>?_⟩
 ·rcases List.mem_append.1 he with he | he
  ·obtain ⟨k,q1,q2⟩:=h1 e he
   refine ⟨k,q1,?_⟩
   rw [q2,al.ms,if_neg]
   intro hkx
   exact hn e he (by rw [q1,hkx])
  ·simp only [List.mem_singleton] at he
   subst he
   exact ⟨x,rfl,by rw [al.ms,if_pos rfl,hy]⟩
 ·rw [List.map_append,List.nodup_append]
  refine ⟨h2,by simp,?_⟩
  intro a ha b hb
  simp only [List.map_cons,List.map_nil,List.mem_singleton] at hb
  subst hb
  obtain ⟨e,he,rfl⟩:=List.mem_map.1 ha
  exact hn e he
 ·have hkx:¬ k=x:=fun hkx=>hk _ (List.mem_append_right _ (List.mem_singleton.2 rfl)) (by rw [hkx])
  rw [al.ms,if_neg hkx]
  exact h3 k fun e he=>hk e (List.mem_append_left _ he)
theorem mpIs_modify {σ:Sta} (al:ArrLaw σ) {kk vk:IntKind} {c x y:Int} {l:List MapEntry} (h:MpIs σ kk vk c l) {j:Nat} {e0:MapEntry} (hj:l[j]? = some e0) (hk0:e0.key=.int kk x) (hy:vk.wrap y=y) :
  MpIs σ kk vk (σ.fi 8 c x 0 y 1 0) (l.modify j fun e=>{ e with key:=.int kk x,val:=.int vk y }):=by
 obtain ⟨h1,h2,h3⟩:=h
 have hkeys:(l.modify j fun e=>{ e with key:=.int kk x,val:=.int vk y }).map (·.key)=l.map (·.key):=by
  apply List.ext_getElem?
  intro i
  simp only [List.getElem?_map,List.getElem?_modify]
  by_cases hi:j=i
  ·subst hi;rw [hj];simp [hk0]
  ·simp [hi]
 refine ⟨fun e he=>?_,by rw [hkeys];exact h2,fun k hk=>?_⟩
 ·obtain ⟨i,hi⟩:=List.mem_iff_getElem?.1 he
  rw [List.getElem?_modify] at hi
  by_cases hij:j=i
  ·subst hij
   rw [hj] at hi
   simp only [if_true,Option.map_eq_map,Option.map_some,Option.some.injEq] at hi
   subst hi
   exact ⟨x,rfl,by rw [al.ms,if_pos rfl,hy]⟩
  ·have hi':l[i]? = some e:=by
    cases hq:l[i]? with
    | none=>rw [hq] at hi;cases hi
    | some q=>rw [hq] at hi;simp [hij] at hi;rw [hi]
   obtain ⟨k,q1,q2⟩:=h1 e (List.mem_of_getElem? hi')
   refine ⟨k,q1,?_⟩
   rw [q2,al.ms,if_neg]
   intro hkx
   have k1:(l.map (·.key))[i]? = some (.int kk x):=by rw [List.getElem?_map,hi'];simp [q1,hkx]
   have k2:(l.map (·.key))[j]? = some (.int kk x):=by rw [List.getElem?_map,hj];simp [hk0]
   have hlt:j < (l.map (·.key)).length:=(List.getElem?_eq_some_iff.1 k2).1
   exact hij ((List.getElem?_inj hlt h2).1 (k2.trans k1.symm))
 ·have hmem:∀ e∈l,e.key≠.int kk k:=fun e he hek=>by
   have:e.key∈(l.modify j fun e=>{ e with key:=.int kk x,val:=.int vk y }).map (·.key):=by rw [hkeys];exact List.mem_map_of_mem he
   obtain ⟨e2,he2,hee⟩:=List.mem_map.1 this
   exact hk e2 he2 (by rw [hee,hek])
  have hkx:¬ k=x:=fun hkx=>hmem e0 (List.mem_of_getElem? hj) (by rw [hk0,hkx])
  rw [al.ms,if_neg hkx]
  exact h3 k hmem
noncomputable def opMapUp (cc:Cc) (H:Hp) (t:TypeId) (m x y:SV):OpR:=
 match mapK cc t,m,x,y with
 | some (kk,vk),.mp (.n id),.it k e,.it k2 a=>match get H.heap id,rg (bdOf cc H) a with
   | some (.mapc kk' vk' c),(some lo,some hi)=>bif keq k kk && (keq kk kk' && (keq vk vk' && (keq k2 vk && (ile (kmin vk) lo && ile hi (kmax vk))))) then .val (.tp []) (H.put id (.mapc kk vk (.ap 8 c e (.c 0) a (.c 1) (.c 0)))) else .bad 405
   | _,_=>.bad 406
 | _,_,_,_=>.bad 407
theorem opMapUp_ok (hcc:cc.Ok C) (h:HpRel C hc w0 ρ H w) {t:TypeId} {m x y:SV} {um ux uy:Value} (hm:m.Is C.σ ρ um) (hx:x.Is C.σ ρ ux) (hy:y.Is C.σ ρ uy):(opMapUp cc H t m x y).Ok cc C hc w0 ρ H w (do Instr.mapUpdate t um ux uy;pure .skip):=by
 unfold opMapUp
 split
 ·rename_i kk vk id k e k2 a hmk
  obtain ⟨kt,et,hu,hk,hz⟩:=mapK_ok hmk
  split
  ·rename_i kk' vk' c lo hi hg hrg
   cases hck:(keq k kk && (keq kk kk' && (keq vk vk' && (keq k2 vk && (ile (kmin vk) lo && ile hi (kmax vk)))))) with
   | false=>trivial
   | true=>
   simp only [Bool.and_eq_true] at hck
   obtain ⟨h1,h2,h3,h4,h5,h6⟩:=hck
   have:=keq_eq h1;subst this
   have:=keq_eq h2;subst this
   have:=keq_eq h3;subst this
   have:=keq_eq h4;subst this
   have h5:=ile_iff.1 h5
   have h6:=ile_iff.1 h6
   simp only [SV.Is] at hm hx hy
   obtain ⟨b,e1,rfl⟩:=hm
   obtain ⟨xv,e2,rfl⟩:=hx
   obtain ⟨yv,e2',rfl⟩:=hy
   obtain ⟨b2,o,e3,e4,cv,l,clock,e5,hmp,rfl⟩:=h.blk id _ hg rfl
   have:b2=b:=by simp only [SR.den] at e1;rw [e3] at e1;exact Option.some.inj e1
   subst this
   have hin:=rg_ok (bdOf_ok hcc h) a yv e2'
   rw [hrg] at hin
   have hw:k2.wrap yv=yv:=wrap_in k2 yv (by have:=hin.1 lo rfl;omega) (by have:=hin.2 hi rfl;omega)
   have hkey:MapKept.IsKey (.int k) (.int k xv):=rfl
   have hks:∀ y∈l,MapKept.IsKey (.int k) y.key:=fun y hy=>by obtain ⟨q,hq,_⟩:=hmp.1 y hy;rw [hq];rfl
   have hset:∀ (l':List MapEntry) (ck:Nat),MpIs C.σ k k2 (C.σ.fi 8 cv xv 0 yv 1 0) l'→(Instr.mapUpdate t (.map (some b2)) (.int k xv) (.int k2 yv)).run cc.P w=.ok () { w with heap:=w.heap.setIfInBounds b2 (.map l'.toArray ck) }→
     (OpR.val (.tp []) (H.put id (.mapc k k2 (.ap 8 c e (.c 0) a (.c 1) (.c 0))))).Ok cc C hc w0 ρ H w (do Instr.mapUpdate t (.map (some b2)) (.int k xv) (.int k2 yv);pure .skip):=by
    intro l' ck hl' hrun
    obtain ⟨s1,s2⟩:=MapKept.heap_set (o':=.map l'.toArray ck) e4
    refine ⟨ρ,.skip,undef,{ w with heap:=w.heap.setIfInBounds b2 (.map l'.toArray ck) },Tn.of_put e3 (fun i hi=>s2 i hi) (by simp),by simp [hrun],.inr ⟨rfl,rfl⟩,?_,?_⟩
    ·simp only [SV.Is];exact ⟨[],SV.isL_nil.2 rfl,rfl⟩
    ·refine h.put hg rfl e3 (o:=.map l'.toArray ck) (w':={ w with heap:=w.heap.setIfInBounds b2 (.map l'.toArray ck) }) rfl ?_ (fun i hi=>s2 i hi) s1 (by simp) rfl rfl rfl
     exact ⟨_,l',ck,by simp [SI.den,e5,e2,e2'],hl',rfl⟩
   rcases MapKept.findNow_spec hkey l 0 hks with ⟨f1,f2⟩ | ⟨j,e',f1,f2,f3⟩
   ·refine hset (l++[{ key:=.int k xv,val:=.int k2 yv,born:=clock }]) (clock+1) (mpIs_push hcc.al hmp f2 hw clock) ?_
    simp [Instr.mapUpdate,underlying,hu,MapKept.run_getObj_map e4,MapKept.run_checkKey hk hkey,MapKept.run_findKey hk f1,MapKept.run_setObj_map _ e4,Result.andThen]
   ·refine hset (l.modify j fun e=>{ e with key:=.int k xv,val:=.int k2 yv }) clock (mpIs_modify hcc.al hmp f2 f3 hw) ?_
    simp [Instr.mapUpdate,underlying,hu,MapKept.run_getObj_map e4,MapKept.run_checkKey hk hkey,MapKept.run_findKey hk f1,MapKept.run_setObj_map _ e4,Result.andThen,f2,f3,MapKept.run_keyThatStays hkey]
  ·trivial
 ·trivial
end
end Go.Sx
