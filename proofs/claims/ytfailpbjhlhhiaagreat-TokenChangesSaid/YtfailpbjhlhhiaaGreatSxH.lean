/- A symbolic executor: maps of ints. -/
import Derived.Test.YtfailpbjhlhhiaaGreatSxGf
import Derived.Maps.RangeRun
import Derived.Laws.BytesString
import Derived.Lib.ConvBytes
namespace Go.Sx
set_option linter.unusedSectionVars false
noncomputable section
set_option linter.unusedVariables false
set_option linter.unusedSimpArgs false
open Go.RowKit
section
variable {cc:Cc} {C:Ct} {hc:Nat→Option Obj} {w0:World} {ρ ρ':Dyn} {H:Hp} {w:World}
def zeroCs (cc:Cc) (t:TypeId):Option (List SV):=
 match cc.P.info? t with
 | some i=>match i.zero with
   | some z=>(ofVal z).cells
   | none=>none
 | none=>none
theorem zeroCs_ok {t:TypeId} {l:List SV} (h:zeroCs cc t=some l) (w:World):∃ z,(zeroValue t).run cc.P w=.ok z w∧SV.IsL C.σ ρ l z.cells.toList:=by
 unfold zeroCs at h
 split at h
 ·rename_i i hi
  split at h
  ·rename_i z hz
   exact ⟨z,by simp [zeroValue,typeInfo,hi,hz],SV.cells_is (ofVal_is z) h⟩
  ·cases h
 ·cases h
theorem Tn.learn {H':Hp} {w':World} (h:Tn ρ H w ρ' H' w') (p:SB) (b:Bool):Tn ρ H w ρ' (H'.learn p b) w':=
 ⟨h.ag,⟨h.ext.heap,h.ext.nb,h.ext.nd,h.ext.nv,by obtain ⟨l,e⟩:=h.ext.facts;exact ⟨(p,b)::l,by simp [Hp.learn,e]⟩,h.ext.phis⟩,h.size,h.new,h.same⟩
def mapK (cc:Cc) (t:TypeId):Option (IntKind×IntKind):=
 match cc.P.underlying t with
 | some (.map kt et)=>match cc.P.underlying kt,cc.P.info? et with
   | some (.int kk),some i=>match i.zero with
     | some (.int vk z)=>bif ieq z 0 then some (kk,vk) else none
     | _=>none
   | _,_=>none
 | _=>none
theorem mapK_ok {t:TypeId} {kk vk:IntKind} (h:mapK cc t=some (kk,vk)):∃ kt et,cc.P.underlying t=some (.map kt et)∧cc.P.underlying kt=some (.int kk)∧∀ w,(zeroValue et).run cc.P w=.ok (.int vk 0) w:=by
 unfold mapK at h
 split at h
 ·rename_i kt et hu
  split at h
  ·rename_i kk' i hk hi
   split at h
   ·rename_i vk' z hz
    cases hb:ieq z 0 with
    | false=>rw [hb] at h;cases h
    | true=>
      rw [hb] at h;cases h
      have:=ieq_iff.1 hb;subst this
      exact ⟨kt,et,hu,hk,fun w=>by simp [zeroValue,typeInfo,hi,hz]⟩
   ·cases h
  ·cases h
 ·cases h
theorem mpIs_nil {σ:Sta} (al:ArrLaw σ) {kk vk:IntKind}:MpIs σ kk vk 0 [] 0:=
 ⟨by simp,MapKept.stamped_empty 0,fun k=>by rw [al.hz];simp,fun k _=>al.mz vk k,by rw [al.lz];rfl,by rw [al.tz];rfl,fun k hk=>by rw [al.hz] at hk;cases hk⟩
def opMakeMap (cc:Cc) (H:Hp) (t:TypeId) (r:Option SV):OpR:=
 match mapK cc t,r with
 | some (kk,vk),none=>.val (.mp (.n H.nb)) (H.alloc (.mapc kk vk (.c 0)))
 | some (kk,vk),some (.it _ _)=>.val (.mp (.n H.nb)) (H.alloc (.mapc kk vk (.c 0)))
 | _,_=>.bad 97
theorem opMakeMap_ok (hcc:cc.Ok C) (h:HpRel C hc w0 ρ H w) {t:TypeId} {r:Option SV} {u:Option Value} (hr:OIs C.σ ρ r u):(opMakeMap cc H t r).Ok cc C hc w0 ρ H w (do pure (.value (← Instr.makeMap t u))):=by
 have done:∀ (kk vk:IntKind) (s:Sem Value),s.run cc.P w=.ok (.map (some w.heap.size)) (w.alloc (.map #[] 0))→(OpR.val (.mp (.n H.nb)) (H.alloc (.mapc kk vk (.c 0)))).Ok cc C hc w0 ρ H w (do pure (.value (← s))):=fun kk vk s hs=>
  ⟨ρ.setBl H.nb w.heap.size,.value (.map (some w.heap.size)),.map (some w.heap.size),w.alloc (.map #[] 0),Tn.of_alloc ρ H w _ _,by simp [hs],.inl rfl,by simp only [SV.Is,SR.den];exact ⟨_,Dyn.setBl_same _ _ _,rfl⟩,
   h.alloc' ⟨0,[],0,rfl,mpIs_nil hcc.al,rfl⟩⟩
 unfold opMakeMap
 split
 ·cases u with
  | none=>exact done _ _ _ rfl
  | some v=>exact hr.elim
 ·rename_i kk vk k e hm
  obtain ⟨kt,et,hu,_,_⟩:=mapK_ok hm
  cases u with
  | none=>exact hr.elim
  | some v=>
    simp only [OIs,SV.Is] at hr
    obtain ⟨n,e1,rfl⟩:=hr
    exact done _ _ _ (by simp [Instr.makeMap,underlying,hu,asInt,asIntOf])
 ·trivial
def gmD (vk:IntKind) (c x:SI):SI:=.ap vk.ctorIdx c x (.c 0) (.c 1) (.c 0) (.c 0)
def hmD (c x:SI):SB:=.ap 1 c x (.c 0) (.c 0) (.c 0) (.c 0)
def lmD (c:SI):SI:=.ap 8 c (.c 0) (.c 0) (.c 0) (.c 2) (.c 0)
def smD (c x y:SI):SI:=.ap 8 c x (.c 0) y (.c 1) (.c 0)
inductive Mk where
 | set (c x y:SI)
 | del (c x:SI)
 | nil
 | no
def mkS (f:Nat) (a0 a1 a2 a3 a4 a5:SI):Mk:=
 bif Nat.beq f 8 && (a2.beq (.c 0) && a5.beq (.c 0)) then (bif a4.beq (.c 1) then .set a0 a1 a3 else (bif a4.beq (.c 3) && a3.beq (.c 0) then .del a0 a1 else .no)) else .no
theorem mkS_ok {f:Nat} {a0 a1 a2 a3 a4 a5:SI} {cv:Int} (hc:(SI.ap f a0 a1 a2 a3 a4 a5).den C.σ ρ=some cv) :
  (∀ c x y,mkS f a0 a1 a2 a3 a4 a5=.set c x y→c=a0∧x=a1∧y=a3∧∃ c0 k0 y0,a0.den C.σ ρ=some c0∧a1.den C.σ ρ=some k0∧a3.den C.σ ρ=some y0∧cv=sm C.σ c0 k0 y0)∧
  (∀ c x,mkS f a0 a1 a2 a3 a4 a5=.del c x→c=a0∧x=a1∧∃ c0 k0,a0.den C.σ ρ=some c0∧a1.den C.σ ρ=some k0∧cv=dm C.σ c0 k0)∧mkS f a0 a1 a2 a3 a4 a5≠.nil:=by
 unfold mkS
 cases h1:Nat.beq f 8 && (a2.beq (.c 0) && a5.beq (.c 0)) with
 | false=>exact ⟨(fun c x y h=>by cases h),(fun c x h=>by cases h),by simp⟩
 | true=>
   simp only [Bool.and_eq_true] at h1
   obtain ⟨e1,e2,e3⟩:=h1
   have:=Nat.eq_of_beq_eq_true e1;subst this
   have:=SI.beq_eq e2;subst this
   have:=SI.beq_eq e3;subst this
   simp only [SI.den,Option.bind_eq_some_iff,Option.some.injEq] at hc
   obtain ⟨c0,q0,k0,q1,z0,rfl,y0,q3,o0,q4,z1,rfl,rfl⟩:=hc
   simp only [cond_true]
   cases h2:a4.beq (.c 1) with
   | true=>
     have:=SI.beq_eq h2;subst this
     cases q4
     refine ⟨(fun c x y h=>?_),(fun c x h=>by cases h),by simp⟩
     cases h
     exact ⟨rfl,rfl,rfl,c0,k0,y0,q0,q1,q3,rfl⟩
   | false=>
     simp only [cond_false]
     cases h3:a4.beq (.c 3) && a3.beq (.c 0) with
     | false=>exact ⟨(fun c x y h=>by cases h),(fun c x h=>by cases h),by simp⟩
     | true=>
       simp only [Bool.and_eq_true] at h3
       have:=SI.beq_eq h3.1;subst this
       have:=SI.beq_eq h3.2;subst this
       cases q3;cases q4
       refine ⟨(fun c x y h=>by cases h),(fun c x h=>?_),by simp⟩
       cases h
       exact ⟨rfl,rfl,c0,k0,q0,q1,rfl⟩
def gmS (cc:Cc) (H:Hp) (vk:IntKind) (x:SI) (c:SI):SI:=
 SI.rec (motive:=fun _=>SI) (fun n=>bif ieq n 0 then .c 0 else gmD vk (.c n) x) (fun i=>gmD vk (.v i) x) (fun i=>gmD vk (.d i) x) (fun f a b _ _=>gmD vk (.op f a b) x) (fun k a _=>gmD vk (.wk k a) x)
  (fun f a0 a1 a2 a3 a4 a5 ih0 _ _ _ _ _=>match mkS f a0 a1 a2 a3 a4 a5 with
   | .set _ _ _=>bif a1.beq x then SI.wr (bdOf cc H) vk a3 else (match dec (bdOf cc H) H.facts (.eq x a1) with
     | .yes true=>SI.wr (bdOf cc H) vk a3
     | .yes false=>ih0
     | _=>gmD vk (.ap f a0 a1 a2 a3 a4 a5) x)
   | .del _ _=>bif a1.beq x then .c 0 else (match dec (bdOf cc H) H.facts (.eq x a1) with
     | .yes true=>.c 0
     | .yes false=>ih0
     | _=>gmD vk (.ap f a0 a1 a2 a3 a4 a5) x)
   | _=>gmD vk (.ap f a0 a1 a2 a3 a4 a5) x) c
def hmS (cc:Cc) (H:Hp) (x:SI) (c:SI):SB:=
 SI.rec (motive:=fun _=>SB) (fun n=>bif ieq n 0 then .c false else hmD (.c n) x) (fun i=>hmD (.v i) x) (fun i=>hmD (.d i) x) (fun f a b _ _=>hmD (.op f a b) x) (fun k a _=>hmD (.wk k a) x)
  (fun f a0 a1 a2 a3 a4 a5 ih0 _ _ _ _ _=>match mkS f a0 a1 a2 a3 a4 a5 with
   | .set _ _ _=>bif a1.beq x then .c true else (match dec (bdOf cc H) H.facts (.eq x a1) with
     | .yes true=>.c true
     | .yes false=>ih0
     | _=>hmD (.ap f a0 a1 a2 a3 a4 a5) x)
   | .del _ _=>bif a1.beq x then .c false else (match dec (bdOf cc H) H.facts (.eq x a1) with
     | .yes true=>.c false
     | .yes false=>ih0
     | _=>hmD (.ap f a0 a1 a2 a3 a4 a5) x)
   | _=>hmD (.ap f a0 a1 a2 a3 a4 a5) x) c
def lmS (cc:Cc) (H:Hp) (c:SI):SI:=
 SI.rec (motive:=fun _=>SI) (fun n=>bif ieq n 0 then .c 0 else lmD (.c n)) (fun i=>lmD (.v i)) (fun i=>lmD (.d i)) (fun f a b _ _=>lmD (.op f a b)) (fun k a _=>lmD (.wk k a))
  (fun f a0 a1 a2 a3 a4 a5 ih0 _ _ _ _ _=>match mkS f a0 a1 a2 a3 a4 a5 with
   | .set _ _ _=>(match nrm cc H (hmS cc H a1 a0) with | .c true=>ih0 | .c false=>SI.addc ih0 1 | _=>lmD (.ap f a0 a1 a2 a3 a4 a5))
   | .del _ _=>(match nrm cc H (hmS cc H a1 a0) with | .c true=>SI.addc ih0 (-1) | .c false=>ih0 | _=>lmD (.ap f a0 a1 a2 a3 a4 a5))
   | _=>lmD (.ap f a0 a1 a2 a3 a4 a5)) c
theorem gmD_den {vk:IntKind} {c x:SI} {cv xv:Int} (hc:c.den C.σ ρ=some cv) (hx:x.den C.σ ρ=some xv):(gmD vk c x).den C.σ ρ=some (gm C.σ vk cv xv):=by
 simp [gmD,SI.den,hc,hx,gm]
theorem hmD_den {c x:SI} {cv xv:Int} (hc:c.den C.σ ρ=some cv) (hx:x.den C.σ ρ=some xv):(hmD c x).den C.σ ρ=some (hm C.σ cv xv):=by
 simp [hmD,SB.den,SI.den,hc,hx,hm]
theorem lmD_den {c:SI} {cv:Int} (hc:c.den C.σ ρ=some cv):(lmD c).den C.σ ρ=some (lm C.σ cv):=by
 simp [lmD,SI.den,hc,lm]
theorem smD_den {c x y:SI} {cv xv yv:Int} (hc:c.den C.σ ρ=some cv) (hx:x.den C.σ ρ=some xv) (hy:y.den C.σ ρ=some yv):(smD c x y).den C.σ ρ=some (sm C.σ cv xv yv):=by
 simp [smD,SI.den,hc,hx,hy,sm]
section
variable (hcc:cc.Ok C) (h:HpRel C hc w0 ρ H w)
include hcc h
theorem gmS_den {vk:IntKind} {x:SI} {xv:Int} (hx:x.den C.σ ρ=some xv):∀ {c:SI} {cv:Int},c.den C.σ ρ=some cv→(gmS cc H vk x c).den C.σ ρ=some (gm C.σ vk cv xv):=by
 intro c
 induction c with
 | c n=>
   intro cv hc
   show (bif ieq n 0 then SI.c 0 else gmD vk (.c n) x).den C.σ ρ=_
   cases hb:ieq n 0 with
   | true=>
     have:=ieq_iff.1 hb;subst this
     cases hc
     rw [hcc.al.mz];rfl
   | false=>exact gmD_den hc hx
 | v i=>intro cv hc;exact gmD_den hc hx
 | d i=>intro cv hc;exact gmD_den hc hx
 | op f a b _ _=>intro cv hc;exact gmD_den hc hx
 | wk k a _=>intro cv hc;exact gmD_den hc hx
 | ap f a0 a1 a2 a3 a4 a5 ih0 _ _ _ _ _=>
   intro cv hc
   show (match mkS f a0 a1 a2 a3 a4 a5 with
    | .set _ _ _=>bif a1.beq x then SI.wr (bdOf cc H) vk a3 else (match dec (bdOf cc H) H.facts (.eq x a1) with
      | .yes true=>SI.wr (bdOf cc H) vk a3
      | .yes false=>gmS cc H vk x a0
      | _=>gmD vk (.ap f a0 a1 a2 a3 a4 a5) x)
    | .del _ _=>bif a1.beq x then .c 0 else (match dec (bdOf cc H) H.facts (.eq x a1) with
      | .yes true=>.c 0
      | .yes false=>gmS cc H vk x a0
      | _=>gmD vk (.ap f a0 a1 a2 a3 a4 a5) x)
    | _=>gmD vk (.ap f a0 a1 a2 a3 a4 a5) x).den C.σ ρ=_
   obtain ⟨m1,m2,m3⟩:=mkS_ok hc
   have hD:=gmD_den (vk:=vk) hc hx
   split
   ·rename_i c' x' y' e
    obtain ⟨rfl,rfl,rfl,c0,k0,y0,e0,e1,e3,rfl⟩:=m1 _ _ _ e
    have hset:=hcc.al.ms vk c0 k0 y0 xv
    have hwr:(SI.wr (bdOf cc H) vk y').den C.σ ρ=some (vk.wrap y0):=SI.wr_den (bdOf_ok hcc h) e3
    have heq:(SB.eq x x').den C.σ ρ=some (decide (xv=k0)):=by simp [SB.den,hx,e1]
    cases hb:x'.beq x with
    | true=>
      have:=SI.beq_eq hb;subst this
      rw [e1] at hx;cases hx
      rw [hset,if_pos rfl];exact hwr
    | false=>
      simp only [cond_false]
      split
      ·rename_i hd
       have hk:xv=k0:=by simpa using (dec_ok (bdOf_ok hcc h) h.facts heq hd).symm
       rw [hset,if_pos hk];exact hwr
      ·rename_i hd
       have hk:¬ xv=k0:=by simpa using (dec_ok (bdOf_ok hcc h) h.facts heq hd).symm
       rw [hset,if_neg hk];exact ih0 e0
      ·exact hD
   ·rename_i c' x' e
    obtain ⟨rfl,rfl,c0,k0,e0,e1,rfl⟩:=m2 _ _ e
    have hset:=hcc.al.md vk c0 k0 xv
    have heq:(SB.eq x x').den C.σ ρ=some (decide (xv=k0)):=by simp [SB.den,hx,e1]
    cases hb:x'.beq x with
    | true=>
      have:=SI.beq_eq hb;subst this
      rw [e1] at hx;cases hx
      rw [hset,if_pos rfl];rfl
    | false=>
      simp only [cond_false]
      split
      ·rename_i hd
       have hk:xv=k0:=by simpa using (dec_ok (bdOf_ok hcc h) h.facts heq hd).symm
       rw [hset,if_pos hk];rfl
      ·rename_i hd
       have hk:¬ xv=k0:=by simpa using (dec_ok (bdOf_ok hcc h) h.facts heq hd).symm
       rw [hset,if_neg hk];exact ih0 e0
      ·exact hD
   ·exact hD
theorem hmS_den {x:SI} {xv:Int} (hx:x.den C.σ ρ=some xv):∀ {c:SI} {cv:Int},c.den C.σ ρ=some cv→(hmS cc H x c).den C.σ ρ=some (hm C.σ cv xv):=by
 intro c
 induction c with
 | c n=>
   intro cv hc
   show (bif ieq n 0 then SB.c false else hmD (.c n) x).den C.σ ρ=_
   cases hb:ieq n 0 with
   | true=>
     have:=ieq_iff.1 hb;subst this
     cases hc
     rw [hcc.al.hz];rfl
   | false=>exact hmD_den hc hx
 | v i=>intro cv hc;exact hmD_den hc hx
 | d i=>intro cv hc;exact hmD_den hc hx
 | op f a b _ _=>intro cv hc;exact hmD_den hc hx
 | wk k a _=>intro cv hc;exact hmD_den hc hx
 | ap f a0 a1 a2 a3 a4 a5 ih0 _ _ _ _ _=>
   intro cv hc
   show (match mkS f a0 a1 a2 a3 a4 a5 with
    | .set _ _ _=>bif a1.beq x then SB.c true else (match dec (bdOf cc H) H.facts (.eq x a1) with
      | .yes true=>.c true
      | .yes false=>hmS cc H x a0
      | _=>hmD (.ap f a0 a1 a2 a3 a4 a5) x)
    | .del _ _=>bif a1.beq x then .c false else (match dec (bdOf cc H) H.facts (.eq x a1) with
      | .yes true=>.c false
      | .yes false=>hmS cc H x a0
      | _=>hmD (.ap f a0 a1 a2 a3 a4 a5) x)
    | _=>hmD (.ap f a0 a1 a2 a3 a4 a5) x).den C.σ ρ=_
   obtain ⟨m1,m2,m3⟩:=mkS_ok hc
   have hD:=hmD_den hc hx
   split
   ·rename_i c' x' y' e
    obtain ⟨rfl,rfl,rfl,c0,k0,y0,e0,e1,e3,rfl⟩:=m1 _ _ _ e
    have hset:=hcc.al.hs c0 k0 y0 xv
    have heq:(SB.eq x x').den C.σ ρ=some (decide (xv=k0)):=by simp [SB.den,hx,e1]
    cases hb:x'.beq x with
    | true=>
      have:=SI.beq_eq hb;subst this
      rw [e1] at hx;cases hx
      rw [hset,if_pos rfl];rfl
    | false=>
      simp only [cond_false]
      split
      ·rename_i hd
       have hk:xv=k0:=by simpa using (dec_ok (bdOf_ok hcc h) h.facts heq hd).symm
       rw [hset,if_pos hk];rfl
      ·rename_i hd
       have hk:¬ xv=k0:=by simpa using (dec_ok (bdOf_ok hcc h) h.facts heq hd).symm
       rw [hset,if_neg hk];exact ih0 e0
      ·exact hD
   ·rename_i c' x' e
    obtain ⟨rfl,rfl,c0,k0,e0,e1,rfl⟩:=m2 _ _ e
    have hset:=hcc.al.hd c0 k0 xv
    have heq:(SB.eq x x').den C.σ ρ=some (decide (xv=k0)):=by simp [SB.den,hx,e1]
    cases hb:x'.beq x with
    | true=>
      have:=SI.beq_eq hb;subst this
      rw [e1] at hx;cases hx
      rw [hset,if_pos rfl];rfl
    | false=>
      simp only [cond_false]
      split
      ·rename_i hd
       have hk:xv=k0:=by simpa using (dec_ok (bdOf_ok hcc h) h.facts heq hd).symm
       rw [hset,if_pos hk];rfl
      ·rename_i hd
       have hk:¬ xv=k0:=by simpa using (dec_ok (bdOf_ok hcc h) h.facts heq hd).symm
       rw [hset,if_neg hk];exact ih0 e0
      ·exact hD
   ·exact hD
theorem lmS_den:∀ {c:SI} {cv:Int},c.den C.σ ρ=some cv→(lmS cc H c).den C.σ ρ=some (lm C.σ cv):=by
 intro c
 induction c with
 | c n=>
   intro cv hc
   show (bif ieq n 0 then SI.c 0 else lmD (.c n)).den C.σ ρ=_
   cases hb:ieq n 0 with
   | true=>
     have:=ieq_iff.1 hb;subst this
     cases hc
     rw [hcc.al.lz];rfl
   | false=>exact lmD_den hc
 | v i=>intro cv hc;exact lmD_den hc
 | d i=>intro cv hc;exact lmD_den hc
 | op f a b _ _=>intro cv hc;exact lmD_den hc
 | wk k a _=>intro cv hc;exact lmD_den hc
 | ap f a0 a1 a2 a3 a4 a5 ih0 _ _ _ _ _=>
   intro cv hc
   show (match mkS f a0 a1 a2 a3 a4 a5 with
    | .set _ _ _=>(match nrm cc H (hmS cc H a1 a0) with | .c true=>lmS cc H a0 | .c false=>SI.addc (lmS cc H a0) 1 | _=>lmD (.ap f a0 a1 a2 a3 a4 a5))
    | .del _ _=>(match nrm cc H (hmS cc H a1 a0) with | .c true=>SI.addc (lmS cc H a0) (-1) | .c false=>lmS cc H a0 | _=>lmD (.ap f a0 a1 a2 a3 a4 a5))
    | _=>lmD (.ap f a0 a1 a2 a3 a4 a5)).den C.σ ρ=_
   obtain ⟨m1,m2,m3⟩:=mkS_ok hc
   have hD:=lmD_den hc
   split
   ·rename_i c' x' y' e
    obtain ⟨rfl,rfl,rfl,c0,k0,y0,e0,e1,e3,rfl⟩:=m1 _ _ _ e
    have hn:=nrm_den hcc h (hmS_den hcc h e1 e0)
    split
    ·rename_i he
     rw [he] at hn
     simp only [SB.den,Option.some.injEq] at hn
     rw [hcc.al.ls,if_pos hn.symm];exact ih0 e0
    ·rename_i he
     rw [he] at hn
     simp only [SB.den,Option.some.injEq] at hn
     rw [hcc.al.ls,if_neg (by rw [← hn];simp)];exact SI.addc_den (ih0 e0)
    ·exact hD
   ·rename_i c' x' e
    obtain ⟨rfl,rfl,c0,k0,e0,e1,rfl⟩:=m2 _ _ e
    have hn:=nrm_den hcc h (hmS_den hcc h e1 e0)
    split
    ·rename_i he
     rw [he] at hn
     simp only [SB.den,Option.some.injEq] at hn
     rw [hcc.al.ld,if_pos hn.symm];exact SI.addc_den (ih0 e0)
    ·rename_i he
     rw [he] at hn
     simp only [SB.den,Option.some.injEq] at hn
     rw [hcc.al.ld,if_neg (by rw [← hn];simp)];exact ih0 e0
    ·exact hD
   ·exact hD
end
def opLookup (cc:Cc) (H:Hp) (t:TypeId) (m x:SV) (ok:Bool):OpR:=
 match mapK cc t,m,x with
 | some (kk,vk),.mp (.n id),.it k e=>match get H.heap id with
   | some (.mapc kk' vk' c)=>bif keq k kk then (bif keq kk kk' then (bif keq vk vk' then .val (bif ok then .tp [.it vk (gmS cc H vk e c),.bo (nrm cc H (hmS cc H e c))] else .it vk (gmS cc H vk e c)) H else .bad 400) else .bad 401) else .bad 402
   | _=>.bad 403
 | some (kk,vk),.mn,.it k e=>bif keq k kk then .val (bif ok then .tp [.it vk (.c 0),.bo (.c false)] else .it vk (.c 0)) H else .bad 408
 | _,_,_=>.bad 404
theorem opLookup_ok (hcc:cc.Ok C) (h:HpRel C hc w0 ρ H w) {t:TypeId} {m x:SV} {um ux:Value} (ok:Bool) (hm:m.Is C.σ ρ um) (hx:x.Is C.σ ρ ux):(opLookup cc H t m x ok).Ok cc C hc w0 ρ H w (do pure (.value (← Instr.lookup t um ux ok))):=by
 unfold opLookup
 split
 ·rename_i kk vk id k e hmk
  obtain ⟨kt,et,hu,hk,hz⟩:=mapK_ok hmk
  split
  ·rename_i kk' vk' c hg
   cases h1:keq k kk with
   | false=>trivial
   | true=>
   cases h2:keq kk kk' with
   | false=>trivial
   | true=>
   cases h3:keq vk vk' with
   | false=>trivial
   | true=>
   have:=keq_eq h1;subst this
   have:=keq_eq h2;subst this
   have:=keq_eq h3;subst this
   simp only [SV.Is] at hm hx
   obtain ⟨b,e1,rfl⟩:=hm
   obtain ⟨xv,e2,rfl⟩:=hx
   obtain ⟨b2,o,e3,e4,cv,l,clock,e5,hmp,rfl⟩:=h.blk id _ hg rfl
   have:b2=b:=by simp only [SR.den] at e1;rw [e3] at e1;exact Option.some.inj e1
   subst this
   have hval:(Instr.lookup t (.map (some b2)) (.int k xv) ok).run cc.P w=.ok (if ok then .tuple #[.int vk (gm C.σ vk cv xv),.bool (Sx.hm C.σ cv xv)] else .int vk (gm C.σ vk cv xv)) w:=by
    have hkey:MapKept.IsKey (.int k) (.int k xv):=rfl
    have hks:∀ y∈l,MapKept.IsKey (.int k) y.key:=fun y hy=>by obtain ⟨q,hq,_⟩:=hmp.ent y hy;rw [hq];rfl
    rcases MapKept.findNow_spec hkey l 0 hks with ⟨f1,f2⟩ | ⟨j,e',f1,f2,f3⟩
    ·have hf:Sx.hm C.σ cv xv=false:=by
      cases hh:Sx.hm C.σ cv xv with
      | false=>rfl
      | true=>obtain ⟨y,y1,y2⟩:=(hmp.has xv).1 hh;exact absurd y2 (f2 y y1)
     simp [Instr.lookup,underlying,hu,MapKept.run_getObj_map e4,MapKept.run_checkKey hk hkey,MapKept.run_findKey hk f1,hz,Result.andThen]
     rw [hmp.no xv hf,hf]
    ·obtain ⟨q,q1,q2,q3⟩:=hmp.ent e' (List.mem_of_getElem? f2)
     have hf:Sx.hm C.σ cv xv=true:=(hmp.has xv).2 ⟨e',List.mem_of_getElem? f2,f3⟩
     rw [f3] at q1
     simp only [Value.int.injEq,true_and] at q1
     simp [Instr.lookup,underlying,hu,MapKept.run_getObj_map e4,MapKept.run_checkKey hk hkey,MapKept.run_findKey hk f1,Result.andThen]
     rw [q2,q1,← q1,hf]
   cases ok with
   | false=>exact OpR.ok_pure h hval (by simp only [cond_false,SV.Is];exact ⟨_,gmS_den hcc h e2 e5,rfl⟩)
   | true=>exact OpR.ok_pure h hval (by simp only [cond_true,SV.Is];exact ⟨_,SV.isL_cons.2 ⟨_,_,rfl,by simp only [SV.Is];exact ⟨_,gmS_den hcc h e2 e5,rfl⟩,SV.isL_cons.2 ⟨_,_,rfl,by simp only [SV.Is];exact ⟨_,nrm_den hcc h (hmS_den hcc h e2 e5),rfl⟩,SV.isL_nil.2 rfl⟩⟩,rfl⟩)
  ·trivial
 ·rename_i kk vk k e hmk
  obtain ⟨kt,et,hu,hk,hz⟩:=mapK_ok hmk
  cases h1:keq k kk with
  | false=>trivial
  | true=>
  have:=keq_eq h1;subst this
  simp only [SV.Is] at hm hx
  subst hm
  obtain ⟨xv,e2,rfl⟩:=hx
  have hkey:MapKept.IsKey (.int k) (.int k xv):=rfl
  have hval:(Instr.lookup t (.map none) (.int k xv) ok).run cc.P w=.ok (if ok then .tuple #[.int vk 0,.bool false] else .int vk 0) w:=by
   rcases MapKept.findNow_spec hkey [] 0 (fun y hy=>by cases hy) with ⟨f1,f2⟩ | ⟨j,e',f1,f2,f3⟩
   ·simp [Instr.lookup,underlying,hu,MapKept.run_checkKey hk hkey,MapKept.run_findKey hk f1,hz,Result.andThen]
   ·simp at f2
  cases ok with
  | false=>exact OpR.ok_pure h hval (by simp only [cond_false,SV.Is];exact ⟨_,rfl,rfl⟩)
  | true=>exact OpR.ok_pure h hval (by simp only [cond_true,SV.Is];exact ⟨_,SV.isL_cons.2 ⟨_,_,rfl,by simp only [SV.Is];exact ⟨_,rfl,rfl⟩,SV.isL_cons.2 ⟨_,_,rfl,by simp only [SV.Is];exact ⟨_,rfl,rfl⟩,SV.isL_nil.2 rfl⟩⟩,rfl⟩)
 ·trivial
theorem int_key_inj {kk:IntKind} {a b:Int} (h:Value.int kk a=Value.int kk b):a=b:=by simpa using h
theorem mpIs_push {σ:Sta} (al:ArrLaw σ) {kk vk:IntKind} {c x y:Int} {l:List MapEntry} {clock:Nat} (h:MpIs σ kk vk c l clock) (hn:∀ e∈l,e.key≠.int kk x) (hy:vk.wrap y=y) (hkx0:kk.wrap x=x) :
  MpIs σ kk vk (sm σ c x y) (l++[{ key:=.int kk x,val:=.int vk y,born:=clock }]) (clock+1):=by
 have hx:hm σ c x=false:=by
  cases hh:hm σ c x with
  | false=>rfl
  | true=>obtain ⟨e,e1,e2⟩:=(h.has x).1 hh;exact absurd e2 (hn e e1)
 refine ⟨fun e he=>?_,?_,fun k=>?_,fun k hk=>?_,?_,?_,fun k hk=>?_⟩
 ·rcases List.mem_append.1 he with he | he
  ·obtain ⟨k,q1,q2,q3⟩:=h.ent e he
   have hkx:¬ k=x:=fun e'=>hn e he (by rw [q1,e'])
   exact ⟨k,q1,by rw [q2,al.ms,if_neg hkx],by rw [q3,al.bs,if_neg hkx]⟩
  ·simp only [List.mem_singleton] at he
   subst he
   exact ⟨x,rfl,by rw [al.ms,if_pos rfl,hy],by rw [al.bs,if_pos rfl,if_neg (by rw [hx];simp),h.clk]⟩
 ·have:=MapKept.stamped_push h.st (key:=.int kk x) (val:=.int vk y) (fun e he=>hn e (by simpa using he))
  simpa using this
 ·rw [al.hs]
  by_cases hkx:k=x
  ·subst hkx;simp
  ·rw [if_neg hkx,h.has k]
   constructor
   ·rintro ⟨e,e1,e2⟩;exact ⟨e,List.mem_append_left _ e1,e2⟩
   ·rintro ⟨e,e1,e2⟩
    rcases List.mem_append.1 e1 with e1 | e1
    ·exact ⟨e,e1,e2⟩
    ·simp only [List.mem_singleton] at e1
     subst e1
     exact absurd (int_key_inj e2).symm hkx
 ·rw [al.hs] at hk
  have hkx:¬ k=x:=fun e=>by rw [if_pos e] at hk;cases hk
  rw [if_neg hkx] at hk
  rw [al.ms,if_neg hkx];exact h.no k hk
 ·rw [al.ls,if_neg (by rw [hx];simp),h.len];simp
 ·rw [al.ts,if_neg (by rw [hx];simp),h.clk];simp
 ·rw [al.hs] at hk
  by_cases hkx:k=x
  ·rw [hkx];exact hkx0
  ·rw [if_neg hkx] at hk;exact h.rng k hk
theorem mpIs_modify {σ:Sta} (al:ArrLaw σ) {kk vk:IntKind} {c x y:Int} {l:List MapEntry} {clock:Nat} (h:MpIs σ kk vk c l clock) {j:Nat} {e0:MapEntry} (hj:l[j]? = some e0) (hk0:e0.key=.int kk x) (hy:vk.wrap y=y) :
  MpIs σ kk vk (sm σ c x y) (l.modify j fun e=>{ e with key:=.int kk x,val:=.int vk y }) clock:=by
 have hx:hm σ c x=true:=(h.has x).2 ⟨e0,List.mem_of_getElem? hj,hk0⟩
 have hmem:∀ e,e∈(l.modify j fun e=>{ e with key:=.int kk x,val:=.int vk y })→(e.key=.int kk x∧e.val=.int vk y∧e.born=e0.born)∨(e∈l∧∃ i,i≠j∧l[i]? = some e):=by
  intro e he
  obtain ⟨i,hi⟩:=List.mem_iff_getElem?.1 he
  rw [List.getElem?_modify] at hi
  by_cases hij:j=i
  ·subst hij
   rw [hj] at hi
   simp only [if_true,Option.map_eq_map,Option.map_some,Option.some.injEq] at hi
   subst hi
   exact .inl ⟨rfl,rfl,rfl⟩
  ·have hi':l[i]? = some e:=by
    cases hq:l[i]? with
    | none=>rw [hq] at hi;cases hi
    | some q=>rw [hq] at hi;simp [hij] at hi;rw [hi]
   exact .inr ⟨List.mem_of_getElem? hi',i,fun e=>hij e.symm,hi'⟩
 have hpw:=((MapKept.stamped_iff _ _).1 h.st).2.2
 have hne:∀ i e,i≠j→l[i]? = some e→e.key≠.int kk x:=by
  intro i e hi he hek
  have hpw':l.Pairwise (fun x y=>x.key≠y.key):=by simpa using hpw
  rw [List.pairwise_iff_getElem] at hpw'
  obtain ⟨i1,i2⟩:=List.getElem?_eq_some_iff.1 he
  obtain ⟨j1,j2⟩:=List.getElem?_eq_some_iff.1 hj
  rcases Nat.lt_or_gt_of_ne hi with hlt | hlt
  ·exact hpw' i j i1 j1 hlt (by rw [i2,j2,hek,hk0])
  ·exact hpw' j i j1 i1 hlt (by rw [i2,j2,hek,hk0])
 have hkeys:(l.modify j fun e=>{ e with key:=.int kk x,val:=.int vk y }).map (·.key)=l.map (·.key):=by
  apply List.ext_getElem?
  intro i
  simp only [List.getElem?_map,List.getElem?_modify]
  by_cases hi:j=i
  ·subst hi;rw [hj];simp [hk0]
  ·simp [hi]
 refine ⟨fun e he=>?_,?_,fun k=>?_,fun k hk=>?_,?_,?_,fun k hk=>?_⟩
 ·rcases hmem e he with ⟨e1,e2,e3⟩ | ⟨e1,i,i1,i2⟩
  ·refine ⟨x,e1,by rw [e2,al.ms,if_pos rfl,hy],?_⟩
   obtain ⟨k,q1,q2,q3⟩:=h.ent e0 (List.mem_of_getElem? hj)
   rw [hk0] at q1
   have:=int_key_inj q1;subst this
   rw [e3,q3,al.bs,if_pos rfl,if_pos hx]
  ·obtain ⟨k,q1,q2,q3⟩:=h.ent e e1
   have hkx:¬ k=x:=fun e'=>hne i e i1 i2 (by rw [q1,e'])
   exact ⟨k,q1,by rw [q2,al.ms,if_neg hkx],by rw [q3,al.bs,if_neg hkx]⟩
 ·have:=MapKept.stamped_modify h.st j (fun e=>{ e with key:=.int kk x,val:=.int vk y }) (fun e _=>rfl) (fun e he hej=>by
   have:l[j]? = some e:=by simpa using hej
   rw [hj] at this;cases this;exact hk0.symm)
  simpa using this
 ·rw [al.hs]
  have e1:(∃ e∈(l.modify j fun e=>{ e with key:=.int kk x,val:=.int vk y }),e.key=.int kk k)↔∃ e∈l,e.key=.int kk k:=by
   have a1:∀ L:List MapEntry,(∃ e∈L,e.key=.int kk k)↔Value.int kk k∈L.map (·.key):=fun L=>by simp [List.mem_map]
   rw [a1,a1,hkeys]
  rw [e1,← h.has k]
  by_cases hkx:k=x
  ·subst hkx;rw [if_pos rfl,hx]
  ·rw [if_neg hkx]
 ·rw [al.hs] at hk
  have hkx:¬ k=x:=fun e=>by rw [if_pos e] at hk;cases hk
  rw [if_neg hkx] at hk
  rw [al.ms,if_neg hkx];exact h.no k hk
 ·rw [al.ls,if_pos hx,h.len];simp
 ·rw [al.ts,if_pos hx,h.clk]
 ·rw [al.hs] at hk
  by_cases hkx:k=x
  ·rw [hkx];exact h.rng x hx
  ·rw [if_neg hkx] at hk;exact h.rng k hk
theorem map_put (h:HpRel C hc w0 ρ H w) {id b:Nat} {kk vk:IntKind} {c:SI} (hg:get H.heap id=some (.mapc kk vk c)) (e3:ρ.bl id=some b) {es:Array MapEntry} {ck0:Nat} (e4:w.heap[b]? = some (.map es ck0))
  {c':SI} {cv':Int} (hc':c'.den C.σ ρ=some cv') {l':List MapEntry} {ck:Nat} (hl':MpIs C.σ kk vk cv' l' ck) :
  Tn ρ H w ρ (H.put id (.mapc kk vk c')) { w with heap:=w.heap.setIfInBounds b (.map l'.toArray ck) }∧HpRel C hc w0 ρ (H.put id (.mapc kk vk c')) { w with heap:=w.heap.setIfInBounds b (.map l'.toArray ck) }:=by
 obtain ⟨s1,s2⟩:=MapKept.heap_set (o':=.map l'.toArray ck) e4
 refine ⟨Tn.of_put e3 (fun i hi=>s2 i hi) (by simp),?_⟩
 refine h.put hg rfl e3 (o:=.map l'.toArray ck) (w':={ w with heap:=w.heap.setIfInBounds b (.map l'.toArray ck) }) rfl ?_ (fun i hi=>s2 i hi) s1 (by simp) rfl rfl rfl
 exact ⟨cv',l',ck,hc',hl',rfl⟩
def opMapUp (cc:Cc) (H:Hp) (t:TypeId) (m x y:SV):OpR:=
 match mapK cc t,m,x,y with
 | some (kk,vk),.mp (.n id),.it k e,.it k2 a=>match get H.heap id,rg (bdOf cc H) a,rg (bdOf cc H) e with
   | some (.mapc kk' vk' c),(some lo,some hi),(some lo2,some hi2)=>bif keq k kk && (keq kk kk' && (keq vk vk' && (keq k2 vk && ((ile (kmin vk) lo && ile hi (kmax vk)) && (ile (kmin kk) lo2 && ile hi2 (kmax kk)))))) then .val (.tp []) (H.put id (.mapc kk vk (smD c e a))) else .bad 405
   | _,_,_=>.bad 406
 | _,_,_,_=>.bad 407
theorem opMapUp_ok (hcc:cc.Ok C) (h:HpRel C hc w0 ρ H w) {t:TypeId} {m x y:SV} {um ux uy:Value} (hm:m.Is C.σ ρ um) (hx:x.Is C.σ ρ ux) (hy:y.Is C.σ ρ uy):(opMapUp cc H t m x y).Ok cc C hc w0 ρ H w (do Instr.mapUpdate t um ux uy;pure .skip):=by
 unfold opMapUp
 split
 ·rename_i kk vk id k e k2 a hmk
  obtain ⟨kt,et,hu,hk,hz⟩:=mapK_ok hmk
  split
  ·rename_i kk' vk' c lo hi lo2 hi2 hg hrg hrg2
   cases hck:(keq k kk && (keq kk kk' && (keq vk vk' && (keq k2 vk && ((ile (kmin vk) lo && ile hi (kmax vk)) && (ile (kmin kk) lo2 && ile hi2 (kmax kk))))))) with
   | false=>trivial
   | true=>
   simp only [Bool.and_eq_true] at hck
   obtain ⟨h1,h2,h3,h4,⟨h5,h6⟩,h7,h8⟩:=hck
   have:=keq_eq h1;subst this
   have:=keq_eq h2;subst this
   have:=keq_eq h3;subst this
   have:=keq_eq h4;subst this
   have h5:=ile_iff.1 h5
   have h6:=ile_iff.1 h6
   have h7:=ile_iff.1 h7
   have h8:=ile_iff.1 h8
   simp only [SV.Is] at hm hx hy
   obtain ⟨b,e1,rfl⟩:=hm
   obtain ⟨xv,e2,rfl⟩:=hx
   obtain ⟨yv,e2',rfl⟩:=hy
   obtain ⟨b2,o,e3,e4,cv,l,clock,e5,hmp,rfl⟩:=h.blk id _ hg rfl
   have:b2=b:=by simp only [SR.den] at e1;rw [e3] at e1;exact Option.some.inj e1
   subst this
   have hin:=rg_ok (bdOf_ok hcc h) a yv e2'
   rw [hrg] at hin
   have hin2:=rg_ok (bdOf_ok hcc h) e xv e2
   rw [hrg2] at hin2
   have hw2:k.wrap xv=xv:=wrap_in k xv (by have:=hin2.1 lo2 rfl;omega) (by have:=hin2.2 hi2 rfl;omega)
   have hw:k2.wrap yv=yv:=wrap_in k2 yv (by have:=hin.1 lo rfl;omega) (by have:=hin.2 hi rfl;omega)
   have hkey:MapKept.IsKey (.int k) (.int k xv):=rfl
   have hks:∀ y∈l,MapKept.IsKey (.int k) y.key:=fun y hy=>by obtain ⟨q,hq,_⟩:=hmp.ent y hy;rw [hq];rfl
   have hset:∀ (l':List MapEntry) (ck:Nat),MpIs C.σ k k2 (sm C.σ cv xv yv) l' ck→(Instr.mapUpdate t (.map (some b2)) (.int k xv) (.int k2 yv)).run cc.P w=.ok () { w with heap:=w.heap.setIfInBounds b2 (.map l'.toArray ck) }→
     (OpR.val (.tp []) (H.put id (.mapc k k2 (smD c e a)))).Ok cc C hc w0 ρ H w (do Instr.mapUpdate t (.map (some b2)) (.int k xv) (.int k2 yv);pure .skip):=by
    intro l' ck hl' hrun
    obtain ⟨p1,p2⟩:=map_put h hg e3 e4 (smD_den e5 e2 e2') hl'
    refine ⟨ρ,.skip,undef,_,p1,by simp [hrun],.inr ⟨rfl,rfl⟩,?_,p2⟩
    simp only [SV.Is];exact ⟨[],SV.isL_nil.2 rfl,rfl⟩
   rcases MapKept.findNow_spec hkey l 0 hks with ⟨f1,f2⟩ | ⟨j,e',f1,f2,f3⟩
   ·refine hset (l++[{ key:=.int k xv,val:=.int k2 yv,born:=clock }]) (clock+1) (mpIs_push hcc.al hmp f2 hw hw2) ?_
    simp [Instr.mapUpdate,underlying,hu,MapKept.run_getObj_map e4,MapKept.run_checkKey hk hkey,MapKept.run_findKey hk f1,MapKept.run_setObj_map _ e4,Result.andThen]
   ·refine hset (l.modify j fun e=>{ e with key:=.int k xv,val:=.int k2 yv }) clock (mpIs_modify hcc.al hmp f2 f3 hw) ?_
    simp [Instr.mapUpdate,underlying,hu,MapKept.run_getObj_map e4,MapKept.run_checkKey hk hkey,MapKept.run_findKey hk f1,MapKept.run_setObj_map _ e4,Result.andThen,f2,f3,MapKept.run_keyThatStays hkey]
  ·trivial
 ·trivial
def opDelM (cc:Cc) (H:Hp) (ts:Array TypeId) (xs:List SV):OpR:=.bad 999
theorem opDelM_ok (hcc:cc.Ok C) (h:HpRel C hc w0 ρ H w) {ts:Array TypeId} {ty:TypeId} {xs:List SV} {us:List Value} (hx:SV.IsL C.σ ρ xs us):(opDelM cc H ts xs).Ok cc C hc w0 ρ H w (do pure (.value (← Builtin.delete_ ts ty us.toArray))):=trivial
def opRange (cc:Cc) (H:Hp) (t:TypeId) (m:SV):OpR:=.bad 999
theorem opRange_ok (hcc:cc.Ok C) (h:HpRel C hc w0 ρ H w) {t:TypeId} {m:SV} {um:Value} (hm:m.Is C.σ ρ um):(opRange cc H t m).Ok cc C hc w0 ρ H w (do pure (.value (← Instr.range t um))):=trivial
def opNext (cc:Cc) (H:Hp) (it:SV) (isS:Bool):OpR:=.bad 999
theorem opNext_ok (hcc:cc.Ok C) (h:HpRel C hc w0 ρ H w) {it:SV} {u:Value} (isS:Bool) (ty:TypeId) (hi:it.Is C.σ ρ u):(opNext cc H it isS).Ok cc C hc w0 ρ H w (do pure (.value (← Instr.next u isS ty))):=trivial
def opEntry (cc:Cc) (H:Hp) (it:SV):OpR:=.bad 999
theorem opEntry_ok (hcc:cc.Ok C) (h:HpRel C hc w0 ρ H w) {it:SV} {u:Value} (hi:it.Is C.σ ρ u):(opEntry cc H it).Ok cc C hc w0 ρ H w (do pure (.value (← Instr.entry u))):=trivial
end
end
end Go.Sx
namespace Go.Sx
set_option linter.unusedVariables false
set_option linter.unusedSimpArgs false
open Go.RowKit
def Bk.celly:Bk→Bool
 | .arr _ _ _ _ _=>true
 | .cells _ _=>true
 | .row none _ _ _ _=>true
 | _=>false
theorem Bk.celly_is {σ:Sta} {ρ:Dyn} {bk:Bk} {o:Obj} (h:bk.celly=true) (hb:bk.Is σ ρ o):bk.live=true∧∃ A t,o=.cells A t (0,0):=by
 cases bk<;>simp only [Bk.celly] at h<;>try (cases h;done)
 ·obtain ⟨_,_,_,A,_,_,_,_,_,_,rfl⟩:=hb;exact ⟨rfl,A,_,rfl⟩
 ·obtain ⟨us,_,rfl⟩:=hb;exact ⟨rfl,_,_,rfl⟩
 ·obtain ⟨us,sp,n,_,_,_,rfl⟩:=hb;exact ⟨rfl,_,_,rfl⟩
noncomputable def frz1 (cc:Cc) (H:Hp) (i:Nat) (x:SV):Option (SV×Hp):=
 match x with
 | .sl (.n id) o n cap=>bif Nat.blt 0 (llen (flay i)) then (match viewA cc H (flay i) (.sl (.n id) o n cap),get H.heap id with
   | .ok c j m,some bk=>bif (bif bk.celly then (match dec (bdOf cc H) H.facts (.le n cap) with | .yes b=>b | .ask _=>false) else false) then some (.fs i (frzS m (baseC c j m)),H.put id .gone) else none
   | _,_=>none) else none
 | _=>none
section
variable {cc:Cc} {C:Ct} {hc:Nat→Option Obj} {w0:World} {ρ:Dyn} {H:Hp} {w:World}
structure FrzOk (C:Ct) (hc:Nat→Option Obj) (w0:World) (w:World) (ρ:Dyn) (H:Hp) (ρ':Dyn) (H':Hp):Prop where
 le:ρ.Le ρ'
 hp:HpRel C hc w0 ρ' H' w
 facts:H'.facts=H.facts
 phis:H'.phis=H.phis
 own:∀ b,Own ρ' H'.heap b→Own ρ H.heap b
 tn:Tn ρ H w ρ' H' w
 di:ρ'.di=ρ.di
theorem FrzOk.refl (h:HpRel C hc w0 ρ H w):FrzOk C hc w0 w ρ H ρ H:=⟨Dyn.Le.refl _,h,rfl,rfl,fun _ h=>h,Tn.refl _ _ _,rfl⟩
theorem FrzOk.trans {ρ' ρ'':Dyn} {H' H'':Hp} (h:FrzOk C hc w0 w ρ H ρ' H') (k:FrzOk C hc w0 w ρ' H' ρ'' H''):FrzOk C hc w0 w ρ H ρ'' H'':=
 ⟨h.le.trans k.le,k.hp,k.facts.trans h.facts,k.phis.trans h.phis,fun b hb=>h.own b (k.own b hb),h.tn.trans k.tn,k.di.trans h.di⟩
theorem frz1_phis {H':Hp} {i:Nat} {x z:SV} (h:frz1 cc H i x=some (z,H')):H'.phis=H.phis:=by
 unfold frz1 at h
 split at h
 ·rename_i id o n cap
  cases hl:Nat.blt 0 (llen (flay i)) with
  | false=>rw [hl] at h;cases h
  | true=>
    rw [hl] at h
    simp only [cond_true] at h
    split at h
    ·rename_i c j m bk _ _
     cases hcl:(bif bk.celly then (match dec (bdOf cc H) H.facts (.le n cap) with | .yes b=>b | .ask _=>false) else false) with
     | false=>rw [hcl] at h;cases h
     | true=>rw [hcl] at h;cases h;rfl
    ·cases h
 ·cases h
theorem HpRel.frzW (h:HpRel C hc w0 ρ H w) {id:Nat} {bk:Bk} (hg:get H.heap id=some bk) (hl:bk.live=true) {b:Nat} (hb:ρ.bl id=some b) {o:Obj} {w':World}
  (hw:∀ i,i≠b→w'.heap[i]? = w.heap[i]?) (hwb:w'.heap[b]? = some o) (hs:w'.heap.size=w.heap.size) (hos:w'.os=w.os) (ht:w'.tape=w.tape) (hout:w'.output=w.output) :
  ρ.Le (ρ.setFz b o)∧HpRel C hc w0 (ρ.setFz b o) (H.put id .gone) w'∧Tn ρ H w (ρ.setFz b o) (H.put id .gone) w'∧∀ b',Own ρ (H.put id .gone).heap b'→Own ρ H.heap b':=by
 have hown:Own ρ H.heap b:=⟨id,bk,hg,hl,hb⟩
 have h1:=h.drop (h.hb id bk hg)
 have hno:∀ b',Own ρ (H.put id .gone).heap b'→Own ρ H.heap b'∧b'≠b:=by
  rintro b' ⟨i',bk',w1,w2,w3⟩
  simp only [Hp.put,get_cons] at w1
  split at w1
  ·cases w1;cases w2
  ·rename_i hne
   refine ⟨⟨i',bk',w1,w2,w3⟩,fun e=>?_⟩
   subst e
   exact hne (h.inj id i' bk bk' _ hg hl w1 w2 hb w3)
 have hle:ρ.Le (ρ.setFz b o):=Dyn.le_setFz fun o' e=>absurd hown (h.fz b o' e).1.2.2
 have hU:∀ c o',Un hc ρ H.heap w c o'→Un hc ρ (H.put id .gone).heap w' c o':=by
  rintro c o' ⟨u1,u2,u3⟩
  have hne:c≠b:=fun e=>u3 (e ▸ hown)
  exact ⟨by rw [hw c hne];exact u1,u2,fun hh=>u3 (hno c hh).1⟩
 refine ⟨hle,⟨fun i k e1 e2=>?_,h1.inj,h1.fb,h1.fd,h1.fv,fun i c e=>by rw [hs];exact h.lt i c e,h1.hb,fun c o' e=>?_,h1.nh,fun f hf=>SB.den_mono hle _ _ (h.facts f hf),h.bd,fun j hj=>C.mono j ρ _ _ _ hle hU (h.phis j hj),fun c o' e=>?_,hos.trans h.os,ht.trans h.tape,hout.trans h.output,by rw [hs];exact h.size⟩,?_,fun b' hb'=>(hno b' hb').1⟩
 ·obtain ⟨c,o',g1,g2,g3⟩:=h1.blk i k e1 e2
  have hne:c≠b:=(hno c ⟨i,k,e1,e2,g1⟩).2
  exact ⟨c,o',g1,by rw [hw c hne];exact g2,Bk.is_mono hle g3⟩
 ·have hne:c≠b:=fun he=>by
   have:=(h.nh b hown).1
   rw [← he,e] at this;cases this
  rw [hw c hne];exact h.hid c o' e
 ·have e':(if c=b then some o else ρ.fz c)=some o':=e
  split at e'
  ·rename_i hcb;subst hcb;cases e'
   exact ⟨⟨hwb,(h.nh _ hown).1,fun hh=>(hno _ hh).2 rfl⟩,.inr (h.nh _ hown).2⟩
  ·exact (h.fz c o' e').imp (hU c o') fun h=>h
 ·have t1:Tn ρ H w ρ (H.put id .gone) w':=Tn.of_put hb hw hs
  exact ⟨⟨t1.ag.bl,t1.ag.di,t1.ag.dv,hle.fz⟩,t1.ext,t1.size,t1.new,t1.same⟩
theorem frz1_okW (hcc:cc.Ok C) (h:HpRel C hc w0 ρ H w) {i:Nat} {x z:SV} {u:Value} {H':Hp} (hx:x.Is C.σ ρ u) (hf:frz1 cc H i x=some (z,H')) :
  ∃ b k len cap A t,u=.slice (some ⟨b,k,none⟩) len cap∧w.heap[b]? = some (.cells A t (0,0))∧∀ g w',(∀ i,i≠b→w'.heap[i]? = w.heap[i]?)→w'.heap[b]? = some (.cells A t g)→w'.heap.size=w.heap.size→w'.os=w.os→w'.tape=w.tape→w'.output=w.output→
    ∃ ρ',ρ.Le ρ'∧ρ'.di=ρ.di∧HpRel C hc w0 ρ' H' w'∧Tn ρ H w ρ' H' w'∧z.Is C.σ ρ' u∧H'.facts=H.facts∧H'.phis=H.phis∧∀ b',Own ρ' H'.heap b'→Own ρ H.heap b':=by
 unfold frz1 at hf
 split at hf
 ·rename_i id o n cap
  cases hl:Nat.blt 0 (llen (flay i)) with
  | false=>rw [hl] at hf;cases hf
  | true=>
    rw [hl] at hf
    simp only [cond_true] at hf
    have hlay:0 < (flay i).length:=by rw [llen_eq] at hl;simpa [Nat.blt_eq] using hl
    split at hf
    ·rename_i c j m bk hv hg
     cases hcl0:(bif bk.celly then (match dec (bdOf cc H) H.facts (.le n cap) with | .yes b=>b | .ask _=>false) else false) with
     | false=>rw [hcl0] at hf;cases hf
     | true=>
       rw [hcl0] at hf
       rw [cond_true_iff] at hcl0
       obtain ⟨hcl,hdc⟩:=hcl0
       simp only [cond_true,Option.some.injEq,Prod.mk.injEq] at hf
       obtain ⟨rfl,rfl⟩:=hf
       have hvw:=viewA_ok hcc h hlay hx
       rw [hv] at hvw
       obtain ⟨a,cap',mv,cv,jv,us,rfl,g1,g2,g3,g4,g5,g6,_⟩:=hvw
       simp only [SV.Is] at hx
       obtain ⟨b,k,len,cap0,e1,e2,e3,e4,hu⟩:=hx
       injection hu with hu1 hu2 hu3
       subst hu1 hu2 hu3
       have hlc:mv≤cap':=by
        split at hdc
        ·rename_i b' hd
         subst hdc
         have hle:(SB.le n cap).den C.σ ρ=some (decide ((Int.ofNat mv)≤Int.ofNat cap')):=by simp [SB.den,e3,e4]
         have:=dec_ok (bdOf_ok hcc h) h.facts hle hd
         exact Int.ofNat_le.1 (by simpa using this.symm)
        ·cases hdc
       simp only [SR.den] at e1
       have hlive:bk.live=true:=by cases bk<;>first | rfl | cases hcl
       obtain ⟨b',ob,q1,q2,q3⟩:=h.blk id bk hg hlive
       rw [e1] at q1;cases q1
       obtain ⟨_,A,t,rfl⟩:=Bk.celly_is hcl q3
       refine ⟨b,k,mv,cap',A,t,rfl,q2,fun g w' v1 v2 v3 v4 v5 v6=>?_⟩
       obtain ⟨r1,r2,r3,r4⟩:=h.frzW hg hlive e1 v1 v2 v3 v4 v5 v6
       obtain ⟨bv,b1,b2⟩:=baseC_ok hcc g1 g2 g3
       obtain ⟨y,y1,y2,y3⟩:=frzS_ok hcc b1 g3
       refine ⟨_,r1,rfl,r2,r3,?_,rfl,rfl,r4⟩
       simp only [SV.Is]
       refine ⟨y,SI.den_mono r1 _ _ y1,Fz.of (A:=A) (t:=t) (g:=g) (by show (if b=b then some _ else _)=_;rw [if_pos rfl]) y2 hlc fun jj hjj f κ hκ=>?_⟩
       have hf1:f < (flay i).length:=(List.getElem?_eq_some_iff.1 hκ).1
       have hf2:=flay_len i
       rw [y3 κ jj f (by omega),b2 jj hjj κ f]
       obtain ⟨v,v1,v2⟩:=g5 jj hjj f κ hκ
       have hcell:=g6 _ rfl _ _ v1
       rw [addr_add] at hcell
       simp only [World.cell?,q2] at hcell
       refine ⟨v,?_,v2.mono r1.fz⟩
       rw [Nat.add_assoc]
       simpa using hcell
    ·cases hf
 ·cases hf
theorem frz1_ok (hcc:cc.Ok C) (h:HpRel C hc w0 ρ H w) {i:Nat} {x z:SV} {u:Value} {H':Hp} (hx:x.Is C.σ ρ u) (hf:frz1 cc H i x=some (z,H')) :
  ∃ ρ',FrzOk C hc w0 w ρ H ρ' H'∧z.Is C.σ ρ' u:=by
 obtain ⟨b,k,len,cap,A,t,rfl,q2,hh⟩:=frz1_okW hcc h hx hf
 obtain ⟨ρ',r1,r2,r3,r4,r5,r6,r7,r8⟩:=hh (0,0) w (fun _ _=>rfl) q2 rfl rfl rfl rfl
 exact ⟨ρ',⟨r1,r3,r6,r7,r8,r4,r2⟩,r5⟩
theorem run_convert_same {P:Program} {w:World} {s e te:TypeId} {b k len cap:Nat} {A:Array Value} {g:Nat×Nat} (ht:P.underlying s=some (.slice e)) (he:P.underlying e=some (.int .u8)) (hA:w.heap[b]? = some (.cells A te (0,0))) :
  ∃ w',(convert s s (.slice (some ⟨b,k,none⟩) len cap)).run P w=.ok (.slice (some ⟨b,k,none⟩) len cap) w'∧(∀ i,i≠b→w'.heap[i]? = w.heap[i]?)∧w'.heap[b]? = some (.cells A te (A.size,A.size+1))∧w'.heap.size=w.heap.size∧w'.os=w.os∧w'.tape=w.tape∧w'.output=w.output:=by
 have hsh:w.shape? b=some (te,A.size):=by simp [World.shape?,hA]
 refine ⟨w.freeze ⟨b,A.size,none⟩ 1,by simp [convert,run_underlying ht,run_underlying he,markStringish,hsh],fun i hi=>?_,?_,?_,?_,?_,?_⟩
 ·simp [World.freeze,Array.getElem?_modify,Ne.symm hi]
 ·simp [World.freeze,Array.getElem?_modify,hA]
 all_goals simp [World.freeze]
noncomputable def opConvW (cc:Cc) (H:Hp) (s d:TypeId) (x:SV):OpR:=
 bif Nat.beq s d then (match cc.P.underlying s with
  | some (.slice e)=>match cc.P.underlying e with
    | some (.int .u8)=>match frz1 cc H 0 x with
      | some p=>.val p.1 p.2
      | none=>.bad 535
    | _=>.bad 536
  | _=>.bad 537) else .bad 538
theorem opConvW_ok (hcc:cc.Ok C) (h:HpRel C hc w0 ρ H w) {s d:TypeId} {x:SV} {u:Value} (hx:x.Is C.σ ρ u):(opConvW cc H s d x).Ok cc C hc w0 ρ H w (do pure (.value (← convert s d u))):=by
 unfold opConvW
 cases hsd:Nat.beq s d with
 | false=>trivial
 | true=>
   have:=Nat.eq_of_beq_eq_true hsd;subst this
   simp only [cond_true]
   split
   ·rename_i e hs
    split
    ·rename_i he
     split
     ·rename_i p hp
      obtain ⟨z,H'⟩:=p
      obtain ⟨b,k,len,cap,A,t,rfl,q2,hh⟩:=frz1_okW hcc h hx hp
      obtain ⟨w',v0,v1,v2,v3,v4,v5,v6⟩:=run_convert_same (P:=cc.P) (w:=w) (k:=k) (len:=len) (cap:=cap) (g:=(0,0)) hs he q2
      obtain ⟨ρ',r1,r2,r3,r4,r5,_⟩:=hh _ w' v1 v2 v3 v4 v5 v6
      exact ⟨ρ',.value (.slice (some ⟨b,k,none⟩) len cap),.slice (some ⟨b,k,none⟩) len cap,w',r4,by simp [v0],.inl rfl,r5,r3⟩
     ·trivial
    ·trivial
   ·trivial
end
end Go.Sx
namespace Go.Sx
noncomputable section
set_option linter.unusedVariables false
set_option linter.unusedSimpArgs false
open Go.RowKit
section
variable {cc:Cc} {C:Ct} {hc:Nat→Option Obj} {w0:World} {ρ:Dyn} {H:Hp} {w:World}
theorem fz_cells (h:HpRel C hc w0 ρ H w) {i:Nat} {yv:Int} {b o len cap:Nat} (hz:Fz C.σ ρ.fz i yv (.slice (some ⟨b,o,none⟩) len cap)) (h0:0 < len) :
  flen C.σ yv=len∧∀ j,j < len→∀ f κ,(flay i)[f]? = some κ→KR C.σ ρ.fz κ (κ.val C.σ yv j f) (w.cell? ⟨b,o+j * (flay i).length+f,none⟩):=by
 obtain ⟨a,len',cap',hu,_,hl,hA⟩:=hz.cells
 injection hu with h1 h2 h3
 subst h1 h2 h3
 refine ⟨hl,fun j hj f κ hκ=>?_⟩
 rcases hA with hA | ⟨b',o',A,t,g,ha,hF,hA⟩
 ·omega
 ·injection ha with ha
  injection ha with h4 h5
  subst h4 h5
  have:=hA j hj f κ hκ
  simp only [World.cell?,(h.fz b _ hF).1.1]
  simpa using this
def opLenF (cc:Cc) (H:Hp) (ts:Array TypeId) (xs:List SV):OpR:=
 match lnth ts.toList 0,xs with
 | some t,[x]=>match cc.P.underlying t,x with
   | some (.slice _),.fs _ y=>.val (.it .i64 (flN cc H y)) H
   | some (.slice _),.fe=>.val (.it .i64 (.c 0)) H
   | some .string,.sf y=>.val (.it .i64 (flN cc H y)) H
   | _,_=>.bad 500
 | _,_=>.bad 501
theorem bytesOf_size {σ:Sta} (h:∀ c,0≤flen σ c) (y:Int):((bytesOf σ y).size:Int)=flen σ y:=by
 have:(bytesOf σ y).size=(flen σ y).toNat:=by simp [bytesOf,ByteArray.size]
 rw [this]
 have:=h y
 omega
theorem opLenF_ok (hcc:cc.Ok C) (h:HpRel C hc w0 ρ H w) {ts:Array TypeId} {ty:TypeId} {xs:List SV} {us:List Value} (hx:SV.IsL C.σ ρ xs us):(opLenF cc H ts xs).Ok cc C hc w0 ρ H w (do pure (.value (← Builtin.len_ ts ty us.toArray))):=by
 unfold opLenF
 split
 ·rename_i t x ht
  rw [SV.isL_cons] at hx
  obtain ⟨u,r,rfl,hu,h2⟩:=hx
  rw [SV.isL_nil] at h2
  subst h2
  rw [lnth_eq] at ht
  have ht':ts[0]? = some t:=by simpa using ht
  split
  ·rename_i e i y hd
   simp only [SV.Is] at hu
   obtain ⟨yv,e1,hz⟩:=hu
   obtain ⟨a,len,cap,rfl,_,hl,_⟩:=hz.cells
   refine OpR.ok_pure h (u:=.int .i64 len) ?_ (by simp only [SV.Is];exact ⟨_,flN_den hcc h e1,by rw [hl]⟩)
   simp [Builtin.len_,ht',underlying,hd,goInt]
  ·rename_i e hd
   simp only [SV.Is] at hu
   obtain ⟨a,rfl,_⟩:=hu
   refine OpR.ok_pure h (u:=.int .i64 0) ?_ (by simp only [SV.Is];exact ⟨_,rfl,rfl⟩)
   simp [Builtin.len_,ht',underlying,hd,goInt]
  ·rename_i y hd
   simp only [SV.Is] at hu
   obtain ⟨yv,e1,rfl⟩:=hu
   refine OpR.ok_pure h (u:=.int .i64 (bytesOf C.σ yv).size) ?_ (by simp only [SV.Is];exact ⟨_,flN_den hcc h e1,by rw [bytesOf_size hcc.al.fn]⟩)
   simp [Builtin.len_,ht',underlying,hd,goInt]
  ·trivial
 ·trivial
def opIndexAddrF (cc:Cc) (H:Hp) (t:TypeId) (x ix:SV):OpR:=
 match cc.P.underlying t,x,ix with
 | some (.slice e),.fs i y,.it _ j=>match aggOf cc.P e with
   | some (_,sz)=>bif Nat.beq sz (llen (flay i)) then need cc H (.le (.c 0) j) 502 (need cc H (.lt j (flN cc H y)) 503 (.val (.fp i y j 0) H)) else .bad 504
   | none=>.bad 505
 | _,_,_=>.bad 506
theorem opIndexAddrF_ok (hcc:cc.Ok C) (h:HpRel C hc w0 ρ H w) {t:TypeId} {x ix:SV} {u v:Value} (hx:x.Is C.σ ρ u) (hi:ix.Is C.σ ρ v):(opIndexAddrF cc H t x ix).Ok cc C hc w0 ρ H w (do pure (.value (← Instr.indexAt t u v))):=by
 unfold opIndexAddrF
 split
 ·rename_i e i y k j hu
  split
  ·rename_i g sz ha
   cases hb:Nat.beq sz (llen (flay i)) with
   | false=>trivial
   | true=>
     have hsz:=Nat.eq_of_beq_eq_true hb
     rw [llen_eq] at hsz
     simp only [SV.Is] at hx hi
     obtain ⟨yv,e1,hz⟩:=hx
     obtain ⟨jv,e3,rfl⟩:=hi
     obtain ⟨_,h2,_⟩:=aggOf_ok ha w
     obtain ⟨a,len,cap,rfl,hlc,hl,hA⟩:=hz.cells
     have hfl:=flN_den hcc h e1
     simp only [cond_true]
     refine need_ok hcc h (le_den0 e3) fun h0=>?_
     refine need_ok hcc h (b:=decide (jv < Int.ofNat len)) (by simp [SB.den,e3,hfl,hl]) fun h1=>?_
     have h0':0≤jv:=by simpa using h0
     have h1':jv < len:=by simpa using h1
     rcases hA with hA | ⟨b,o,A,tt,g',rfl,hF,hA⟩
     ·exfalso;omega
     obtain ⟨jn,rfl⟩:∃ jn:Nat,jv=jn:=⟨jv.toNat,by omega⟩
     refine OpR.ok_pure h (u:=.pointer (some ⟨b,o+jn * sz,none⟩)) ?_ ?_
     ·have h1'':jn < len:=by omega
      simp [Instr.indexAt,asIntOf,underlying,hu,h0',h1'',h2,addr_add]
     ·simp only [SV.Is]
      exact ⟨yv,b,o,len,cap,jn,e1,hz,e3,by omega,by rw [hsz];rfl⟩
  ·trivial
 ·trivial
def opFieldF (cc:Cc) (H:Hp) (t:TypeId) (x:SV) (f:Nat):OpR:=
 match cc.P.underlying t,x with
 | some (.struct fs),.fp i y j f0=>match lnth fs.toList f with
   | some fd=>match aggOf cc.P fd.type with
     | some (_,n)=>bif Nat.beq n 0 then .bad 507 else .val (.fp i y j (Nat.add f0 fd.offset)) H
     | none=>.bad 508
   | none=>.bad 509
 | _,_=>.bad 510
theorem opFieldF_ok (h:HpRel C hc w0 ρ H w) {t:TypeId} {x:SV} {u:Value} {f:Nat} (hx:x.Is C.σ ρ u):(opFieldF cc H t x f).Ok cc C hc w0 ρ H w (do pure (.value (← Instr.fieldAt t u f))):=by
 unfold opFieldF
 split
 ·rename_i fs i y j f0 hu
  split
  ·rename_i fd hf
   split
   ·rename_i g n ha
    cases hb:Nat.beq n 0 with
    | true=>trivial
    | false=>
      obtain ⟨_,h2,_⟩:=aggOf_ok ha w
      have hn:n≠0:=fun e=>by subst e;simp at hb
      simp only [SV.Is] at hx
      obtain ⟨yv,b,o,len,cap,jv,e1,e2,e3,e4,rfl⟩:=hx
      rw [lnth_eq] at hf
      have hf':fs[f]? = some fd:=by simpa using hf
      refine OpR.ok_pure h (u:=.pointer (some ⟨b,o+jv * (flay i).length+f0+fd.offset,none⟩)) ?_ ?_
      ·simp [Instr.fieldAt,underlying,hu,hf',Instr.sureAddr,fieldPlace,h2,hn,addr_add]
      ·simp only [SV.Is]
       exact ⟨yv,b,o,len,cap,jv,e1,e2,e3,e4,by rw [Nat.add_assoc];rfl⟩
   ·trivial
  ·trivial
 ·trivial
def lodF (cc:Cc) (H:Hp) (t:TypeId) (i:Nat) (y j:SI) (f:Nat):OpR:=
 match aggOf cc.P t with
 | some (g,m)=>bif Nat.ble (Nat.add f m) (llen (flay i)) then (match g with
   | true=>.val (.ag (rdS cc H y j (ltake (ldrop (flay i) f) m) f)) H
   | false=>match rdS cc H y j (ldrop (flay i) f) f with | z::_=>.val z H | []=>.bad 511) else .bad 512
 | none=>.bad 513
theorem lodF_ok (hcc:cc.Ok C) (h:HpRel C hc w0 ρ H w) {t:TypeId} {i:Nat} {y j:SI} {f:Nat} {u:Value} (hx:(SV.fp i y j f).Is C.σ ρ u) :
  (lodF cc H t i y j f).Ok cc C hc w0 ρ H w (Instr.loadAt t u >>= fun v=>pure (.value v)):=by
 simp only [SV.Is] at hx
 obtain ⟨yv,b,o,len,cap,jv,e1,e2,e3,e4,rfl⟩:=hx
 have hrun:(Instr.loadAt t (.pointer (some ⟨b,o+jv * (flay i).length+f,none⟩)) >>= fun v=>pure (Next.value v):Sem Next).run cc.P w=(loadVar t ⟨b,o+jv * (flay i).length+f,none⟩ >>= fun v=>pure (Next.value v):Sem Next).run cc.P w:=by
  simp [Instr.loadAt,Instr.sureAddr]
 refine OpR.ok_congr ?_ hrun
 unfold lodF
 split
 ·rename_i g m ha
  cases hf:Nat.ble (Nat.add f m) (llen (flay i)) with
  | false=>trivial
  | true=>
    have hfm:=Nat.le_of_ble_eq_true hf
    rw [llen_eq] at hfm
    have hfm:f+m≤(flay i).length:=hfm
    obtain ⟨_,hcell0⟩:=fz_cells h e2 (by omega)
    have hcell:∀ x κ,(flay i)[f+x]? = some κ→KR C.σ ρ.fz κ (κ.val C.σ yv jv (f+x)) (w.cell? ⟨b,o+jv * (flay i).length+f+x,none⟩):=by
     intro x κ hκ
     have:=hcell0 jv e4 (f+x) κ hκ
     rw [← Nat.add_assoc] at this
     exact this
    obtain ⟨g1,g2,_⟩:=aggOf_ok ha w
    cases g with
    | true=>
      obtain ⟨us,hrow,hus⟩:=rowR_of (l:=ltake (ldrop (flay i) f) m) (f:=f) (g:=fun x=>w.cell? ⟨b,o+jv * (flay i).length+f+x,none⟩) (fun x κ hκ=>by
       rw [ltake_eq,ldrop_eq,List.getElem?_take] at hκ
       split at hκ
       ·rw [List.getElem?_drop] at hκ;exact hcell x κ hκ
       ·cases hκ)
      have hz:=rdS_is hcc h e1 e3 _ _ us hrow
      have hld:=run_loadCells_list (P:=cc.P) w ⟨b,o+jv * (flay i).length+f,none⟩ us (fun x v hi=>by
       rw [addr_add];exact hus x v hi)
      have hlen:us.length=m:=by
       rw [hrow.1,ltake_eq,ldrop_eq]
       simp only [List.length_take,List.length_drop];omega
      rw [hlen] at hld
      exact OpR.ok_pure h (u:=.agg us.toArray) (by simp [loadVar,g1,g2,hld]) (by simp only [SV.Is];exact ⟨_,hz,rfl⟩)
    | false=>
      dsimp only
      obtain ⟨us,hrow,hus⟩:=rowR_of (l:=ldrop (flay i) f) (f:=f) (g:=fun x=>w.cell? ⟨b,o+jv * (flay i).length+f+x,none⟩) (fun x κ hκ=>by
       rw [ldrop_eq,List.getElem?_drop] at hκ;exact hcell x κ hκ)
      have hz:=rdS_is hcc h e1 e3 _ _ us hrow
      simp only [cond_true]
      split
      ·rename_i z zs hzs
       rw [hzs] at hz
       rw [SV.isL_cons] at hz
       obtain ⟨u,us',hu,hz1,_⟩:=hz
       have:=hus 0 u (by rw [hu];rfl)
       exact OpR.ok_pure h (u:=u) (by simp [loadVar,g1,run_load,show w.cell? ⟨b,o+jv * (flay i).length+f,none⟩=some _ from this]) hz1
      ·trivial
 ·trivial
def isZ0 (x:Option SV):Bool:=match x with | none=>true | some (.it _ (.c 0))=>true | _=>false
def isZ1 (x:Option SV):Bool:=match x with | some (.it _ (.c 0))=>true | _=>false
theorem isZ0_ok {x:Option SV} {u:Option Value} (h:OIs C.σ ρ x u) (hz:isZ0 x=true):u=none∨∃ k,u=some (.int k 0):=by
 unfold isZ0 at hz
 split at hz
 ·cases u with
  | none=>exact .inl rfl
  | some _=>exact h.elim
 ·cases u with
  | none=>exact h.elim
  | some v=>
    have h':(SV.it _ (.c 0)).Is C.σ ρ v:=h
    simp only [SV.Is,SI.den] at h'
    obtain ⟨x,hx,rfl⟩:=h'
    cases hx
    exact .inr ⟨_,rfl⟩
 ·cases hz
theorem isZ1_ok {x:Option SV} {u:Option Value} (h:OIs C.σ ρ x u) (hz:isZ1 x=true):∃ k,u=some (.int k 0):=by
 have:isZ0 x=true:=by unfold isZ1 at hz;split at hz<;>first | rfl | cases hz
 rcases isZ0_ok h this with rfl | h
 ·unfold isZ1 at hz
  split at hz
  ·exact h.elim
  ·cases hz
 ·exact h
def opSliceF (cc:Cc) (H:Hp) (t:TypeId) (x:SV) (lo hi mx:Option SV):OpR:=
 match cc.P.underlying t,x with
 | some (.slice e),.fs i y=>match aggOf cc.P e with
   | some (_,sz)=>bif isZ0 lo && (isZ1 hi && isZ1 mx) then .val .fe H else
     bif Nat.beq sz (llen (flay i)) && Nat.blt 0 sz then
     (match bndE mx (flN cc H y),bndE hi (flN cc H y),bndE lo (.c 0) with
     | some m,some h,some l=>match hi,mx with
       | none,some _=>.bad 520
       | _,_=>bndT cc H mx m (flN cc H y) (bndT cc H hi h m (bndT cc H lo l h (need cc H (.le h m) 521 (need cc H (.le l h) 525 (need cc H (.le (.c 0) h) 526 (.val (.fs i (frzS (SI.sub h l) (baseC y l (SI.sub h l)))) H))))))
     | _,_,_=>.bad 522) else .bad 523
   | none=>.bad 524
 | some (.slice e),.fe=>match aggOf cc.P e with
   | some _=>bif isZ0 lo && (isZ0 hi && (isZ0 mx && (hi.isSome || mx.isNone))) then .val .fe H else .bad 527
   | none=>.bad 528
 | _,_=>.bad 529
theorem run_slice0 {P:Program} {w:World} {t e:TypeId} {i:TypeInfo} (ht:P.underlying t=some (.slice e)) (hi:P.info? e=some i) {a:Option Addr} {len cap:Nat} {ul uh um:Option Value} (h1:ul=none∨∃ k,ul=some (.int k 0)) (h2:∃ k,uh=some (.int k 0)) (h3:∃ k,um=some (.int k 0)) :
  ∃ a',(Instr.sliceAt t (.slice a len cap) ul uh um).run P w=.ok (.slice a' 0 0) w:=by
 obtain ⟨k2,rfl⟩:=h2
 obtain ⟨k3,rfl⟩:=h3
 refine ⟨a,?_⟩
 rcases h1 with rfl | ⟨k1,rfl⟩<;>simp [Instr.sliceAt,underlying,ht,Instr.slice,Instr.sliceBounds,Instr.sliceBound,asIntOf,sizeOf,typeInfo,hi]
theorem run_slice0' {P:Program} {w:World} {t e:TypeId} {i:TypeInfo} (ht:P.underlying t=some (.slice e)) (hi:P.info? e=some i) {a:Option Addr} {ul uh um:Option Value} (h1:ul=none∨∃ k,ul=some (.int k 0)) (h2:uh=none∨∃ k,uh=some (.int k 0)) (h3:um=none∨∃ k,um=some (.int k 0)) (h4:uh=none→um=none) :
  ∃ a',(Instr.sliceAt t (.slice a 0 0) ul uh um).run P w=.ok (.slice a' 0 0) w:=by
 refine ⟨a,?_⟩
 rcases h2 with rfl | ⟨k2,rfl⟩
 ·have:=h4 rfl
  subst this
  rcases h1 with rfl | ⟨k1,rfl⟩<;>simp [Instr.sliceAt,underlying,ht,Instr.slice,Instr.sliceBounds,Instr.sliceBound,asIntOf,sizeOf,typeInfo,hi]
 ·rcases h3 with rfl | ⟨k3,rfl⟩<;>rcases h1 with rfl | ⟨k1,rfl⟩<;>simp [Instr.sliceAt,underlying,ht,Instr.slice,Instr.sliceBounds,Instr.sliceBound,asIntOf,sizeOf,typeInfo,hi]
def opSliceE (cc:Cc) (H:Hp) (t:TypeId) (x:SV) (lo hi mx:Option SV):OpR:=
 match cc.P.underlying t,x with
 | some (.slice e),.sl _ _ _ _=>match aggOf cc.P e with
   | some _=>bif lmem cc.ow e then .bad 542 else (bif isZ0 lo && (isZ1 hi && isZ1 mx) then .val .fe H else .bad 543)
   | none=>.bad 544
 | _,_=>.bad 545
theorem opSliceE_ok (h:HpRel C hc w0 ρ H w) {t:TypeId} {x:SV} {u:Value} {lo hi mx:Option SV} {ul uh um:Option Value} (hx:x.Is C.σ ρ u) (hlo:OIs C.σ ρ lo ul) (hhi:OIs C.σ ρ hi uh) (hmx:OIs C.σ ρ mx um) :
  (opSliceE cc H t x lo hi mx).Ok cc C hc w0 ρ H w (do pure (.value (← Instr.sliceAt t u ul uh um))):=by
 unfold opSliceE
 split
 ·rename_i e r o l c hu
  split
  ·rename_i p ha
   obtain ⟨g,sz⟩:=p
   obtain ⟨_,hsz0,ti,hti,hts⟩:=aggOf_ok ha w
   cases hb:lmem cc.ow e with
   | true=>trivial
   | false=>
     cases hz0:(isZ0 lo && (isZ1 hi && isZ1 mx)) with
     | false=>trivial
     | true=>
       simp only [Bool.and_eq_true] at hz0
       simp only [SV.Is] at hx
       obtain ⟨b,k,len,cap,_,_,_,_,rfl⟩:=hx
       obtain ⟨a',hr⟩:=run_slice0 (w:=w) hu hti (a:=some ⟨b,k,none⟩) (len:=len) (cap:=cap) (isZ0_ok hlo hz0.1) (isZ1_ok hhi hz0.2.1) (isZ1_ok hmx hz0.2.2)
       exact OpR.ok_pure h hr (by simp only [SV.Is];exact ⟨a',rfl,sl0 _⟩)
  ·trivial
 ·trivial
theorem opSliceF_ok (hcc:cc.Ok C) (h:HpRel C hc w0 ρ H w) {t:TypeId} {x:SV} {u:Value} {lo hi mx:Option SV} {ul uh um:Option Value} (hx:x.Is C.σ ρ u) (hlo:OIs C.σ ρ lo ul) (hhi:OIs C.σ ρ hi uh) (hmx:OIs C.σ ρ mx um) :
  (opSliceF cc H t x lo hi mx).Ok cc C hc w0 ρ H w (do pure (.value (← Instr.sliceAt t u ul uh um))):=by
 have none_iff:∀ {x:Option SV} {v:Option Value},OIs C.σ ρ x v→(x=none→v=none)∧(v=none→x=none):=by
  intro x v hxv
  cases x<;>cases v<;>first | exact ⟨fun _=>rfl,fun _=>rfl⟩ | exact hxv.elim | exact ⟨(fun e=>by cases e),(fun e=>by cases e)⟩
 unfold opSliceF
 split
 ·rename_i e i y hu
  split
  ·rename_i g sz ha
   obtain ⟨_,hsz0,ti,hti,hts⟩:=aggOf_ok ha w
   simp only [SV.Is] at hx
   obtain ⟨yv,e1,hz⟩:=hx
   obtain ⟨a,len,cap,rfl,hlc,hl,hA⟩:=hz.cells
   cases hz0:(isZ0 lo && (isZ1 hi && isZ1 mx)) with
   | true=>
     simp only [Bool.and_eq_true] at hz0
     obtain ⟨a',hr⟩:=run_slice0 (w:=w) hu hti (a:=a) (len:=len) (cap:=cap) (isZ0_ok hlo hz0.1) (isZ1_ok hhi hz0.2.1) (isZ1_ok hmx hz0.2.2)
     exact OpR.ok_pure h hr (by simp only [SV.Is];exact ⟨a',rfl,sl0 _⟩)
   | false=>
     simp only [cond_false]
     cases hb:(Nat.beq sz (llen (flay i)) && Nat.blt 0 sz) with
     | false=>trivial
     | true=>
       simp only [Bool.and_eq_true] at hb
       have hsz:=Nat.eq_of_beq_eq_true hb.1
       rw [llen_eq] at hsz
       have hszp:0 < sz:=by simpa [Nat.blt_eq] using hb.2
       simp only [cond_true]
       have hfl:=flN_den hcc h e1
       rw [hl] at hfl
       split
       ·rename_i m hh l hm hhh hll
        have main:(hi=none→mx=none)→(bndT cc H mx m (flN cc H y) (bndT cc H hi hh m (bndT cc H lo l hh (need cc H (.le hh m) 521 (need cc H (.le l hh) 525 (need cc H (.le (.c 0) hh) 526 (.val (.fs i (frzS (SI.sub hh l) (baseC y l (SI.sub hh l)))) H))))))).Ok cc C hc w0 ρ H w (do pure (.value (← Instr.sliceAt t (.slice a len cap) ul uh um))):=by
         intro hnone
         obtain ⟨mv,m1,m2⟩:=bndE_ok (ρ:=ρ) hmx hfl hm
         obtain ⟨hv,h1,h2⟩:=bndE_ok (ρ:=ρ) hhi hfl hhh
         obtain ⟨lv,l1,l2⟩:=bndE_ok (ρ:=ρ) (d:=.c 0) (dv:=0) hlo rfl hll
         refine bndT_ok hcc h m1 hfl fun bm=>?_
         refine bndT_ok hcc h h1 m1 fun bh=>?_
         refine bndT_ok hcc h l1 h1 fun bl=>?_
         refine need_ok hcc h (b:=decide (hv≤mv)) (by simp [SB.den,h1,m1]) fun n1=>?_
         refine need_ok hcc h (b:=decide (lv≤hv)) (by simp [SB.den,h1,l1]) fun n2=>?_
         refine need_ok hcc h (le_den0 h1) fun n3=>?_
         have n1:hv≤mv:=by simpa using n1
         have n2:lv≤hv:=by simpa using n2
         have n3:0≤hv:=by simpa using n3
         have hmle:mv≤len:=by
          rcases bm with e | e
          ·have:=(none_iff hmx).1 e
           subst this
           dsimp only at m2
           omega
          ·exact e.2
         have hl0:0≤lv:=by
          rcases bl with e | e
          ·have:=(none_iff hlo).1 e
           subst this
           dsimp only at l2
           omega
          ·exact e.1
         obtain ⟨mc,hmc1,hmc2,hmc3⟩:∃ mc:Int,(match (generalizing:=false) um with | none=>mc=cap | some v=>(∃ k,v=.int k mc)∧0≤mc∧mc≤cap)∧hv≤mc∧lv≤mc:=by
          cases um with
          | none=>exact ⟨cap,rfl,by omega,by omega⟩
          | some v=>
            refine ⟨mv,⟨m2,?_,?_⟩,n1,by omega⟩
            ·omega
            ·omega
         have hrun:=run_bounds (P:=cc.P) (w:=w) (isS:=true) (len:=len) (cap:=cap) (lo:=ul) (hi:=uh) (mx:=um) (l:=lv) (h:=hv) (m:=mc) hmc1
          (by
           cases uh with
           | none=>
             have:=(none_iff hhi).2 rfl
             exact ⟨h2,(none_iff hmx).1 (hnone this)⟩
           | some v=>exact ⟨h2,n3,hmc2⟩)
          (by
           cases ul with
           | none=>exact l2
           | some v=>exact ⟨l2,hl0,n2⟩) n3
         obtain ⟨ln,rfl⟩:∃ ln:Nat,lv=ln:=⟨lv.toNat,by omega⟩
         obtain ⟨hn,rfl⟩:∃ hn:Nat,hv=hn:=⟨hv.toNat,by omega⟩
         obtain ⟨mn,rfl⟩:∃ mn:Nat,mc=mn:=⟨mc.toNat,by omega⟩
         simp only [Int.toNat_natCast] at hrun
         have hsub:(SI.sub hh l).den C.σ ρ=some (Int.ofNat (hn - ln)):=by rw [SI.sub_den h1 l1];congr 1;simp only [Int.ofNat_eq_natCast];omega
         have hrun2:(Instr.sliceAt t (.slice a len cap) ul uh um).run cc.P w=.ok (.slice (if mn=ln then a else a.map (·.add (ln * sz))) (hn - ln) (mn - ln)) w:=by
          simp [Instr.sliceAt,underlying,hu,Instr.slice,hrun,hsz0]
         refine OpR.ok_pure h hrun2 ?_
         simp only [SV.Is]
         obtain ⟨bv,b1,b2⟩:=baseC_ok hcc e1 l1 hsub
         obtain ⟨z,z1,z2,z3⟩:=frzS_ok hcc b1 hsub
         refine ⟨z,z1,?_⟩
         by_cases h0:hn - ln=0
         ·rw [h0]
          exact .nil _ _ _ _ (by rw [z2,h0];rfl) (sl0 _)
         ·rcases hA with hA | ⟨b,o,A,tt,g',rfl,hF,hA⟩
          ·exfalso;omega
          have hne:¬ mn=ln:=by omega
          rw [if_neg hne]
          simp only [Option.map_some]
          rw [addr_add]
          refine Fz.of hF z2 (by omega) fun j hj f κ hκ=>?_
          have hf:=(List.getElem?_eq_some_iff.1 hκ).1
          have hf2:=flay_len i
          rw [z3 κ j f (by omega),b2 j hj κ f]
          have:=hA (ln+j) (by omega) f κ hκ
          rw [hsz,show o+ln * (flay i).length+j * (flay i).length+f=o+(ln+j) * (flay i).length+f by rw [Nat.add_mul];omega]
          exact this
        split
        ·trivial
        ·rename_i hno
         exact main (fun e=>by
          cases hmx':mx with
          | none=>rfl
          | some v=>exact absurd hmx' (by intro e2;exact hno v e e2))
       ·trivial
  ·trivial
 ·rename_i e hu
  split
  ·rename_i p ha
   obtain ⟨g,sz⟩:=p
   obtain ⟨_,hsz0,ti,hti,hts⟩:=aggOf_ok ha w
   simp only [SV.Is] at hx
   obtain ⟨a,rfl,_⟩:=hx
   cases hb:(isZ0 lo && (isZ0 hi && (isZ0 mx && (hi.isSome || mx.isNone)))) with
   | false=>trivial
   | true=>
     simp only [Bool.and_eq_true,Bool.or_eq_true] at hb
     obtain ⟨b1,b2,b3,b4⟩:=hb
     obtain ⟨a',hr⟩:=run_slice0' (w:=w) hu hti (a:=a) (isZ0_ok hlo b1) (isZ0_ok hhi b2) (isZ0_ok hmx b3) (fun e=>by
      have:=(none_iff hhi).2 e
      subst this
      rcases b4 with b4 | b4
      ·cases b4
      ·cases mx with
       | none=>exact (none_iff hmx).1 rfl
       | some _=>cases b4)
     exact OpR.ok_pure h hr (by simp only [SV.Is];exact ⟨a',rfl,sl0 _⟩)
  ·trivial
 ·trivial
def bytesS (l:List UInt8):List SV:=lmap (fun b=>.it .u8 (.c (.ofNat b.toNat))) l
def opConvF (cc:Cc) (H:Hp) (s d:TypeId) (x:SV):OpR:=
 match cc.P.underlying s,cc.P.underlying d,x with
 | some (.slice e),some .string,x'=>match cc.P.underlying e with
   | some (.int .u8)=>match viewA cc H [.nt .u8] x' with
     | .ok c j m=>.val (.sf (frzS m (baseC c j m))) H
     | .ask p=>.ask p
     | .no=>.bad 530
   | _=>.bad 531
 | some .string,some (.slice e),.st (.c b)=>match cc.P.underlying e with
   | some (.int .u8)=>match setsA cc H [.nt .u8] (bytesS b.data.toList) (.c 0) (.c 0) 0 with
     | .ok c=>.val (.fs 0 (frzS (.c (.ofNat b.size)) c)) H
     | _=>.bad 532
   | _=>.bad 533
 | _,_,_=>.bad 534
theorem foldl_bytes (l:List Int):∀ (r:ByteArray),(l.foldl (fun r n=>r.push (UInt8.ofNat n.toNat)) r).data.toList=r.data.toList++l.map fun n=>UInt8.ofNat n.toNat:=by
 induction l with
 | nil=>intro r;simp
 | cons a l ih=>intro r;rw [List.foldl_cons,ih];simp [ByteArray.push]
theorem flay0:flay 0=[.nt .u8]:=rfl
theorem opConvF_ok (hcc:cc.Ok C) (h:HpRel C hc w0 ρ H w) {s d:TypeId} {x:SV} {u:Value} (hx:x.Is C.σ ρ u):(opConvF cc H s d x).Ok cc C hc w0 ρ H w (do pure (.value (← convert s d u))):=by
 unfold opConvF
 split
 ·rename_i x' e hs hd
  split
  ·rename_i he
   have hv:=viewA_ok hcc h (lay:=[.nt .u8]) (by decide) hx
   split
   ·rename_i c j m hvw
    rw [hvw] at hv
    obtain ⟨a,cap,mv,cv,jv,us,rfl,g1,g2,g3,g4,g5,g6,g7⟩:=hv
    obtain ⟨bv,b1,b2⟩:=baseC_ok hcc g1 g2 g3
    obtain ⟨z,z1,z2,z3⟩:=frzS_ok hcc b1 g3
    have hlen:us.length=mv:=by simpa using g4
    have hcells:us=((List.range mv).map fun (i:Nat)=>C.σ.fi (IntKind.u8).ctorIdx z i 0 0 0 0).map (Value.int .u8):=by
     refine List.ext_getElem? fun p=>?_
     by_cases hp:p < mv
     ·have:=g5 p hp 0 (.nt .u8) rfl
      obtain ⟨v,v1,v2⟩:=this
      have v2:v=(Kd.nt .u8).val C.σ cv (jv+p) 0:=v2
      simp only [List.length_cons,List.length_nil,Nat.zero_add,Nat.mul_one,Nat.add_zero] at v1
      rw [v1,v2,← b2 p hp,← z3 _ p 0 (by decide)]
      simp [List.getElem?_range hp,Kd.val]
     ·rw [List.getElem?_eq_none_iff.2 (by omega),List.getElem?_eq_none_iff.2 (by simp;omega)]
    have hstr:(convert s d (.slice a mv cap)).run cc.P w=.ok (.string (bytesOf C.σ z)) w:=by
     rw [run_convert_bytes_string w s d e a mv cap hs he hd]
     cases a with
     | none=>
       have:us=[]:=by
        have:=g7 w rfl
        simp [Builtin.firstCells] at this
        exact this
       have hm0:mv=0:=by rw [← hlen,this];rfl
       have hb0:bytesOf C.σ z=ByteArray.empty:=by
        unfold bytesOf
        rw [z2,hm0]
        rfl
       rw [hb0]
       simp [Conv.bytesToString]
     | some aa=>
       have hld:=run_loadCells_list (P:=cc.P) w aa us (fun p v hp=>g6 aa rfl p v hp)
       rw [hlen,hcells] at hld
       rw [run_bytesToString w aa mv cap _ hld]
       congr 2
       refine ByteArray.ext (Array.ext' ?_)
       rw [foldl_bytes]
       simp only [bytesOf,z2,Int.toNat_natCast,List.map_map]
       simp
    exact OpR.ok_pure h hstr (by simp only [SV.Is];exact ⟨z,z1,rfl⟩)
   ·rename_i p hvw
    rw [hvw] at hv;exact hv
   ·trivial
  ·trivial
 ·rename_i e b hs hd
  split
  ·rename_i he
   split
   ·rename_i c hset
    simp only [SV.Is,SS.den] at hx
    subst hx
    have hrun:=Lib.run_convert_string_bytes (P:=cc.P) w s d e b hs hd he
    have hge:=grownCap_ge w b.size 0 e
    have hold:=Lib.bytesWorld_at_old w e b
    have hnew:=Lib.bytesWorld_at_new w e b
    have hsz:=Lib.bytesWorld_size w e b
    have hbel:Below w.heap.size w (Lib.bytesWorld w e b):=⟨rfl,rfl,rfl,by rw [hsz];omega,fun k hk=>hold k hk⟩
    have h2:=h.below hbel
    obtain ⟨q1,q2,q3⟩:=h2.setFz hnew (h.hc_lt (Nat.le_refl _)) (fun ⟨id,bk,e1,e2,e3⟩=>by have:=h.lt id _ e3;omega) (.inl h.size)
    have hbl:SV.IsL C.σ ρ (bytesS b.data.toList) (b.data.toList.map fun x=>Value.int .u8 x.toNat):=by
     unfold bytesS
     rw [lmap_eq]
     generalize b.data.toList=l
     induction l with
     | nil=>exact SV.isL_nil.2 rfl
     | cons a l ih=>exact SV.isL_cons.2 ⟨_,_,rfl,by simp only [SV.Is];exact ⟨_,rfl,rfl⟩,ih⟩
    obtain ⟨cv,c1,c2⟩:=setsA_ok hcc h hbl (c:=.c 0) (cv:=0) rfl (j:=.c 0) (jv:=0) rfl (by decide) hset
    have hbs:b.data.toList.length=b.size:=rfl
    obtain ⟨z,z1,z2,z3⟩:=frzS_ok hcc c1 (n:=.c (.ofNat b.size)) (nv:=b.size) rfl
    refine ⟨_,.value (.slice (some ⟨w.heap.size,0,none⟩) b.size (grownCap w b.size 0 e)),.slice (some ⟨w.heap.size,0,none⟩) b.size (grownCap w b.size 0 e),_,(Tn.of_below hbel).trans q3,?_,.inl rfl,?_,q2⟩
    ·simp [hrun]
    ·simp only [SV.Is]
     refine ⟨z,SI.den_mono q1 _ _ z1,Fz.of (A:=Lib.bytesCells w e b) (t:=e) (g:=((Lib.bytesCells w e b).size,(Lib.bytesCells w e b).size+1)) (by show (if w.heap.size=w.heap.size then some _ else _)=_;rw [if_pos rfl]) z2 (by omega) fun j hj f κ hκ=>?_⟩
     rw [flay0] at hκ ⊢
     match f,hκ with
     | 0,hκ=>
       simp only [List.getElem?_cons_zero,Option.some.injEq] at hκ
       subst hκ
       rw [z3 _ j 0 (by decide)]
       have:=(c2 j 0 (.nt .u8) rfl).1 (by simp;omega)
       simp only [List.length_cons,List.length_nil,Nat.zero_add,Nat.mul_one,Nat.add_zero,Nat.zero_mul,Nat.sub_zero] at this ⊢
       obtain ⟨v,v1,v2⟩:=this
       refine ⟨v,?_,v2⟩
       rw [List.getElem?_map] at v1
       unfold Lib.bytesCells
       rw [Array.getElem?_append,if_pos (by simp;exact hj),Array.getElem?_map]
       rw [← Array.getElem?_toList]
       exact v1
     | f+1,hκ=>simp at hκ
   ·trivial
  ·trivial
 ·trivial
def nilV (H:Hp) (op:BinOp):OpR:=
 match op with
 | .eql=>.val (.bo (.eq (.d H.nd) (.c 0))) (H.num (.c 0))
 | .neq=>.val (.bo (.not (.eq (.d H.nd) (.c 0)))) (H.num (.c 0))
 | _=>.bad 546
def nilN (H:Hp) (op:BinOp):OpR:=
 match op with
 | .eql=>.val (.bo (.c false)) H
 | .neq=>.val (.bo (.c true)) H
 | _=>.bad 547
def opNilF (cc:Cc) (H:Hp) (op:BinOp) (t:TypeId) (x y:SV):OpR:=
 match cc.P.underlying t,x,y with
 | some (.slice _),.fs i z,.sn=>match dec (bdOf cc H) H.facts (.eq (flN cc H z) (.c 0)) with
   | .yes true=>nilV H op
   | .yes false=>nilN H op
   | .ask p=>.ask p
 | some (.slice _),.fe,.sn=>nilV H op
 | _,_,_=>.bad 548
theorem run_equalIn_sl {P:Program} {w:World} {t e:TypeId} {a:Option Addr} {len cap d:Nat} (ht:P.underlying t=some (.slice e)):(Op.equalIn (d+1) t (.slice a len cap) (.slice none 0 0)).run P w=.ok a.isNone w:=by
 cases a<;>simp [Op.equalIn,underlying,ht]
theorem run_nil {P:Program} {w:World} {op:BinOp} {t e:TypeId} {ox oy:Operand} {a:Option Addr} {len cap:Nat} (ht:P.underlying t=some (.slice e)) (hop:op=.eql∨op=.neq) :
  (do eqGuard op t ox oy (.slice a len cap) (.slice none 0 0);binOp op t (.slice a len cap) (.slice none 0 0):Sem Value).run P w=.ok (.bool (match op with | .eql=>a.isNone | _=>!a.isNone)) w:=by
 have hg:eqGuard op t ox oy (.slice a len cap) (.slice none 0 0)=pure ():=eqGuard_plain (by simp) (by simp)
 have he':(Op.equal t (.slice a len cap) (.slice none 0 0)).run P w=.ok a.isNone w:=run_equalIn_sl (d:=9999) ht
 rw [hg]
 rcases hop with rfl | rfl<;>simp [binOp,he']
theorem nilV_ok (h:HpRel C hc w0 ρ H w) {op:BinOp} {t e:TypeId} {ox oy:Operand} {a:Option Addr} {len cap:Nat} (ht:cc.P.underlying t=some (.slice e)) :
  (nilV H op).Ok cc C hc w0 ρ H w (do pure (.value (← (do eqGuard op t ox oy (.slice a len cap) (.slice none 0 0);binOp op t (.slice a len cap) (.slice none 0 0))))):=by
 have hn:(SB.eq (.d H.nd) (.c 0)).den C.σ (ρ.setDi H.nd (if a.isNone then 0 else 1))=some a.isNone:=by
  have hd:(SI.d H.nd).den C.σ (ρ.setDi H.nd (if a.isNone then 0 else 1))=some (Int.ofNat (if a.isNone then 0 else 1)):=by
   simp [SI.den,Dyn.setDi]
  show ((SI.d H.nd).den C.σ _).bind _=_
  rw [hd]
  cases a<;>rfl
 have hnum:=h.num (lo:=.c 0) (n:=if a.isNone then 0 else 1) (k:=0) rfl (Nat.zero_le _)
 unfold nilV
 split
 ·refine ⟨_,.value (.bool a.isNone),.bool a.isNone,w,Tn.of_num ρ H w (.c 0) _,?_,.inl rfl,?_,hnum⟩
  ·have:=run_nil (P:=cc.P) (w:=w) (ox:=ox) (oy:=oy) (a:=a) (len:=len) (cap:=cap) ht (.inl rfl)
   simp only [Sem.run_bind,Sem.run_pure,Result.andThen_ok] at this ⊢
   simp only [this,Result.andThen_ok]
  ·simp only [SV.Is];exact ⟨_,hn,rfl⟩
 ·refine ⟨_,.value (.bool !a.isNone),.bool !a.isNone,w,Tn.of_num ρ H w (.c 0) _,?_,.inl rfl,?_,hnum⟩
  ·have:=run_nil (P:=cc.P) (w:=w) (ox:=ox) (oy:=oy) (a:=a) (len:=len) (cap:=cap) ht (.inr rfl)
   simp only [Sem.run_bind,Sem.run_pure,Result.andThen_ok] at this ⊢
   simp only [this,Result.andThen_ok]
  ·simp only [SV.Is];exact ⟨_,by simp only [SB.den,hn] at hn ⊢;rw [hn];rfl,rfl⟩
 ·trivial
theorem nilN_ok (h:HpRel C hc w0 ρ H w) {op:BinOp} {t e:TypeId} {ox oy:Operand} {a:Addr} {len cap:Nat} (ht:cc.P.underlying t=some (.slice e)) :
  (nilN H op).Ok cc C hc w0 ρ H w (do pure (.value (← (do eqGuard op t ox oy (.slice (some a) len cap) (.slice none 0 0);binOp op t (.slice (some a) len cap) (.slice none 0 0))))):=by
 unfold nilN
 split
 ·exact OpR.ok_pure h (u:=.bool false) (run_nil ht (.inl rfl)) (by simp only [SV.Is];exact ⟨_,rfl,rfl⟩)
 ·exact OpR.ok_pure h (u:=.bool true) (run_nil ht (.inr rfl)) (by simp only [SV.Is];exact ⟨_,rfl,rfl⟩)
 ·trivial
theorem opNilF_ok (hcc:cc.Ok C) (h:HpRel C hc w0 ρ H w) {op:BinOp} {x y:SV} {u v:Value} (t:TypeId) (ox oy:Operand) (hx:x.Is C.σ ρ u) (hy:y.Is C.σ ρ v) :
  (opNilF cc H op t x y).Ok cc C hc w0 ρ H w (do pure (.value (← (do eqGuard op t ox oy u v;binOp op t u v)))):=by
 unfold opNilF
 split
 ·rename_i e i z ht
  simp only [SV.Is] at hx hy
  subst hy
  obtain ⟨zv,e1,hz⟩:=hx
  obtain ⟨a,len,cap,rfl,hlc,hl,hA⟩:=hz.cells
  have hfl:=flN_den hcc h e1
  have hden:(SB.eq (flN cc H z) (.c 0)).den C.σ ρ=some (decide (flen C.σ zv=0)):=by simp [SB.den,hfl,SI.den]
  split
  ·exact nilV_ok h ht
  ·rename_i hd
   have:=dec_ok (bdOf_ok hcc h) h.facts hden hd
   rcases hA with hA | ⟨b,o,A,tt,g,rfl,_⟩
   ·rw [hl,hA] at this;simp at this
   ·exact nilN_ok h ht
  ·rename_i p hd
   exact ask_den (bdOf_ok hcc h) h.facts hden hd
 ·rename_i e ht
  simp only [SV.Is] at hx hy
  subst hy
  obtain ⟨a,rfl,_⟩:=hx
  exact nilV_ok h ht
 ·trivial
def opBuildE (cc:Cc) (H:Hp) (t:TypeId) (len:Nat) (ps:List (Nat×SV)):OpR:=
 match cc.P.underlying t with
 | some (.slice e)=>bif lmem cc.ow e then .bad 549 else (match aggOf cc.P e,len,ps with
   | some (_,sz),0,[]=>.val .fe H
   | _,_,_=>.bad 550)
 | _=>.bad 551
theorem opBuildE_ok (h:HpRel C hc w0 ρ H w) {t:TypeId} {len:Nat} {ps:List (Nat×SV)} {vs:Array (Nat×Value)} (hp:PartsRel C.σ ρ ps vs.toList):(opBuildE cc H t len ps).Ok cc C hc w0 ρ H w (do pure (.value (← Instr.buildSlice t len vs))):=by
 unfold opBuildE
 split
 ·rename_i e hu
  cases hb:lmem cc.ow e with
  | true=>trivial
  | false=>
    simp only [cond_false]
    split
    ·rename_i g sz ha
     obtain ⟨_,h2,_⟩:=aggOf_ok ha w
     have hv:vs=#[]:=by
      cases hvl:vs.toList with
      | nil=>exact Array.ext' hvl
      | cons a l=>rw [hvl] at hp;cases hp
     subst hv
     have hbel:Below w.heap.size w (w.alloc (.cells #[] e)):=(Below.refl _ w).alloc (Nat.le_refl _) _
     refine ⟨ρ,.value (.slice (some ⟨w.heap.size,0,none⟩) 0 0),.slice (some ⟨w.heap.size,0,none⟩) 0 0,w.alloc (.cells #[] e),Tn.of_below hbel,?_,.inl rfl,?_,h.below hbel⟩
     ·simp only [Instr.buildSlice,Sem.run_bind,Result.andThen_ok,underlying,run_program,hu,Sem.run_pure,h2]
      rw [if_neg (by omega)]
      simp [Instr.fill,newRow]
      congr 2
      exact Array.ext' (by simp)
     ·simp only [SV.Is];exact ⟨_,rfl,sl0 _⟩
    ·trivial
 ·trivial
def eqF (a b:SI):SB:=bif a.beq b then .c true else .ap 2 a b (.c 0) (.c 0) (.c 0) (.c 0)
def symBinF (cc:Cc) (H:Hp) (op:BinOp) (x y:SV):OpR:=
 match x,y with
 | .sf a,.sf b=>match op with
   | .eql=>.val (.bo (nrm cc H (eqF a b))) H
   | .neq=>.val (.bo (nrm cc H (.not (eqF a b)))) H
   | _=>.bad 540
 | _,_=>.bad 541
theorem symBinF_ok (hcc:cc.Ok C) (h:HpRel C hc w0 ρ H w) {op:BinOp} {x y:SV} {u v:Value} (t:TypeId) (ox oy:Operand) (hx:x.Is C.σ ρ u) (hy:y.Is C.σ ρ v) :
  (symBinF cc H op x y).Ok cc C hc w0 ρ H w (do pure (.value (← (do eqGuard op t ox oy u v;binOp op t u v)))):=by
 have cmp:∀ p c,p.den C.σ ρ=some c→∀ s:Sem Value,s.run cc.P w=.ok (.bool c) w→(OpR.val (.bo (nrm cc H p)) H).Ok cc C hc w0 ρ H w (do pure (.value (← s))):=fun p c hp s hs=>
  OpR.ok_pure h hs (by simp only [SV.Is];exact ⟨c,nrm_den hcc h hp,rfl⟩)
 unfold symBinF
 split
 ·rename_i a b
  simp only [SV.Is] at hx hy
  obtain ⟨av,a1,rfl⟩:=hx
  obtain ⟨bv,b1,rfl⟩:=hy
  have hg:(eqGuard op t ox oy (.string (bytesOf C.σ av)) (.string (bytesOf C.σ bv))).run cc.P w=.ok () w:=by rw [eqGuard_plain (by simp) (by simp)];rfl
  have hq:C.σ.fb 2 av bv 0 0 0 0=((bytesOf C.σ av).toList == (bytesOf C.σ bv).toList):=by
   have:=hcc.al.sq av bv
   rw [Bool.eq_iff_iff,this,beq_iff_eq]
   constructor
   ·intro e;rw [e]
   ·intro e
    rw [ByteArray.toList_eq,ByteArray.toList_eq] at e
    exact ByteArray.ext (Array.ext' e)
  have hden:(eqF a b).den C.σ ρ=some ((bytesOf C.σ av).toList == (bytesOf C.σ bv).toList):=by
   unfold eqF
   cases hab:a.beq b with
   | true=>
     have:=SI.beq_eq hab;subst this
     rw [a1] at b1;cases b1
     simp [SB.den]
   | false=>simp only [cond_false,SB.den,a1,b1,SI.den,Option.bind_some,hq]
  split
  ·exact cmp _ _ hden _ (by simp [hg,binOp,Op.stringOp])
  ·exact cmp _ (!((bytesOf C.σ av).toList == (bytesOf C.σ bv).toList)) (by simp only [SB.den] at hden ⊢;rw [hden];rfl) _ (by simp [hg,binOp,Op.stringOp])
  ·trivial
 ·trivial
def txtC (cc:Cc) (H:Hp) (b:ByteArray):Option SI:=
 match setsA cc H [.nt .u8] (bytesS b.data.toList) (.c 0) (.c 0) 0 with
 | .ok c=>some (frzS (.c (.ofNat b.size)) c)
 | _=>none
theorem txtC_ok (hcc:cc.Ok C) (h:HpRel C hc w0 ρ H w) {b:ByteArray} {y:SI} (hy:txtC cc H b=some y):(SV.sf y).Is C.σ ρ (.string b):=by
 unfold txtC at hy
 split at hy
 ·rename_i c hset
  cases hy
  have hbl:SV.IsL C.σ ρ (bytesS b.data.toList) (b.data.toList.map fun x=>Value.int .u8 x.toNat):=by
   unfold bytesS
   rw [lmap_eq]
   generalize b.data.toList=l
   induction l with
   | nil=>exact SV.isL_nil.2 rfl
   | cons a l ih=>exact SV.isL_cons.2 ⟨_,_,rfl,by simp only [SV.Is];exact ⟨_,rfl,rfl⟩,ih⟩
  obtain ⟨cv,c1,c2⟩:=setsA_ok hcc h hbl (c:=.c 0) (cv:=0) rfl (j:=.c 0) (jv:=0) rfl (by decide) hset
  have hbs:b.data.toList.length=b.size:=rfl
  obtain ⟨z,z1,z2,z3⟩:=frzS_ok hcc c1 (n:=.c (.ofNat b.size)) (nv:=b.size) rfl
  simp only [SV.Is]
  refine ⟨z,z1,?_⟩
  congr 1
  refine ByteArray.ext (Array.ext' (List.ext_getElem? fun j=>?_))
  unfold bytesOf
  rw [z2]
  simp only [Int.toNat_natCast,List.getElem?_map]
  by_cases hj:j < b.size
  ·have:=(c2 j 0 (.nt .u8) rfl).1 (by simp;omega)
   simp only [List.length_cons,List.length_nil,Nat.zero_add,Nat.mul_one,Nat.add_zero,Nat.zero_mul,Nat.sub_zero] at this
   obtain ⟨v,v1,v2⟩:=this
   have v2:v=(Kd.nt .u8).val C.σ cv j 0:=v2
   have hz:C.σ.fi (IntKind.u8).ctorIdx z j 0 0 0 0=C.σ.fi (IntKind.u8).ctorIdx cv j 0 0 0 0:=by
    have:=z3 (.nt .u8) j 0 (by decide)
    simpa [Kd.val] using this
   rw [List.getElem?_range hj]
   rw [List.getElem?_map] at v1
   obtain ⟨q,q1⟩:∃ q,b.data.toList[j]? = some q:=⟨b.data.toList[j]'(by rw [hbs];exact hj),List.getElem?_eq_getElem _⟩
   rw [q1] at v1 ⊢
   simp only [Option.map_some,Option.some.injEq] at v1 ⊢
   rw [v2] at v1
   simp only [Kd.val,Value.int.injEq,true_and] at v1
   have v1':(q.toNat:Int)=C.σ.fi (IntKind.u8).ctorIdx cv j 0 0 0 0:=v1
   rw [hz,← v1']
   simp
  ·rw [List.getElem?_eq_none (by rw [hbs];omega),List.getElem?_eq_none (by simp;omega)]
   rfl
 ·cases hy
def symBinG (cc:Cc) (H:Hp) (op:BinOp) (x y:SV):OpR:=
 match x,y with
 | .sf a,.st (.c b)=>match txtC cc H b with
   | some c=>symBinF cc H op (.sf a) (.sf c)
   | none=>.bad 542
 | _,_=>.bad 543
theorem symBinG_ok (hcc:cc.Ok C) (h:HpRel C hc w0 ρ H w) {op:BinOp} {x y:SV} {u v:Value} (t:TypeId) (ox oy:Operand) (hx:x.Is C.σ ρ u) (hy:y.Is C.σ ρ v) :
  (symBinG cc H op x y).Ok cc C hc w0 ρ H w (do pure (.value (← (do eqGuard op t ox oy u v;binOp op t u v)))):=by
 unfold symBinG
 split
 ·split
  ·rename_i c hc'
   simp only [SV.Is,SS.den] at hy
   subst hy
   exact symBinF_ok hcc h t ox oy hx (txtC_ok hcc h hc')
  ·trivial
 ·trivial
end
end
end Go.Sx
namespace Go.Sx
set_option linter.unusedVariables false
set_option linter.unusedSimpArgs false
open Go.RowKit
section
variable {cc:Cc} {C:Ct} {hc:Nat→Option Obj} {w0:World} {ρ ρ':Dyn} {H:Hp} {w:World}
noncomputable def opMakeMapL (cc:Cc) (H:Hp) (t:TypeId) (r:Option SV):OpR:=.bad 999
theorem opMakeMapL_ok (hcc:cc.Ok C) (h:HpRel C hc w0 ρ H w) {t:TypeId} {r:Option SV} {u:Option Value} (hr:OIs C.σ ρ r u):(opMakeMapL cc H t r).Ok cc C hc w0 ρ H w (do pure (.value (← Instr.makeMap t u))):=trivial
noncomputable def zeroV (cc:Cc) (t:TypeId):Option SV:=
 match cc.P.info? t with
 | some i=>match i.zero with
   | some z=>some (ofVal z)
   | none=>none
 | none=>none
noncomputable def opLookupL (cc:Cc) (H:Hp) (t:TypeId) (m x:SV) (ok:Bool):OpR:=.bad 999
theorem opLookupL_ok (hcc:cc.Ok C) (h:HpRel C hc w0 ρ H w) {t:TypeId} {m x:SV} {um ux:Value} (ok:Bool) (hm:m.Is C.σ ρ um) (hx:x.Is C.σ ρ ux):(opLookupL cc H t m x ok).Ok cc C hc w0 ρ H w (do pure (.value (← Instr.lookup t um ux ok))):=trivial
theorem EsRel.push {σ:Sta} {ρ:Dyn} {k v:SV} {n:Nat} {a b:Value} (hk:k.Is σ ρ a) (hv:v.Is σ ρ b):∀ {l:List (SV×SV×Nat)} {es:List MapEntry},EsRel σ ρ l es→EsRel σ ρ (lapp l [(k,v,n)]) (es++[({ key:=a,val:=b,born:=n }:MapEntry)])
 | [],es,h=>by cases h;exact ⟨_,_,rfl,hk,hv,rfl,rfl⟩
 | (k',v',n')::l,es,⟨e,r,h1,h2,h3,h4,h5⟩=>by
   subst h1
   exact ⟨e,r++_,rfl,h2,h3,h4,EsRel.push hk hv h5⟩
noncomputable def opMapUpL (cc:Cc) (H:Hp) (t:TypeId) (m x y:SV):OpR:=.bad 999
theorem opMapUpL_ok (hcc:cc.Ok C) (h:HpRel C hc w0 ρ H w) {t:TypeId} {m x y:SV} {um ux uy:Value} (hm:m.Is C.σ ρ um) (hx:x.Is C.σ ρ ux) (hy:y.Is C.σ ρ uy):(opMapUpL cc H t m x y).Ok cc C hc w0 ρ H w (do Instr.mapUpdate t um ux uy;pure .skip):=trivial
end
end Go.Sx
namespace Go.Sx
noncomputable section
set_option linter.unusedVariables false
set_option linter.unusedSimpArgs false
open Go.RowKit
section
variable {cc:Cc} {C:Ct} {hc:Nat→Option Obj} {w0:World} {ρ ρ':Dyn} {H:Hp} {w:World}
def evPs (T:List (Nat×SV)) (ps:Array (Nat×Operand)):List (Nat×SV):=lmap (fun p=>(p.1,ev T p.2)) ps.toList
theorem evPs_is {T:List (Nat×SV)} {e:Operand→Value} (h:EvOk C ρ T e) (ps:Array (Nat×Operand)):PartsRel C.σ ρ (evPs T ps) (ps.map fun (i,x)=>(i,e x)).toList:=by
 unfold evPs
 rw [lmap_eq,Array.toList_map]
 generalize ps.toList=l
 induction l with
 | nil=>simp [PartsRel]
 | cons a l ih=>exact ⟨e a.2,_,rfl,h a.2,ih⟩
def placeS (cc:Cc) (fs:Array Field) (i:Nat):Option (Nat×Nat):=
 match lnth fs.toList i with
 | some f=>some (f.offset,cc.P.cellsOf f.type)
 | none=>none
def opBuild (cc:Cc) (H:Hp) (t:TypeId) (ps:List (Nat×SV)):OpR:=
 match cc.P.underlying t,zeroCs cc t with
 | some (.struct fs),some z=>match lall (fun f=>(cc.P.info? f.type).isSome) fs.toList,sfill (placeS cc fs) z ps with
   | true,some l=>.val (.ag l) H
   | _,_=>.bad 70
 | some (.array _ e),some z=>match aggOf cc.P e with
   | some (_,sz)=>match sfill (fun i=>some (Nat.mul i sz,sz)) z ps with
     | some l=>.val (.ag l) H
     | none=>.bad 71
   | none=>.bad 72
 | _,_=>.bad 73
theorem run_placesS {fs:Array Field} (hfs:lall (fun f=>(cc.P.info? f.type).isSome) fs.toList=true) (w:World) :
  (fs.mapM (fun f=>do pure (f.offset,← sizeOf f.type):Field→Sem (Nat×Nat))).run cc.P w=.ok (fs.map fun f=>(f.offset,cc.P.cellsOf f.type)) w:=by
 have key:∀ l:List Field,(∀ f∈l,(cc.P.info? f.type).isSome=true)→(l.mapM (fun f=>do pure (f.offset,← sizeOf f.type):Field→Sem (Nat×Nat))).run cc.P w=.ok (l.map fun f=>(f.offset,cc.P.cellsOf f.type)) w:=by
  intro l
  induction l with
  | nil=>intro _;simp
  | cons f l ih=>
    intro hl
    have h1:=hl f (by simp)
    obtain ⟨i,hi⟩:=Option.isSome_iff_exists.1 h1
    have h2:=ih fun g hg=>hl g (by simp [hg])
    simp [List.mapM_cons,sizeOf,typeInfo,hi,h2,Program.cellsOf]
    simp [sizeOf,typeInfo] at h2
    simp [h2,Program.cellsOf]
 have:=key fs.toList (lall_iff.1 hfs)
 rw [Array.mapM_eq_mapM_toList]
 simp only [Sem.run_map,this,Result.andThen_ok]
 congr 1
 apply Array.ext'
 simp
theorem opBuild_ok (hcc:cc.Ok C) (h:HpRel C hc w0 ρ H w) {t:TypeId} {ps:List (Nat×SV)} {vs:Array (Nat×Value)} (hp:PartsRel C.σ ρ ps vs.toList):(opBuild cc H t ps).Ok cc C hc w0 ρ H w (do pure (.value (← Instr.build t vs))):=by
 unfold opBuild
 split
 ·rename_i fs z hu hz
  split
  ·rename_i l hfs hl
   obtain ⟨zv,e1,e2⟩:=zeroCs_ok (C:=C) (ρ:=ρ) hz w
   have hpl:(fun i=>(fs.map fun f=>(f.offset,cc.P.cellsOf f.type))[i]?)=placeS cc fs:=by
    funext i
    simp only [placeS,lnth_eq,Array.getElem?_map,Array.getElem?_toList]
    cases fs[i]? <;> rfl
   obtain ⟨B,e3,e4⟩:=sfill_ok e2 hp hl
   refine OpR.ok_pure h (u:=.agg B) ?_ (by simp only [SV.Is];exact ⟨B.toList,e4,by simp⟩)
   have hpl2:=run_placesS hfs w
   simp only [Instr.build,Sem.run_bind,e1,Result.andThen_ok,underlying,run_program,hu,Sem.run_pure,hpl2,hpl,e3]
  ·trivial
 ·rename_i n e z hu hz
  split
  ·rename_i g sz ha
   split
   ·rename_i l hl
    obtain ⟨zv,e1,e2⟩:=zeroCs_ok (C:=C) (ρ:=ρ) hz w
    obtain ⟨B,e3,e4⟩:=sfill_ok e2 hp hl
    obtain ⟨_,h2,_⟩:=aggOf_ok ha w
    have e3':Instr.fill (fun i=>some (i * sz,sz)) zv.cells vs.toList=some B:=e3
    refine OpR.ok_pure h (u:=.agg B) ?_ (by simp only [SV.Is];exact ⟨B.toList,e4,by simp⟩)
    simp only [Instr.build,Sem.run_bind,e1,Result.andThen_ok,underlying,run_program,hu,Sem.run_pure,h2,e3']
   ·trivial
  ·trivial
 ·trivial
def lrep {α:Type} (n:Nat) (a:α):List α:=Nat.rec (motive:=fun _=>List α) [] (fun _ ih=>a::ih) n
theorem lrep_eq {α:Type} (n:Nat) (a:α):lrep n a=List.replicate n a:=by
 induction n with
 | zero=>rfl
 | succ n ih=>show a::lrep n a=_;rw [ih];rfl
theorem isL_any:∀ (us:List Value),SV.IsL C.σ ρ (List.replicate us.length .any) us
 | []=>by simp [SV.isL_nil]
 | u::us=>SV.isL_cons.2 ⟨u,us,rfl,by simp [SV.Is],isL_any us⟩
def opBuildSlice (cc:Cc) (H:Hp) (t:TypeId) (len:Nat) (ps:List (Nat×SV)):OpR:=
 match cc.P.underlying t with
 | some (.slice e)=>match aggOf cc.P e,zeroCs cc e with
   | some (_,sz),some _=>bif Nat.ble (Nat.mul len sz) 16777216 then (match sfill (fun i=>some (Nat.mul i sz,sz)) (lrep (Nat.mul len sz) .any) ps with
     | some l=>.val (.sl (.n H.nb) (.c 0) (.c (.ofNat len)) (.c (.ofNat len))) (H.alloc (.cells l e))
     | none=>.bad 74) else .bad 75
   | _,_=>.bad 76
 | _=>.bad 77
theorem opBuildSlice_ok (h:HpRel C hc w0 ρ H w) {t:TypeId} {len:Nat} {ps:List (Nat×SV)} {vs:Array (Nat×Value)} (hp:PartsRel C.σ ρ ps vs.toList):(opBuildSlice cc H t len ps).Ok cc C hc w0 ρ H w (do pure (.value (← Instr.buildSlice t len vs))):=by
 unfold opBuildSlice
 split
 ·rename_i e hu
  split
  ·rename_i g sz z ha hz
   cases hb:Nat.ble (Nat.mul len sz) 16777216 with
   | false=>trivial
   | true=>
     have hle:len * sz≤16777216:=Nat.le_of_ble_eq_true hb
     dsimp only [cond_true]
     split
     ·rename_i l hl
      obtain ⟨zv,e1,_⟩:=zeroCs_ok (C:=C) (ρ:=ρ) hz w
      obtain ⟨_,h2,_⟩:=aggOf_ok ha w
      have hany:∀ z:Array Value,SV.IsL C.σ ρ (lrep (Nat.mul len sz) .any) ((Array.range (len * sz)).map (fun i=>z[i % z.size]!)).toList:=by
       intro z
       rw [lrep_eq]
       have:=isL_any (C:=C) (ρ:=ρ) ((Array.range (len * sz)).map (fun i=>z[i % z.size]!)).toList
       simpa using this
      obtain ⟨B,e3,e4⟩:=sfill_ok (hany (if len * sz=0 then #[] else zv.cells)) hp hl
      have e3':Instr.fill (fun i=>some (i * sz,sz)) ((Array.range (len * sz)).map (fun i=>(if len * sz=0 then #[] else zv.cells)[i % (if len * sz=0 then #[] else zv.cells).size]!)) vs.toList=some B:=e3
      have hle2:=h.le_alloc w.heap.size
      refine ⟨ρ.setBl H.nb w.heap.size,.value (.slice (some ⟨w.heap.size,0,none⟩) len len),.slice (some ⟨w.heap.size,0,none⟩) len len,w.alloc (.cells B e),Tn.of_alloc ρ H w _ _,?_,.inl rfl,?_,?_⟩
      ·simp only [Instr.buildSlice,Sem.run_bind,Result.andThen_ok,underlying,run_program,hu,Sem.run_pure,h2]
       rw [if_neg (by omega)]
       by_cases h0:len * sz=0
       ·simp only [h0,if_true,Sem.run_pure,Result.andThen_ok] at e3' ⊢
        simp only [e3',newRow,Sem.run_bind,run_newObj,Result.andThen_ok,Sem.run_pure]
        rfl
       ·simp only [h0,if_false,Sem.run_pure,Result.andThen_ok,Sem.run_bind,e1] at e3' ⊢
        simp only [e3',newRow,Sem.run_bind,run_newObj,Result.andThen_ok,Sem.run_pure]
        rfl
      ·simp only [SV.Is,SR.den];exact ⟨_,0,len,len,Dyn.setBl_same _ _ _,rfl,rfl,rfl,rfl⟩
      ·exact h.alloc' ⟨B.toList,SV.isL_mono hle2 _ _ e4,by simp⟩
     ·trivial
  ·trivial
 ·trivial
def opUn (cc:Cc) (H:Hp) (op:UnOp) (x:SV):OpR:=
 match op,x with
 | .not,.bo p=>.val (.bo (nrm cc H (.not p))) H
 | .neg,.it k a=>.val (.it k (SI.wr (bdOf cc H) k (SI.sub (.c 0) a))) H
 | .xor,.it k a=>.val (.it k (SI.bop (.bxor k) (.c (bif k.signed then -1 else kmax k)) a)) H
 | _,_=>.bad 80
theorem opUn_ok (hcc:cc.Ok C) (h:HpRel C hc w0 ρ H w) {op:UnOp} {x:SV} {u:Value} (hx:x.Is C.σ ρ u):(opUn cc H op x).Ok cc C hc w0 ρ H w (do pure (.value (← Op.unary op u))):=by
 unfold opUn
 split
 ·rename_i p
  simp only [SV.Is] at hx
  obtain ⟨b,e1,rfl⟩:=hx
  exact OpR.ok_pure h (u:=.bool !b) (by simp [Op.unary]) (by simp only [SV.Is];exact ⟨!b,nrm_den hcc h (by simp [SB.den,e1]),rfl⟩)
 ·rename_i k a
  simp only [SV.Is] at hx
  obtain ⟨n,e1,rfl⟩:=hx
  exact OpR.ok_pure h (u:=.int k (k.wrap (0 - n))) (by simp [Op.unary,Op.intArith]) (by simp only [SV.Is];exact ⟨_,SI.wr_den (bdOf_ok hcc h) (SI.sub_den rfl e1),rfl⟩)
 ·rename_i k a
  simp only [SV.Is] at hx
  obtain ⟨n,e1,rfl⟩:=hx
  refine OpR.ok_pure h (u:=.int k (IB.eval (.bxor k) (if k.signed then -1 else k.max) n)) (by simp [Op.unary,Op.intBits,IB.eval]) ?_
  simp only [SV.Is]
  refine ⟨_,SI.bop_den (f:=.bxor k) (a:=if k.signed then -1 else k.max) ?_ e1,rfl⟩
  rw [← kmax_eq]
  cases k.signed<;>rfl
 ·trivial
def opConv (cc:Cc) (H:Hp) (s d:TypeId) (x:SV):OpR:=
 match cc.P.underlying s,cc.P.underlying d,x with
 | some _,some (.int k),.it _ a=>.val (.it k (SI.wr (bdOf cc H) k a)) H
 | some .string,some .string,.st a=>.val (.st a) H
 | _,_,_=>.bad 81
theorem opConv_ok (hcc:cc.Ok C) (h:HpRel C hc w0 ρ H w) {s d:TypeId} {x:SV} {u:Value} (hx:x.Is C.σ ρ u):(opConv cc H s d x).Ok cc C hc w0 ρ H w (do pure (.value (← convert s d u))):=by
 unfold opConv
 split
 ·rename_i ds k k' a hs hd
  simp only [SV.Is] at hx
  obtain ⟨n,e1,rfl⟩:=hx
  refine OpR.ok_pure h (u:=.int k (k.wrap n)) ?_ (by simp only [SV.Is];exact ⟨_,SI.wr_den (bdOf_ok hcc h) e1,rfl⟩)
  simp only [convert,underlying,Sem.run_bind,run_program,Result.andThen_ok,hs,hd,Sem.run_pure,Conv.intToInt]
 ·rename_i a hs hd
  simp only [SV.Is] at hx
  subst hx
  refine OpR.ok_pure h (u:=.string (a.den C.σ)) ?_ (by simp [SV.Is])
  simp only [convert,underlying,Sem.run_bind,run_program,Result.andThen_ok,hs,hd,Sem.run_pure]
 ·trivial
def opExtract (H:Hp) (x:SV) (i:Nat):OpR:=
 match x with
 | .tp l=>match lnth l i with
   | some z=>.val z H
   | none=>.bad 82
 | _=>.bad 83
theorem opExtract_ok (h:HpRel C hc w0 ρ H w) {x:SV} {u:Value} {i:Nat} (hx:x.Is C.σ ρ u):(opExtract H x i).Ok cc C hc w0 ρ H w (do pure (.value (← Instr.extract u i))):=by
 unfold opExtract
 split
 ·split
  ·rename_i l z hz
   rw [lnth_eq] at hz
   simp only [SV.Is] at hx
   obtain ⟨us,e1,rfl⟩:=hx
   obtain ⟨v,e2,e3⟩:=SV.isL_get e1 hz
   exact OpR.ok_pure h (u:=v) (by simp [Instr.extract,e2]) e3
  ·trivial
 ·trivial
def orF (a b:OpR):OpR:=match a with | .bad _=>b | r=>r
theorem orF_ok {a b:OpR} {s:Sem Next} (ha:a.Ok cc C hc w0 ρ H w s) (hb:b.Ok cc C hc w0 ρ H w s):(orF a b).Ok cc C hc w0 ρ H w s:=by
 unfold orF
 split
 ·exact hb
 ·exact ha
def SV.nonNil:SV→Bool
 | .fs _ _ | .fe | .fp _ _ _ _ | .pt _ _ | .fn _ _ _ | .yl _ | .sl _ _ _ _ | .sn | .mp _ | .mn | .fc _ _=>true
 | _=>false
theorem nilCheck_ok {x:SV} {u:Value} (hx:x.Is C.σ ρ u) (hn:x.nonNil=true) :
  (match u with
  | .pointer none | .nilIface | .nilFunc=>(runtimePanic .nilDeref:Sem Next)
  | .func (.method name) first captured=>
    match (first[0]?:Option Value) with
    | some .nilIface=>runtimePanic .nilDeref
    | some (.iface t w)=>do
      if (← nilAhead ((← program).types.size+Made.depth) t w name) != some false then
       unsupported (.noEntry "op/nilCheck.the method's receiver behind this interface value is a nil pointer, or cannot be seen to be none, and the arguments act or may panic (ledger 612)")
      pure (.value (.func (.method name) first captured))
    | _=>pure (.value (.func (.method name) first captured))
  | x=>pure (.value x))=pure (Next.value u):=by
 cases x<;>simp only [SV.nonNil,Bool.false_eq_true] at hn<;>simp only [SV.Is] at hx
 case pt=>obtain ⟨_,_,_,_,rfl⟩:=hx;rfl
 case sl=>obtain ⟨_,_,_,_,_,_,_,_,rfl⟩:=hx;rfl
 case sn=>subst hx;rfl
 case mp=>obtain ⟨_,_,rfl⟩:=hx;rfl
 case mn=>subst hx;rfl
 case fn=>obtain ⟨_,_,_,_,rfl⟩:=hx;rfl
 case yl=>obtain ⟨_,_,rfl⟩:=hx;rfl
 case fc=>obtain ⟨_,_,rfl⟩:=hx;rfl
 case fs=>obtain ⟨_,_,hz⟩:=hx;cases hz<;>rfl
 case fe=>obtain ⟨_,rfl,_⟩:=hx;rfl
 case fp=>obtain ⟨_,_,_,_,_,_,_,_,_,_,rfl⟩:=hx;rfl
def opLen (cc:Cc) (H:Hp) (ts:Array TypeId) (xs:List SV):OpR:=
 match lnth ts.toList 0,xs with
 | some t,[x]=>match cc.P.underlying t,x with
   | some (.slice _),.sl _ _ l _=>.val (.it .i64 l) H
   | some (.slice _),.sn=>.val (.it .i64 (.c 0)) H
   | some (.array n _),_=>.val (.it .i64 (.c (.ofNat n))) H
   | some .string,.st (.c b)=>.val (.it .i64 (.c (.ofNat b.size))) H
   | some .string,.st (.v _)=>.val (.it .i64 (.d H.nd)) (H.num (.c 0))
   | some (.map _ _),.mn=>.val (.it .i64 (.c 0)) H
   | some (.map _ _),.mp (.n id)=>match get H.heap id with
     | some (.map es _)=>.val (.it .i64 (.c (.ofNat (llen es)))) H
     | some (.mapc _ _ c)=>.val (.it .i64 (lmS cc H c)) H
     | _=>.bad 90
   | _,_=>.bad 91
 | _,_=>.bad 92
theorem isL_one {x:SV} {us:List Value} (h:SV.IsL C.σ ρ [x] us):∃ u,us=[u]∧x.Is C.σ ρ u:=by
 rw [SV.isL_cons] at h
 obtain ⟨u,r,rfl,h1,h2⟩:=h
 rw [SV.isL_nil] at h2
 subst h2
 exact ⟨u,rfl,h1⟩
theorem EsRel.length:∀ {l:List (SV×SV×Nat)} {es:List MapEntry},EsRel C.σ ρ l es→es.length=l.length
 | [],_,h=>by cases h;rfl
 | (_,_,_)::l,_,⟨e,r,h1,_,_,_,h5⟩=>by subst h1;simp [EsRel.length h5]
theorem opLen_ok (hcc:cc.Ok C) (h:HpRel C hc w0 ρ H w) {ts:Array TypeId} {ty:TypeId} {xs:List SV} {us:List Value} (hx:SV.IsL C.σ ρ xs us):(opLen cc H ts xs).Ok cc C hc w0 ρ H w (do pure (.value (← Builtin.len_ ts ty us.toArray))):=by
 unfold opLen
 split
 ·rename_i t x ht
  obtain ⟨u,rfl,hu⟩:=isL_one hx
  rw [lnth_eq] at ht
  have ht':ts[0]? = some t:=by simpa using ht
  split
  ·rename_i e r o l c hd
   simp only [SV.Is] at hu
   obtain ⟨b,k,len,cap,e1,e2,e3,e4,rfl⟩:=hu
   refine OpR.ok_pure h (u:=.int .i64 len) ?_ (by simp only [SV.Is];exact ⟨_,e3,rfl⟩)
   simp [Builtin.len_,ht',underlying,hd,goInt]
  ·rename_i e hd
   simp only [SV.Is] at hu;subst hu
   refine OpR.ok_pure h (u:=.int .i64 0) ?_ (by simp only [SV.Is];exact ⟨_,rfl,rfl⟩)
   simp [Builtin.len_,ht',underlying,hd,goInt]
  ·rename_i m n e hd
   refine OpR.ok_pure h (u:=.int .i64 n) ?_ (by simp only [SV.Is];exact ⟨_,rfl,rfl⟩)
   simp [Builtin.len_,ht',underlying,hd,goInt]
  ·rename_i b hd
   simp only [SV.Is,SS.den] at hu;subst hu
   refine OpR.ok_pure h (u:=.int .i64 b.size) ?_ (by simp only [SV.Is];exact ⟨_,rfl,rfl⟩)
   simp [Builtin.len_,ht',underlying,hd,goInt]
  ·rename_i vi hd
   simp only [SV.Is,SS.den] at hu;subst hu
   refine ⟨ρ.setDi H.nd (C.σ.sv vi).size,.value (.int .i64 (C.σ.sv vi).size),.int .i64 (C.σ.sv vi).size,w,Tn.of_num ρ H w (.c 0) _,?_,.inl rfl,?_,h.num (k:=0) rfl (Nat.zero_le _)⟩
   ·simp [Builtin.len_,ht',underlying,hd,goInt]
   ·simp only [SV.Is,SI.den]
    exact ⟨_,by rw [Dyn.setDi_same];rfl,rfl⟩
  ·rename_i a b hd
   simp only [SV.Is] at hu;subst hu
   refine OpR.ok_pure h (u:=.int .i64 0) ?_ (by simp only [SV.Is];exact ⟨_,rfl,rfl⟩)
   simp [Builtin.len_,ht',underlying,hd,goInt]
  ·rename_i a b id hd
   split
   ·rename_i es cl hg
    simp only [SV.Is] at hu
    obtain ⟨b',e1,rfl⟩:=hu
    obtain ⟨b2,o,e2,e3,l,e4,rfl⟩:=h.blk id _ hg rfl
    have:b2=b':=by simp only [SR.den] at e1;rw [e2] at e1;exact Option.some.inj e1
    subst this
    refine OpR.ok_pure h (u:=.int .i64 l.length) ?_ ?_
    ·simp [Builtin.len_,ht',underlying,hd,goInt,getObj,Sem.run,e3]
    ·simp only [SV.Is];exact ⟨_,rfl,by rw [EsRel.length e4,llen_eq];rfl⟩
   ·rename_i kk vk c hg
    simp only [SV.Is] at hu
    obtain ⟨b',e1,rfl⟩:=hu
    obtain ⟨b2,o,e2,e3,cv,l,clock,e4,hmp,rfl⟩:=h.blk id _ hg rfl
    have:b2=b':=by simp only [SR.den] at e1;rw [e2] at e1;exact Option.some.inj e1
    subst this
    refine OpR.ok_pure h (u:=.int .i64 l.length) ?_ ?_
    ·simp [Builtin.len_,ht',underlying,hd,goInt,getObj,Sem.run,e3]
    ·simp only [SV.Is];exact ⟨_,lmS_den hcc h e4,by rw [hmp.len]⟩
   ·trivial
  ·trivial
 ·trivial
def opMinMax (cc:Cc) (H:Hp) (f:IB) (xs:List SV):OpR:=
 match xs with
 | [.it k a,.it _ b]=>.val (.it k (SI.bop f a b)) H
 | _=>.bad 93
def opCap (cc:Cc) (H:Hp) (ts:Array TypeId) (xs:List SV):OpR:=
 match lnth ts.toList 0,xs with
 | some t,[x]=>match cc.P.underlying t,x with
   | some (.slice _),.sl _ _ _ c=>.val (.it .i64 c) H
   | some (.slice _),.sn=>.val (.it .i64 (.c 0)) H
   | _,_=>.bad 94
 | _,_=>.bad 95
theorem isL_two {x y:SV} {us:List Value} (h:SV.IsL C.σ ρ [x,y] us):∃ u v,us=[u,v]∧x.Is C.σ ρ u∧y.Is C.σ ρ v:=by
 rw [SV.isL_cons] at h
 obtain ⟨u,r,rfl,h1,h2⟩:=h
 obtain ⟨v,rfl,h3⟩:=isL_one h2
 exact ⟨u,v,rfl,h1,h3⟩
theorem opMin_ok (h:HpRel C hc w0 ρ H w) {ts:Array TypeId} {ty:TypeId} {xs:List SV} {us:List Value} (hx:SV.IsL C.σ ρ xs us):(opMinMax cc H .imin xs).Ok cc C hc w0 ρ H w (do pure (.value (← Builtin.min_ ts ty us.toArray))):=by
 unfold opMinMax
 split
 ·rename_i k a k' b
  obtain ⟨u,v,rfl,hu,hv⟩:=isL_two hx
  simp only [SV.Is] at hu hv
  obtain ⟨x,e1,rfl⟩:=hu
  obtain ⟨y,e2,rfl⟩:=hv
  exact OpR.ok_pure h (u:=.int k (IB.eval .imin x y)) (run_min_int2 w ts ty k k' x y) (by simp only [SV.Is];exact ⟨_,SI.bop_den (f:=.imin) e1 e2,rfl⟩)
 ·trivial
theorem opMax_ok (h:HpRel C hc w0 ρ H w) {ts:Array TypeId} {ty:TypeId} {xs:List SV} {us:List Value} (hx:SV.IsL C.σ ρ xs us):(opMinMax cc H .imax xs).Ok cc C hc w0 ρ H w (do pure (.value (← Builtin.max_ ts ty us.toArray))):=by
 unfold opMinMax
 split
 ·rename_i k a k' b
  obtain ⟨u,v,rfl,hu,hv⟩:=isL_two hx
  simp only [SV.Is] at hu hv
  obtain ⟨x,e1,rfl⟩:=hu
  obtain ⟨y,e2,rfl⟩:=hv
  exact OpR.ok_pure h (u:=.int k (IB.eval .imax x y)) (run_max_int2 w ts ty k k' x y) (by simp only [SV.Is];exact ⟨_,SI.bop_den (f:=.imax) e1 e2,rfl⟩)
 ·trivial
theorem opCap_ok (h:HpRel C hc w0 ρ H w) {ts:Array TypeId} {ty:TypeId} {xs:List SV} {us:List Value} (hx:SV.IsL C.σ ρ xs us):(opCap cc H ts xs).Ok cc C hc w0 ρ H w (do pure (.value (← Builtin.cap_ ts ty us.toArray))):=by
 unfold opCap
 split
 ·rename_i t x ht
  obtain ⟨u,rfl,hu⟩:=isL_one hx
  rw [lnth_eq] at ht
  have ht':ts[0]? = some t:=by simpa using ht
  split
  ·rename_i e r o l c hd
   simp only [SV.Is] at hu
   obtain ⟨b,k,len,cap,e1,e2,e3,e4,rfl⟩:=hu
   refine OpR.ok_pure h (u:=.int .i64 cap) ?_ (by simp only [SV.Is];exact ⟨_,e4,rfl⟩)
   simp [Builtin.cap_,ht',underlying,hd,goInt]
  ·rename_i e hd
   simp only [SV.Is] at hu;subst hu
   refine OpR.ok_pure h (u:=.int .i64 0) ?_ (by simp only [SV.Is];exact ⟨_,rfl,rfl⟩)
   simp [Builtin.cap_,ht',underlying,hd,goInt]
  ·trivial
 ·trivial
def opCallV (cc:Cc) (H:Hp) (f:SV) (args:List SV):OpR:=
 match f with
 | .fn g a c=>match cc.P.funcs[g]? with
   | some fn=>match fn.body with
     | some _=>.enter g (lapp a (lapp args c))
     | none=>bif isOv fn then opOv cc H fn (lapp a (lapp args c)) else .bad 100
   | none=>.bad 101
 | .yl id=>.round id args
 | _=>.bad 102
theorem opCallV_ok (hcc:cc.Ok C) (h:HpRel C hc w0 ρ H w) {f:SV} {fv:Value} {args:List SV} {us:List Value} (hf:f.Is C.σ ρ fv) (ha:SV.IsL C.σ ρ args us) :
  (opCallV cc H f args).Ok cc C hc w0 ρ H w (do let d ← Deferred.ofValue fv us.toArray;invoke d.target d.args):=by
 unfold opCallV
 split
 ·rename_i g a c
  simp only [SV.Is] at hf
  obtain ⟨as,cs,e1,e2,rfl⟩:=hf
  split
  ·rename_i fn hfn
   split
   ·rename_i b hb
    refine ⟨as++(us++cs),?_,by rw [lapp_eq,lapp_eq];exact SV.isL_append e1 (SV.isL_append ha e2),fn,b,hfn,hb⟩
    have hnm:=hcc.names g fn hfn
    simp only [Deferred.ofValue,invoke,callFunc,Sem.run_bind,Sem.run_pure,Result.andThen_ok,run_program,hfn,hnm,hb,Option.isNone_some,Bool.false_eq_true,if_false]
    simp
   ·cases hov:isOv fn with
    | false=>trivial
    | true=>
      refine OpR.ok_congr (opOv_ok hcc h hfn hov (us:=as++(us++cs)) (by rw [lapp_eq,lapp_eq];exact SV.isL_append e1 (SV.isL_append ha e2))) ?_
      simp [Deferred.ofValue,invoke]
  ·trivial
 ·rename_i id
  simp only [SV.Is] at hf
  obtain ⟨b,e1,rfl⟩:=hf
  exact ⟨b,us,e1,by simp [Deferred.ofValue,invoke],ha⟩
 ·trivial
def opBuiltin (cc:Cc) (H:Hp) (b:Builtin) (ts:Array TypeId) (xs:List SV):OpR:=
 match b with
 | .len=>orF (opLen cc H ts xs) (opLenF cc H ts xs)
 | .cap=>opCap cc H ts xs
 | .min=>opMinMax cc H .imin xs
 | .max=>opMinMax cc H .imax xs
 | .append=>opAppendC cc H ts xs
 | .copy=>opCopyB cc H ts xs
 | .delete=>opDelM cc H ts xs
 | .clear=>opClearB cc H ts xs
 | _=>.bad 103
def opMkI (cc:Cc) (H:Hp) (t:TypeId) (x:SV):OpR:=
 match cc.P.underlying t with
 | some (.interface _)=>.bad 118
 | some _=>.val (.fc t x) H
 | none=>.bad 118
def opTA (cc:Cc) (H:Hp) (x:SV) (a:TypeId) (ok:Bool):OpR:=
 match x,ok with
 | .fc t z,true=>bif Nat.beq t a then (match cc.P.underlying a with
   | some (.interface _)=>.bad 119
   | some _=>.val (.tp [z,.bo (.c true)]) H
   | none=>.bad 119) else .bad 119
 | _,_=>.bad 119
theorem opMkI_ok (h:HpRel C hc w0 ρ H w) {t:TypeId} {x:SV} {u:Value} (hx:x.Is C.σ ρ u):(opMkI cc H t x).Ok cc C hc w0 ρ H w (do pure (.value (← Instr.makeInterface t u))):=by
 unfold opMkI
 split
 ·trivial
 ·rename_i d hne hd
  refine OpR.ok_pure h (u:=.iface t u) ?_ (by simp only [SV.Is];exact ⟨u,hx,rfl⟩)
  cases d<;>first | (exact (hne _ rfl).elim) | simp [Instr.makeInterface,underlying,hd]
 ·trivial
theorem opTA_ok (h:HpRel C hc w0 ρ H w) {xt a:TypeId} {ok:Bool} {x:SV} {u:Value} (hx:x.Is C.σ ρ u):(opTA cc H x a ok).Ok cc C hc w0 ρ H w (do pure (.value (← Instr.typeAssert u xt a ok))):=by
 unfold opTA
 split
 ·rename_i t z
  obtain ⟨y,h1,rfl⟩:=hx
  cases hb:Nat.beq t a with
  | false=>trivial
  | true=>
    have:=Nat.eq_of_beq_eq_true hb
    subst this
    simp only [cond_true]
    split
    ·trivial
    ·rename_i d hne hd
     refine OpR.ok_pure h (u:=.tuple #[y,.bool true]) ?_ (by simp only [SV.Is];exact ⟨[y,.bool true],SV.isL_cons.2 ⟨_,_,rfl,h1,SV.isL_cons.2 ⟨_,_,rfl,by simp only [SV.Is];exact ⟨true,rfl,rfl⟩,SV.isL_nil.2 rfl⟩⟩,rfl⟩)
     cases d<;>first | (exact (hne _ rfl).elim) | simp [Instr.typeAssert,underlying,hd]
    ·trivial
 ·trivial
def symOp (cc:Cc) (H:Hp) (T:List (Nat×SV)) (op:Op):OpR:=
 match op with
 | .move x=>.val (ev T x) H
 | .assign x=>.val (ev T x) H
 | .pick c a b=>match ev T c with
   | .bo p=>match dec (bdOf cc H) H.facts p with
     | .yes true=>.val (ev T a) H
     | .yes false=>.val (ev T b) H
     | .ask q=>.ask q
   | _=>.bad 110
 | .alloc t=>opAlloc cc H t
 | .box t x=>newV H t (ev T x)
 | .build t ps=>opBuild cc H t (evPs T ps)
 | .buildSlice t n ps=>orF (opBuildE cc H t n (evPs T ps)) (opBuildSlice cc H t n (evPs T ps))
 | .load t a=>match ev T a with
   | .pt r o=>match lodV cc H t r o with
     | some z=>.val z H
     | none=>lodA cc H t r o
   | .fp i y j f=>lodF cc H t i y j f
   | _=>.bad 112
 | .store t a x=>match ev T a with
   | .pt r o=>match stoV cc H t r o (ev T x) with
     | some H'=>.val (.tp []) H'
     | none=>stoA cc H t r o (ev T x)
   | _=>.bad 114
 | .nilCheck x=>bif (ev T x).nonNil then .val (ev T x) H else .bad 115
 | .binOp op t x y _=>orF (symBin cc H op t (ev T x) (ev T y)) (orF (symBinF cc H op (ev T x) (ev T y)) (orF (symBinG cc H op (ev T x) (ev T y)) (opNilF cc H op t (ev T x) (ev T y))))
 | .unOp op _ x=>opUn cc H op (ev T x)
 | .convert s d x=>orF (opConv cc H s d (ev T x)) (orF (opConvF cc H s d (ev T x)) (opConvW cc H s d (ev T x)))
 | .makeFunc (.func f) a c=>.val (.fn f (evs T a) (evs T c)) H
 | .makeMap t r=>orF (opMakeMap cc H t (r.map (ev T))) (opMakeMapL cc H t (r.map (ev T)))
 | .makeSlice t l c=>opMakeS cc H t (ev T l) (ev T c)
 | .lookup t m x ok=>orF (opLookup cc H t (ev T m) (ev T x) ok) (opLookupL cc H t (ev T m) (ev T x) ok)
 | .range t x=>opRange cc H t (ev T x)
 | .next it isS=>opNext cc H (ev T it) isS
 | .entry it=>opEntry cc H (ev T it)
 | .mapUpdate t m k x=>orF (opMapUp cc H t (ev T m) (ev T k) (ev T x)) (opMapUpL cc H t (ev T m) (ev T k) (ev T x))
 | .insert t m k x=>opMapUpL cc H t (ev T m) (ev T k) (ev T x)
 | .slice t x lo hi mx=>orF (opSliceE cc H t (ev T x) (lo.map (ev T)) (hi.map (ev T)) (mx.map (ev T))) (orF (opSlice cc H t (ev T x) (lo.map (ev T)) (hi.map (ev T)) (mx.map (ev T))) (opSliceF cc H t (ev T x) (lo.map (ev T)) (hi.map (ev T)) (mx.map (ev T))))
 | .fieldAddr t x f=>orF (opField cc H t (ev T x) f) (opFieldF cc H t (ev T x) f)
 | .field t x f=>opGetField cc H t (ev T x) f
 | .indexAddr t x i=>orF (opIndexAddr cc H t (ev T x) (ev T i)) (opIndexAddrF cc H t (ev T x) (ev T i))
 | .index t x i=>opIndex cc H t (ev T x) (ev T i)
 | .extract x i=>opExtract H (ev T x) i
 | .makeInterface t x=>opMkI cc H t (ev T x)
 | .typeAssert x _ a ok=>opTA cc H (ev T x) a ok
 | .call c=>match c.callee with
   | .value f=>opCallV cc H (ev T f) (evs T c.args)
   | .builtin b=>opBuiltin cc H b c.argTypes (evs T c.args)
   | .invoke _ _=>.bad 116
 | _=>.bad 117
theorem OIs_map {T:List (Nat×SV)} {e:Operand→Value} (h:EvOk C ρ T e) (x:Option Operand):OIs C.σ ρ (x.map (ev T)) (x.map e):=by
 cases x with
 | none=>trivial
 | some x=>exact h x
theorem symOp_ok (hcc:cc.Ok C) (h:HpRel C hc w0 ρ H w) {T:List (Nat×SV)} {e:Operand→Value} (he:EvOk C ρ T e) (o:Oper):(symOp cc H T o.op).Ok cc C hc w0 ρ H w (execOp e o):=by
 unfold symOp execOp
 cases ho:o.op with
 | move x=>exact ⟨ρ,.value (e x),e x,w,Tn.refl ρ H w,rfl,.inl rfl,he x,h⟩
 | assign x=>exact ⟨ρ,.value (e x),e x,w,Tn.refl ρ H w,rfl,.inl rfl,he x,h⟩
 | pick c a b=>
   dsimp only
   have hcv:=he c
   split
   ·rename_i p hp
    rw [hp] at hcv
    simp only [SV.Is] at hcv
    obtain ⟨x,e1,e2⟩:=hcv
    split
    ·rename_i hd
     have:=dec_ok (bdOf_ok hcc h) h.facts e1 hd;subst this
     exact ⟨ρ,.value (e a),e a,w,Tn.refl ρ H w,by simp [e2,asBool],.inl rfl,he a,h⟩
    ·rename_i hd
     have:=dec_ok (bdOf_ok hcc h) h.facts e1 hd;subst this
     exact ⟨ρ,.value (e b),e b,w,Tn.refl ρ H w,by simp [e2,asBool],.inl rfl,he b,h⟩
    ·rename_i q hd
     exact ask_den (bdOf_ok hcc h) h.facts e1 hd
   ·trivial
 | alloc t=>exact opAlloc_ok h t
 | box t x=>exact newV_ok h (he x)
 | build t ps=>exact opBuild_ok hcc h (evPs_is he ps)
 | buildSlice t n ps=>exact orF_ok (opBuildE_ok h (evPs_is he ps)) (opBuildSlice_ok h (evPs_is he ps))
 | load t a=>
   dsimp only
   have hcv:=he a
   split
   ·rename_i r ofs hp
    rw [hp] at hcv
    simp only [SV.Is] at hcv
    obtain ⟨b,k,e1,e2,e3⟩:=hcv
    split
    ·rename_i z hz
     obtain ⟨u,e4,e5⟩:=lodV_ok hcc h e1 e2 hz
     exact OpR.ok_pure h (u:=u) (by simp [Instr.loadAt,e3,Instr.sureAddr,e4]) e5
    ·exact OpR.ok_congr (lodA_ok hcc h e1 e2) (by simp [Instr.loadAt,e3,Instr.sureAddr])
   ·rename_i i y j f hp
    rw [hp] at hcv
    exact lodF_ok hcc h hcv
   ·trivial
 | store t a x=>
   dsimp only
   have hcv:=he a
   split
   ·rename_i r ofs hp
    rw [hp] at hcv
    simp only [SV.Is] at hcv
    obtain ⟨b,k,e1,e2,e3⟩:=hcv
    split
    ·rename_i H' hz
     obtain ⟨w',e4,e5,e6⟩:=stoV_ok h e1 e2 (he x) hz
     refine ⟨ρ,.skip,undef,w',e6,by simp [Instr.storeAt,e3,Instr.sureAddr,e4],.inr ⟨rfl,rfl⟩,?_,e5⟩
     simp only [SV.Is];exact ⟨[],SV.isL_nil.2 rfl,rfl⟩
    ·exact OpR.ok_congr (stoA_ok hcc h e1 e2 (he x)) (by simp [Instr.storeAt,e3,Instr.sureAddr])
   ·trivial
 | nilCheck x=>
   dsimp only
   cases hn:(ev T x).nonNil with
   | false=>trivial
   | true=>
     have:=nilCheck_ok (he x) hn
     refine OpR.ok_congr (s':=pure (Next.value (e x))) ?_ ?_
     ·exact ⟨ρ,.value (e x),e x,w,Tn.refl ρ H w,rfl,.inl rfl,he x,h⟩
     ·exact congrArg (fun s=>Sem.run cc.P s w) this
 | binOp op t x y t'=>exact orF_ok (symBin_ok hcc h t x y (he x) (he y)) (orF_ok (symBinF_ok hcc h t x y (he x) (he y)) (orF_ok (symBinG_ok hcc h t x y (he x) (he y)) (opNilF_ok hcc h t x y (he x) (he y))))
 | unOp op t x=>exact opUn_ok hcc h (he x)
 | convert s d x=>exact orF_ok (opConv_ok hcc h (he x)) (orF_ok (opConvF_ok hcc h (he x)) (opConvW_ok hcc h (he x)))
 | makeFunc f a c=>
   cases f with
   | func g=>
     refine OpR.ok_pure h (u:=.func (.func g) (a.map e) (c.map e)) rfl ?_
     simp only [SV.Is]
     exact ⟨_,_,evs_is he a,evs_is he c,by rw [Array.toArray_toList,Array.toArray_toList]⟩
   | _=>trivial
 | makeMap t r=>exact orF_ok (opMakeMap_ok hcc h (OIs_map he r)) (opMakeMapL_ok hcc h (OIs_map he r))
 | lookup t m x ok=>
   exact orF_ok (opLookup_ok hcc h ok (he m) (he x)) (opLookupL_ok hcc h ok (he m) (he x))
 | insert t m k x=>exact opMapUpL_ok hcc h (he m) (he k) (he x)
 | mapUpdate t m k x=>exact orF_ok (opMapUp_ok hcc h (he m) (he k) (he x)) (opMapUpL_ok hcc h (he m) (he k) (he x))
 | range t x=>exact opRange_ok hcc h (he x)
 | next it isS=>exact opNext_ok hcc h isS o.type (he it)
 | entry it=>exact opEntry_ok hcc h (he it)
 | makeSlice t l c=>exact opMakeS_ok hcc h (he l) (he c)
 | slice t x lo hi mx=>exact orF_ok (opSliceE_ok h (he x) (OIs_map he lo) (OIs_map he hi) (OIs_map he mx)) (orF_ok (opSlice_ok hcc h (he x) (OIs_map he lo) (OIs_map he hi) (OIs_map he mx)) (opSliceF_ok hcc h (he x) (OIs_map he lo) (OIs_map he hi) (OIs_map he mx)))
 | fieldAddr t x f=>exact orF_ok (opField_ok h (he x)) (opFieldF_ok h (he x))
 | field t x f=>exact opGetField_ok h (he x)
 | indexAddr t x i=>exact orF_ok (opIndexAddr_ok hcc h (he x) (he i)) (opIndexAddrF_ok hcc h (he x) (he i))
 | index t x i=>exact opIndex_ok hcc h (he x) (he i)
 | extract x i=>exact opExtract_ok h (he x)
 | makeInterface t x=>exact opMkI_ok h (he x)
 | typeAssert x xt a ok=>exact opTA_ok h (he x)
 | call c=>
   dsimp only
   cases hcl:c.callee with
   | value f=>
     dsimp only
     have:=opCallV_ok (hc:=hc) (w0:=w0) (w:=w) (H:=H) hcc h (he f) (evs_is he c.args)
     refine OpR.ok_congr this ?_
     simp only [resolve,hcl,Array.toArray_toList]
   | builtin b=>
     dsimp only
     unfold opBuiltin
     have hargs:=evs_is he c.args
     split
     ·refine OpR.ok_congr (orF_ok (opLen_ok (ty:=o.type) hcc h hargs) (opLenF_ok (ty:=o.type) hcc h hargs)) ?_
      simp only [resolve,hcl,invoke,builtin,Array.toArray_toList,Sem.run_bind,Sem.run_pure,Result.andThen_ok]
     ·refine OpR.ok_congr (opCap_ok (ty:=o.type) h hargs) ?_
      simp only [resolve,hcl,invoke,builtin,Array.toArray_toList,Sem.run_bind,Sem.run_pure,Result.andThen_ok]
     ·refine OpR.ok_congr (opMin_ok (ts:=c.argTypes) (ty:=o.type) h hargs) ?_
      simp only [resolve,hcl,invoke,builtin,Array.toArray_toList,Sem.run_bind,Sem.run_pure,Result.andThen_ok]
     ·refine OpR.ok_congr (opMax_ok (ts:=c.argTypes) (ty:=o.type) h hargs) ?_
      simp only [resolve,hcl,invoke,builtin,Array.toArray_toList,Sem.run_bind,Sem.run_pure,Result.andThen_ok]
     ·refine OpR.ok_congr (opAppendC_ok (ts:=c.argTypes) (ty:=o.type) hcc h hargs) ?_
      simp only [resolve,hcl,invoke,builtin,Array.toArray_toList,Sem.run_bind,Sem.run_pure,Result.andThen_ok]
     ·refine OpR.ok_congr (opCopyB_ok (ts:=c.argTypes) (ty:=o.type) hcc h hargs) ?_
      simp only [resolve,hcl,invoke,builtin,Array.toArray_toList,Sem.run_bind,Sem.run_pure,Result.andThen_ok]
     ·refine OpR.ok_congr (opDelM_ok (ts:=c.argTypes) (ty:=o.type) hcc h hargs) ?_
      simp only [resolve,hcl,invoke,builtin,Array.toArray_toList,Sem.run_bind,Sem.run_pure,Result.andThen_ok]
     ·refine OpR.ok_congr (opClearB_ok (ts:=c.argTypes) (ty:=o.type) hcc h hargs) ?_
      simp only [resolve,hcl,invoke,builtin,Array.toArray_toList,Sem.run_bind,Sem.run_pure,Result.andThen_ok]
     ·trivial
   | invoke r m=>trivial
 | _=>trivial
end
end
end Go.Sx
