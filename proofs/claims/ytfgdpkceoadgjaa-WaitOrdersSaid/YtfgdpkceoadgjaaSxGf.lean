/- A symbolic executor: slices that are made; whether two own slices overlap. -/
import Derived.Test.YtfgdpkceoadgjaaSxGe
import Derived.Laws.MakeOwn
namespace Go.Sx
set_option linter.unusedSectionVars false
set_option linter.unusedVariables false
set_option linter.unusedSimpArgs false
open Go.RowKit
section
variable {cc:Cc} {C:Ct} {hc:Nat→Option Obj} {w0:World} {ρ:Dyn} {H:Hp} {w:World}
noncomputable def opMakeS (cc:Cc) (H:Hp) (t:TypeId) (l c:SV):OpR:=
 match l,c with
 | .it _ n,.it _ m=>bif n.beq m then
   (match cc.P.underlying t with
   | some (.slice e)=>match cc.P.info? e,layT cc.P 6 e with
     | some i,some lay=>match i.zero with
       | some z=>bif Nat.blt 0 (llen lay) && (Nat.beq (llen lay) i.size && (zcs lay z.cells.toList && fitsB cc H n i.bytes)) then
         (match dec (bdOf cc H) H.facts (.le (.c 0) n) with
         | .yes true=>.val (.sl (.n H.nb) (.c 0) n n) (H.alloc (.arr lay (.c 0) n e n))
         | .yes false=>.bad 370
         | .ask p=>.ask p) else .bad 371
       | none=>.bad 372
     | _,_=>.bad 373
   | _=>.bad 374)
   else .bad 375
 | _,_=>.bad 376
theorem opMakeS_ok (hcc:cc.Ok C) (h:HpRel C hc w0 ρ H w) {t:TypeId} {l c:SV} {u v:Value} (hl:l.Is C.σ ρ u) (hcv:c.Is C.σ ρ v):(opMakeS cc H t l c).Ok cc C hc w0 ρ H w (do pure (.value (← Instr.makeSlice t u v))):=by
 unfold opMakeS
 split
 ·rename_i kl n kc m
  cases hnm:n.beq m with
  | false=>trivial
  | true=>
    have:=SI.beq_eq hnm
    subst this
    simp only [cond_true]
    simp only [SV.Is] at hl hcv
    obtain ⟨x,e1,rfl⟩:=hl
    obtain ⟨y,e2,rfl⟩:=hcv
    rw [e1] at e2
    cases e2
    split
    ·rename_i e hu
     split
     ·rename_i i lay hi hlay
      split
      ·rename_i z hz
       cases hck:(Nat.blt 0 (llen lay) && (Nat.beq (llen lay) i.size && (zcs lay z.cells.toList && fitsB cc H n i.bytes))) with
       | false=>trivial
       | true=>
         simp only [Bool.and_eq_true] at hck
         obtain ⟨q1,q2,q3,q4⟩:=hck
         rw [llen_eq] at q1 q2
         have hl0:0 < lay.length:=by simpa [Nat.blt_eq] using q1
         have hli:=Nat.eq_of_beq_eq_true q2
         have hle:(SB.le (.c 0) n).den C.σ ρ=some (decide ((0:Int)≤x)):=by simp [SB.den,SI.den,e1]
         simp only [cond_true]
         split
         ·rename_i hd
          have hx0:(0:Int)≤x:=by simpa using (dec_ok (bdOf_ok hcc h) h.facts hle hd).symm
          obtain ⟨k,rfl⟩:∃ k:Nat,x=Int.ofNat k:=⟨x.toNat,by show x=(x.toNat:Int);omega⟩
          obtain ⟨f1,f2⟩:=fitsB_ok hcc h e1 q4
          have hb:(i.bytes:Int) * (k:Int)≤281474976710656:=by
           have:((k * i.bytes:Nat):Int)≤140737488355328:=Int.ofNat_le.2 f2
           rw [Int.natCast_mul,Int.mul_comm] at this;omega
          have hr:=run_make (P:=cc.P) w t e i z hu hi hz kl kc k k hx0 (Int.le_refl _) hb (by omega)
          simp only [Int.toNat_natCast] at hr
          obtain ⟨z1,z2,z3⟩:=zero_cells (z:=z.cells) (n:=k) q3 hl0
          have hzs:z.cells.size=i.size:=by
           have:=(zcs_ok q3).1
           rw [← hli];simpa using this
          have hmz:madeCells z.cells (k * i.size)=Builtin.zeroCells z.cells k:=by unfold madeCells Builtin.zeroCells;rw [hzs]
          rw [hmz] at hr
          have hle2:=h.le_alloc w.heap.size
          refine ⟨ρ.setBl H.nb w.heap.size,.value (.slice (some ⟨w.heap.size,0,none⟩) k k),.slice (some ⟨w.heap.size,0,none⟩) k k,w.alloc (.cells (Builtin.zeroCells z.cells k) e),Tn.of_alloc ρ H w _ _,?_,.inl rfl,?_,?_⟩
          ·have hr':Sem.run cc.P (Instr.makeSlice t (.int kl (Int.ofNat k)) (.int kc (Int.ofNat k))) w=_:=hr
           simp only [Sem.run_bind,hr',Result.andThen_ok,Sem.run_pure]
          ·simp only [SV.Is,SR.den];exact ⟨_,0,k,k,Dyn.setBl_same _ _ _,rfl,SI.den_mono hle2 _ _ e1,SI.den_mono hle2 _ _ e1,rfl⟩
          ·refine h.alloc' ⟨0,k,k,_,rfl,SI.den_mono hle2 _ _ e1,SI.den_mono hle2 _ _ e1,Nat.le_refl _,?_,fun j hj f κ hκ=>?_,rfl⟩
           ·rw [← Array.length_toList,z1]
           ·have:=z2 j hj f κ hκ
            rw [hcc.al.z,Nat.zero_add]
            rw [Array.getElem?_toList] at this
            exact this
         ·trivial
         ·rename_i p hd
          exact ask_den (bdOf_ok hcc h) h.facts hle hd
      ·trivial
     ·trivial
    ·trivial
 ·trivial
theorem run_append_zeros {P:Program} {w:World} (t t' ty e:TypeId) {ki:IntKind} (i:TypeInfo) (z:Value) (ht:P.underlying t=some (.slice e)) (ht':P.underlying t'=some (.int ki)) (hi:P.info? e=some i) (hz:i.zero=some z) (hzs:z.cells.size=i.size) (s:Option Addr) (n cap:Nat) (k:IntKind) (m:Nat) (olds:List Value)
  (hfo:(Builtin.firstCells i.size n (.slice s n cap)).run P w.drew=.ok olds.toArray w.drew) (hg:cap < n+m) (h63:n+m≤9223372036854775807) (hfit:(n+m) * i.bytes≤140737488355328) :
  (Builtin.append_ #[t,t'] ty #[.slice s n cap,.int k (m:Int)]).run P w =
   .ok (.slice (some ⟨w.heap.size,0,none⟩) (n+m) (grownCap w (n+m) cap e)) (w.drew.alloc (.cells (olds.toArray++Builtin.zeroCells z.cells m++Builtin.zeroCells z.cells (grownCap w (n+m) cap e - (n+m))) e)):=by
 have hn:¬ (n+m≤cap):=by omega
 have h63':¬ (9223372036854775807 < ((n:Int)+(m:Int))):=by omega
 have hfit':=growslice_fits (old:=cap) (need:=n+m) hg hfit
 have h48':¬ (281474976710656 < Builtin.nextslicecap (n+m) cap * i.bytes):=by omega
 have hw:IntKind.i64.wrap (m:Int)=(m:Int):=wrap_in .i64 _ (by show (-9223372036854775808:Int)≤m;omega) (by show (m:Int)≤9223372036854775807;omega)
 have hm0:¬ ((m:Int) < 0):=by omega
 have hmb:¬ (281474976710656 < (m:Int) * (i.bytes:Int)):=by
  have h1:m * i.bytes≤(n+m) * i.bytes:=Nat.mul_le_mul_right _ (by omega)
  have h2:((m * i.bytes:Nat):Int)≤281474976710656:=by omega
  rw [Int.natCast_mul] at h2;omega
 by_cases hz0:m * i.size=0
 ·have e0:Builtin.zeroCells z.cells m=#[]:=by
   unfold Builtin.zeroCells
   rw [hzs,hz0];simp
  simp [Builtin.append_,run_underlying ht,run_underlying ht',sizeOf,typeInfo,zeroValue,hi,hz,asInt,asIntOf,hw,hm0,hmb,hn,h63',h48',Question.forced,hfo,newRow,grownCap,hz0,e0]
 ·have hz1:¬ (m=0∨i.size=0):=fun h=>hz0 (Nat.mul_eq_zero.2 h)
  simp [Builtin.append_,run_underlying ht,run_underlying ht',sizeOf,typeInfo,zeroValue,hi,hz,asInt,asIntOf,hw,hm0,hmb,hn,h63',h48',Question.forced,hfo,newRow,grownCap,hz0,hz1]
noncomputable def appZ (cc:Cc) (H:Hp) (e:TypeId) (lay:List Kd) (bytes:Nat) (s:SV) (n:SI):OpR:=
 match s with
 | .sl _ _ len cap=>bif fitsB cc H (SI.add len n) bytes then
   (match dec (bdOf cc H) H.facts (.le (.c 0) n) with
   | .yes true=>(match dec (bdOf cc H) H.facts (.le (SI.add len n) cap) with
     | .yes false=>catV cc H lay s (.vw (.c 0) (.c 0) n) fun c=>growB H e lay c (SI.add len n)
     | .yes true=>.bad 390
     | .ask p=>.ask p)
   | .yes false=>.bad 391
   | .ask p=>.ask p) else .bad 392
 | _=>.bad 393
theorem appZ_ok (hcc:cc.Ok C) (h:HpRel C hc w0 ρ H w) {t t' ty e:TypeId} {ki:IntKind} {i:TypeInfo} {z:Value} (ht:cc.P.underlying t=some (.slice e)) (ht':cc.P.underlying t'=some (.int ki)) (hi:cc.P.info? e=some i) (hz:i.zero=some z) (hzs:z.cells.size=i.size) {lay:List Kd} (hlay:0 < lay.length) (hli:lay.length=i.size) (hzc:zcs lay z.cells.toList=true)
  {s:SV} {us:Value} {n:SI} {k:IntKind} {nx:Int} (hs:s.Is C.σ ρ us) (hx:n.den C.σ ρ=some nx):(appZ cc H e lay i.bytes s n).Ok cc C hc w0 ρ H w (do pure (.value (← Builtin.append_ #[t,t'] ty #[us,.int k nx]))):=by
 unfold appZ
 split
 ·rename_i sx r o len cap
  obtain ⟨tot,htt⟩:∃ tot,tot=SI.add len n:=⟨_,rfl⟩
  rw [← htt]
  cases hfit:fitsB cc H tot i.bytes with
  | false=>trivial
  | true=>
    simp only [cond_true]
    have hle0:(SB.le (.c 0) n).den C.σ ρ=some (decide ((0:Int)≤nx)):=by simp [SB.den,SI.den,hx]
    split
    ·rename_i hd0
     have hx0:(0:Int)≤nx:=by simpa using (dec_ok (bdOf_ok hcc h) h.facts hle0 hd0).symm
     obtain ⟨mv,rfl⟩:∃ k:Nat,nx=Int.ofNat k:=⟨nx.toNat,by show nx=(nx.toNat:Int);omega⟩
     have hs0:=hs
     simp only [SV.Is] at hs0
     obtain ⟨b,kk,nv0,capv,e1,e2,e3,e4,hu0⟩:=hs0
     have htot:tot.den C.σ ρ=some (Int.ofNat (nv0+mv)):=by rw [htt,SI.add_den e3 hx];rfl
     have hle:(SB.le tot cap).den C.σ ρ=some (decide (Int.ofNat (nv0+mv)≤Int.ofNat capv)):=by simp [SB.den,htot,e4]
     obtain ⟨f1,f2⟩:=fitsB_ok hcc h htot hfit
     split
     ·rename_i hd
      have:=dec_ok (bdOf_ok hcc h) h.facts hle hd
      have hlt:capv < nv0+mv:=by
       have:¬ (Int.ofNat (nv0+mv)≤Int.ofNat capv):=by simpa using this.symm
       have:¬ (nv0+mv≤capv):=fun hh=>this (Int.ofNat_le.2 hh)
       omega
      unfold catV
      have hvw:=viewA_ok hcc h hlay hs
      cases hvS:viewA cc H lay (.sl r o len cap) with
      | no=>trivial
      | ask p=>rw [hvS] at hvw;exact hvw
      | ok c j nn=>
        rw [hvS] at hvw
        obtain ⟨aS,capS,nv,sv,jv,os,hus,g1,g2,g3,g4,g5,_,g6⟩:=hvw
        rw [hus] at hu0
        injection hu0 with hu1 hu2 hu3
        subst hu1 hu2 hu3
        obtain ⟨bv,b1,b2⟩:=baseC_ok hcc g1 g2 g3
        dsimp only
        obtain ⟨z1,z2,z3⟩:=zero_cells (z:=z.cells) (n:=mv) hzc hlay
        have hsi:(Src.vw (.c 0) (.c 0) n).Is cc C ρ lay (Builtin.zeroCells z.cells mv).toList mv:=
         ⟨0,0,rfl,rfl,hx,fun i' hi' f κ hκ=>by rw [hcc.al.z];exact z2 i' hi' f κ hκ⟩
        cases hcb:catB cc H lay (baseC c j nn) nn (.vw (.c 0) (.c 0) n) with
        | no=>trivial
        | ask p=>exact catB_ask hcc h hsi hcb
        | ok c'=>
          obtain ⟨cv',k1,k2⟩:=catB_ok hcc h hlay b1 g3 hsi z1 hcb
          have hrun:=run_append_zeros (P:=cc.P) (w:=w) t t' ty e i z ht ht' hi hz hzs (some ⟨b,kk,none⟩) nv capS k mv os (by rw [← hli];exact g6 w.drew rfl) hlt f1 f2
          rw [hus]
          refine growB_ok (cap:=grownCap w (nv+mv) capS e) h k1 htot (grownCap_ge w (nv+mv) capS e) ?_ ?_ hrun
          ·have hge:=grownCap_ge w (nv+mv) capS e
           simp only [Array.size_append,List.size_toArray,size_zeroCells,hzs,← hli,g4]
           rw [← Nat.add_mul,← Nat.add_mul]
           congr 1;omega
          ·have:=cat_ar (rest:=(Builtin.zeroCells z.cells (grownCap w (nv+mv) capS e - (nv+mv))).toList) g4 z1 g5 b2 k2
           intro j hj f κ hκ
           have:=this j hj f κ hκ
           dsimp only at this ⊢
           rw [← this,← Array.getElem?_toList]
           simp
     ·trivial
     ·rename_i p hd
      exact ask_den (bdOf_ok hcc h) h.facts hle hd
    ·trivial
    ·rename_i p hd
     exact ask_den (bdOf_ok hcc h) h.facts hle0 hd
 ·trivial
noncomputable def rowFits (cc:Cc) (H:Hp) (lay:List Kd) (s x:SV):Bool:=
 match s with
 | .sl (.n id) (.c (.ofNat 0)) n (.d d)=>match get H.heap id with
   | some (.row none _ _ _ _)=>match dec (bdOf cc H) H.facts (.le (SI.add n (srcB cc H lay x).len) (.d d)) with
     | .yes b=>b
     | .ask _=>false
   | _=>false
 | _=>false
noncomputable def opAppendC (cc:Cc) (H:Hp) (ts:Array TypeId) (xs:List SV):OpR:=
 match ts.toList,xs with
 | [t,t'],[s,.it _ n]=>match cc.P.underlying t,cc.P.underlying t' with
   | some (.slice e),some (.int _)=>match cc.P.info? e,layT cc.P 6 e with
     | some i,some lay=>match i.zero with
       | some z=>bif Nat.beq z.cells.size i.size && (Nat.blt 0 (llen lay) && (Nat.beq (llen lay) i.size && zcs lay z.cells.toList)) then appZ cc H e lay i.bytes s n else .bad 394
       | none=>.bad 395
     | _,_=>.bad 396
   | _,_=>.bad 397
 | [t,t'],[s,x]=>bif Nat.beq t t' then
   (match cc.P.underlying t with
   | some (.slice e)=>match cc.P.info? e,layT cc.P 6 e with
     | some i,some lay=>match i.zero with
       | some z=>bif Nat.beq z.cells.size i.size && (Nat.blt 0 (llen lay) && (Nat.beq (llen lay) i.size && rowFits cc H lay s x)) then appA cc H e lay i.bytes s x else opAppendB cc H ts xs
       | none=>opAppendB cc H ts xs
     | _,_=>opAppendB cc H ts xs
   | _=>opAppendB cc H ts xs) else opAppendB cc H ts xs
 | _,_=>opAppendB cc H ts xs
theorem opAppendC_ok (hcc:cc.Ok C) (h:HpRel C hc w0 ρ H w) {ts:Array TypeId} {ty:TypeId} {xs:List SV} {us:List Value} (hx:SV.IsL C.σ ρ xs us):(opAppendC cc H ts xs).Ok cc C hc w0 ρ H w (do pure (.value (← Builtin.append_ ts ty us.toArray))):=by
 unfold opAppendC
 split
 ·rename_i t t' s k n hts
  rw [SV.isL_cons] at hx
  obtain ⟨u,r,rfl,h1,h2⟩:=hx
  rw [SV.isL_cons] at h2
  obtain ⟨v,r',rfl,h2,h3⟩:=h2
  rw [SV.isL_nil] at h3
  subst h3
  simp only [SV.Is] at h2
  obtain ⟨nx,e1,rfl⟩:=h2
  have hts':ts=#[t,t']:=by apply Array.ext';exact hts
  subst hts'
  split
  ·rename_i e ki he he'
   split
   ·rename_i i lay hi hl
    split
    ·rename_i z hz
     cases hck:(Nat.beq z.cells.size i.size && (Nat.blt 0 (llen lay) && (Nat.beq (llen lay) i.size && zcs lay z.cells.toList))) with
     | false=>trivial
     | true=>
       simp only [Bool.and_eq_true] at hck
       obtain ⟨q1,q2,q3,q4⟩:=hck
       rw [llen_eq] at q2 q3
       exact appZ_ok hcc h he he' hi hz (Nat.eq_of_beq_eq_true q1) (by simpa [Nat.blt_eq] using q2) (Nat.eq_of_beq_eq_true q3) q4 h1 e1
    ·trivial
   ·trivial
  ·trivial
 ·rename_i t t' s x hns hts
  have hB:=opAppendB_ok (ts:=ts) (ty:=ty) hcc h hx
  cases hb:Nat.beq t t' with
  | false=>exact hB
  | true=>
    have:=Nat.eq_of_beq_eq_true hb
    subst this
    have hts':ts=#[t,t]:=by apply Array.ext';exact hts
    subst hts'
    simp only [cond_true]
    split
    ·rename_i e he
     split
     ·rename_i i lay hi hl
      split
      ·rename_i z hz
       cases hck:(Nat.beq z.cells.size i.size && (Nat.blt 0 (llen lay) && (Nat.beq (llen lay) i.size && rowFits cc H lay s x))) with
       | false=>exact hB
       | true=>
         simp only [Bool.and_eq_true] at hck
         obtain ⟨q1,q2,q3,q4⟩:=hck
         rw [llen_eq] at q2 q3
         rw [SV.isL_cons] at hx
         obtain ⟨u,r,rfl,h1,h2⟩:=hx
         rw [SV.isL_cons] at h2
         obtain ⟨v,r',rfl,h2,h3⟩:=h2
         rw [SV.isL_nil] at h3
         subst h3
         exact appA_ok hcc h he hi hz (Nat.eq_of_beq_eq_true q1) (by simpa [Nat.blt_eq] using q2) (Nat.eq_of_beq_eq_true q3) h1 h2
      ·exact hB
     ·exact hB
    ·exact hB
 ·exact opAppendB_ok hcc h hx
noncomputable def arrfy (cc:Cc) (H:Hp) (id:Nat) (lay:List Kd):Option Hp:=
 match get H.heap id with
 | some (.row none l t cp sz)=>bif Nat.beq sz (llen lay) && (Nat.blt 0 (llen lay) && Nat.beq (Nat.mul (Nat.div (llen l) sz) sz) (llen l)) then
   (match setsA cc H lay l (.c 0) (.c 0) 0 with | .ok c=>some (H.put id (.arr lay c (.c (.ofNat (Nat.div (llen l) sz))) t cp)) | _=>none) else none
 | _=>none
theorem arrfy_ok (hcc:cc.Ok C) (h:HpRel C hc w0 ρ H w) {id:Nat} {lay:List Kd} {H1:Hp} (ha:arrfy cc H id lay=some H1):HpRel C hc w0 ρ H1 w∧Tn ρ H w ρ H1 w:=by
 unfold arrfy at ha
 split at ha
 ·rename_i l t cp sz hg
  cases hck:(Nat.beq sz (llen lay) && (Nat.blt 0 (llen lay) && Nat.beq (Nat.mul (Nat.div (llen l) sz) sz) (llen l))) with
  | false=>rw [hck] at ha;cases ha
  | true=>
    rw [hck,cond_true] at ha
    simp only [Bool.and_eq_true] at hck
    obtain ⟨q1,q2,q3⟩:=hck
    rw [llen_eq] at q1 q2
    have q1:=Nat.eq_of_beq_eq_true q1
    subst q1
    have hl0:0 < lay.length:=by simpa [Nat.blt_eq] using q2
    have q3:=Nat.eq_of_beq_eq_true q3
    rw [llen_eq] at q3
    split at ha
    ·rename_i c hc'
     cases ha
     obtain ⟨b,o,e1,e2,us,sp,n,e3,e4,e5,rfl⟩:=h.blk id _ hg rfl
     obtain ⟨cv,g1,g2⟩:=setsA_ok hcc h (cv:=0) (jv:=0) e3 rfl rfl hl0 hc'
     have hul:us.length=l.length:=SV.isL_length e3
     have hdv:l.length / lay.length * lay.length=l.length:=q3
     have hbk:(Bk.arr lay c (.c (.ofNat (Nat.div (llen l) lay.length))) t cp).Is C.σ ρ (.cells (preL C.σ none++us++sp).toArray t (0,0)):=by
      refine ⟨cv,l.length / lay.length,n,_,g1,by rw [llen_eq];rfl,e4,?_,?_,?_,rfl⟩
      ·have:l.length / lay.length * lay.length≤n * lay.length:=by simp [preL] at e5;omega
       exact Nat.le_of_mul_le_mul_right this (by omega)
      ·simp [preL] at e5 ⊢;omega
      ·intro j hj f κ hκ
       have hf:f < lay.length:=(List.getElem?_eq_some_iff.1 hκ).1
       have:=g2 j f κ hκ
       have hb:(j+1) * lay.length≤l.length / lay.length * lay.length:=Nat.mul_le_mul_right _ hj
       rw [Nat.add_mul,hdv] at hb
       have hlt:j * lay.length+f < us.length:=by omega
       rw [if_pos (by omega)] at this
       rw [this]
       simp only [preL,List.nil_append,Nat.zero_add,Nat.zero_mul,Nat.sub_zero]
       rw [List.getElem?_toArray,List.getElem?_append_left hlt,List.getElem?_eq_getElem hlt,List.getD_eq_getElem?_getD,List.getElem?_eq_getElem hlt]
       rfl
     exact ⟨h.put hg rfl (b:=b) e1 rfl hbk (fun _ _=>rfl) e2 rfl rfl rfl rfl,Tn.of_put e1 (fun _ _=>rfl) rfl⟩
    ·cases ha
 ·cases ha
theorem OpR.ok_pre {H1:Hp} {s:Sem Next} (ht:Tn ρ H w ρ H1 w) {r:OpR} (hr:r.Ok cc C hc w0 ρ H1 w s):r.Ok cc C hc w0 ρ H w s:=by
 cases r with
 | val z H'=>
   obtain ⟨ρ',n,u,w',h1,h2,h3,h4,h5⟩:=hr
   exact ⟨ρ',n,u,w',ht.trans h1,h2,h3,h4,h5⟩
 | enter f args=>exact hr
 | round id args=>exact hr
 | ask p=>exact hr
 | bad n=>trivial
noncomputable def opCopyT (cc:Cc) (H:Hp) (ts:Array TypeId) (xs:List SV):OpR:=
 match opCopy cc H ts xs with
 | .bad n=>match xs with
   | [.sl rd od dl dc,.sl r o m c]=>match dec (bdOf cc H) H.facts (.le dl m) with
     | .yes true=>opCopy cc H ts [.sl rd od dl dc,.sl r o dl c]
     | _=>.bad n
   | _=>.bad n
 | r=>r
theorem run_copy_cut {P:Program} {w:World} {ts:Array TypeId} {ty:TypeId} (ad:Option Addr) (n cap:Nat) (a:Addr) (m c:Nat) (h:n≤m) :
  (Builtin.copy_ ts ty #[.slice ad n cap,.slice (some a) m c]).run P w=(Builtin.copy_ ts ty #[.slice ad n cap,.slice (some a) n c]).run P w:=by
 have e1:Nat.min m n=n:=Nat.min_eq_right h
 have e2:Nat.min n n=n:=Nat.min_eq_right (Nat.le_refl n)
 cases h0:ts[0]? with
 | none=>simp [Builtin.copy_,h0]
 | some t=>
   cases hu:P.underlying t with
   | none=>simp [Builtin.copy_,Builtin.lenOf,Builtin.firstCells,h0,underlying,hu,e1,e2]
   | some d=>cases d<;>simp [Builtin.copy_,Builtin.lenOf,Builtin.firstCells,h0,underlying,hu,e1,e2]
theorem opCopyT_ok (hcc:cc.Ok C) (h:HpRel C hc w0 ρ H w) {ts:Array TypeId} {ty:TypeId} {xs:List SV} {us:List Value} (hx:SV.IsL C.σ ρ xs us):(opCopyT cc H ts xs).Ok cc C hc w0 ρ H w (do pure (.value (← Builtin.copy_ ts ty us.toArray))):=by
 have h0:=opCopy_ok (ts:=ts) (ty:=ty) hcc h hx
 unfold opCopyT
 split
 ·split
  ·rename_i rd od dl dc r o m c _
   split
   ·rename_i hd
    rw [SV.isL_cons] at hx
    obtain ⟨u,r',rfl,h1,h2⟩:=hx
    rw [SV.isL_cons] at h2
    obtain ⟨v,r'',rfl,h2,h3⟩:=h2
    rw [SV.isL_nil] at h3
    subst h3
    have h1':=h1
    simp only [SV.Is] at h1 h2
    obtain ⟨b,k,len,cap,e1,e2,e3,e4,rfl⟩:=h1
    obtain ⟨b2,k2,len2,cap2,g1,g2,g3,g4,rfl⟩:=h2
    have hle:(SB.le dl m).den C.σ ρ=some (decide (Int.ofNat len≤Int.ofNat len2)):=by simp [SB.den,e3,g3]
    have hlen:len≤len2:=Int.ofNat_le.1 (by simpa using (dec_ok (bdOf_ok hcc h) h.facts hle hd).symm)
    refine OpR.ok_congr (opCopy_ok (ts:=ts) (ty:=ty) hcc h (us:=[.slice (some ⟨b,k,none⟩) len cap,.slice (some ⟨b2,k2,none⟩) len cap2]) ?_) ?_
    ·rw [SV.isL_cons_cons,SV.isL_cons_cons]
     exact ⟨h1',by simp only [SV.Is];exact ⟨b2,k2,len,cap2,g1,g2,e3,g4,rfl⟩,SV.isL_nil.2 rfl⟩
    ·simp only [Sem.run_bind,run_copy_cut _ _ _ _ _ _ hlen]
   ·trivial
  ·trivial
 ·exact h0
noncomputable def opCopyB (cc:Cc) (H:Hp) (ts:Array TypeId) (xs:List SV):OpR:=
 match opCopyT cc H ts xs with
 | .bad n=>match lnth ts.toList 0,xs with
   | some t,[.sl (.n id) _ _ _,_]=>match cc.P.underlying t with
     | some (.slice e)=>match layT cc.P 6 e with
       | some lay=>match arrfy cc H id lay with
         | some H1=>opCopyT cc H1 ts xs
         | none=>.bad n
       | none=>.bad n
     | _=>.bad n
   | _,_=>.bad n
 | r=>r
theorem opCopyB_ok (hcc:cc.Ok C) (h:HpRel C hc w0 ρ H w) {ts:Array TypeId} {ty:TypeId} {xs:List SV} {us:List Value} (hx:SV.IsL C.σ ρ xs us):(opCopyB cc H ts xs).Ok cc C hc w0 ρ H w (do pure (.value (← Builtin.copy_ ts ty us.toArray))):=by
 have h0:=opCopyT_ok (ts:=ts) (ty:=ty) hcc h hx
 unfold opCopyB
 split
 ·split
  ·split
   ·split
    ·split
     ·rename_i H1 ha
      obtain ⟨h1,h2⟩:=arrfy_ok hcc h ha
      exact OpR.ok_pre h2 (opCopyT_ok hcc h1 hx)
     ·trivial
    ·trivial
   ·trivial
  ·trivial
 ·exact h0
noncomputable def opClearB (cc:Cc) (H:Hp) (ts:Array TypeId) (xs:List SV):OpR:=
 match opClear cc H ts xs with
 | .bad n=>match lnth ts.toList 0,xs with
   | some t,[.sl (.n id) _ _ _]=>match cc.P.underlying t with
     | some (.slice e)=>match layT cc.P 6 e with
       | some lay=>match arrfy cc H id lay with
         | some H1=>opClear cc H1 ts xs
         | none=>.bad n
       | none=>.bad n
     | _=>.bad n
   | _,_=>.bad n
 | r=>r
theorem opClearB_ok (hcc:cc.Ok C) (h:HpRel C hc w0 ρ H w) {ts:Array TypeId} {ty:TypeId} {xs:List SV} {us:List Value} (hx:SV.IsL C.σ ρ xs us):(opClearB cc H ts xs).Ok cc C hc w0 ρ H w (do pure (.value (← Builtin.clear_ ts ty us.toArray))):=by
 have h0:=opClear_ok (ts:=ts) (ty:=ty) hcc h hx
 unfold opClearB
 split
 ·split
  ·split
   ·split
    ·split
     ·rename_i H1 ha
      obtain ⟨h1,h2⟩:=arrfy_ok hcc h ha
      exact OpR.ok_pre h2 (opClear_ok hcc h1 hx)
     ·trivial
    ·trivial
   ·trivial
  ·trivial
 ·exact h0
noncomputable def ownCs (bk:Bk):Bool:=match bk with | .arr _ _ _ _ _=>true | .cells _ _=>true | .row _ _ _ _ _=>true | _=>false
theorem ownCs_ok {bk:Bk} {o:Obj} (h:bk.Is C.σ ρ o) (hb:ownCs bk=true):∃ A t,o=.cells A t (0,0):=by
 cases bk<;>first | cases hb | skip
 ·obtain ⟨_,_,_,_,_,_,_,_,_,_,rfl⟩:=h;exact ⟨_,_,rfl⟩
 ·obtain ⟨_,_,rfl⟩:=h;exact ⟨_,_,rfl⟩
 ·obtain ⟨_,_,_,_,_,_,rfl⟩:=h;exact ⟨_,_,rfl⟩
noncomputable def opOv (cc:Cc) (H:Hp) (fn:Func) (args:List SV):OpR:=
 match args with
 | [.sl (.n i) _ _ _,.sl (.n j) _ _ _]=>bif Nat.beq i j then .bad 380 else
   (match get H.heap i,get H.heap j with
   | some x,some y=>bif ownCs x && ownCs y then
     (match fn.params[0]? with
     | some t=>match cc.P.underlying t with
       | some (.slice e)=>match cc.P.info? e with
         | some _=>.val (.bo (.c false)) H
         | none=>.bad 381
       | _=>.bad 382
     | none=>.bad 383) else .bad 384
   | _,_=>.bad 385)
 | _=>.bad 386
theorem run_overlaps_no {P:Program} {w:World} {ps rs:Array TypeId} {t e:TypeId} {i:TypeInfo} (hp:ps[0]? = some t) (hu:P.underlying t=some (.slice e)) (hi:P.info? e=some i) {a b:Nat} (hab:a≠b) {A B:Array Value} {ta tb:TypeId}
  (ha:w.heap[a]? = some (.cells A ta (0,0))) (hb:w.heap[b]? = some (.cells B tb (0,0))) (x y la ca lb cb:Nat) :
  (Extern.SlicesOverlaps.overlaps ps rs #[.slice (some ⟨a,x,none⟩) la ca,.slice (some ⟨b,y,none⟩) lb cb]).run P w=.ok (.bool false) w:=by
 have e0:Extern.SlicesOverlaps.overlaps ps rs #[.slice (some ⟨a,x,none⟩) la ca,.slice (some ⟨b,y,none⟩) lb cb]=(do
  let some t:=ps[0]? | stuck "slices.overlaps: no parameter types"
  let .slice elem ← underlying t | stuck "slices.overlaps: slice type expected"
  let size ← sizeOf elem
  if la=0∨lb=0∨size=0 then pure (.bool false)
  else if (⟨a,x,none⟩:Addr).block != (⟨b,y,none⟩:Addr).block && (← frozen ⟨a,x,none⟩) && (← frozen ⟨b,y,none⟩) then unsupported .addressObserved
  else do
   if (⟨a,x,none⟩:Addr).block != (⟨b,y,none⟩:Addr).block then do
    noView ⟨a,x,none⟩;noView ⟨b,y,none⟩
    if ← mayBeOne ⟨a,x,none⟩ ⟨b,y,none⟩ then return .bool ((← choose (.extern "sameAddr.stringBytes" 2)) == 1)
   pure (.bool ((⟨a,x,none⟩:Addr).block == (⟨b,y,none⟩:Addr).block && (⟨a,x,none⟩:Addr).off < (⟨b,y,none⟩:Addr).off+lb * size && (⟨b,y,none⟩:Addr).off < (⟨a,x,none⟩:Addr).off+la * size))):=rfl
 rw [e0]
 by_cases h0:la=0∨lb=0∨i.size=0
 ·simp [hp,run_underlying hu,sizeOf,typeInfo,hi,h0]
 ·simp [hp,run_underlying hu,sizeOf,typeInfo,hi,h0,hab,World.frozen?,ha,hb,noView,viewAt,World.shape?,mayBeOne,stringish]
theorem opOv_ok (hcc:cc.Ok C) (h:HpRel C hc w0 ρ H w) {g:FuncId} {fn:Func} (hfn:cc.P.funcs[g]? = some fn) (hov:isOv fn=true) {args:List SV} {us:List Value} (ha:SV.IsL C.σ ρ args us) :
  (opOv cc H fn args).Ok cc C hc w0 ρ H w (callFunc g us.toArray):=by
 obtain ⟨hb,hn,hf⟩:=ovOk_ok hov (hcc.ov g fn hfn)
 have hnm:=hcc.names g fn hfn
 unfold opOv
 split
 ·rename_i i o l c j o' l' c'
  cases hij:Nat.beq i j with
  | true=>trivial
  | false=>
    have hne:i≠j:=fun e=>by subst e;simp at hij
    simp only [cond_false]
    split
    ·rename_i bx bz gx gz
     cases hck:(ownCs bx && ownCs bz) with
     | false=>trivial
     | true=>
       rw [Bool.and_eq_true] at hck
       simp only [cond_true]
       split
       ·rename_i t ht
        split
        ·rename_i e hu
         split
         ·rename_i ti hi
          rw [SV.isL_cons] at ha
          obtain ⟨u,r,rfl,h1,h2⟩:=ha
          rw [SV.isL_cons] at h2
          obtain ⟨v,r',rfl,h2,h3⟩:=h2
          rw [SV.isL_nil] at h3
          subst h3
          simp only [SV.Is,SR.den] at h1 h2
          obtain ⟨a,x,la,ca,a1,_,_,_,rfl⟩:=h1
          obtain ⟨b,y,lb,cb,b1,_,_,_,rfl⟩:=h2
          have lx:bx.live=true:=by cases bx<;>first | rfl | cases hck.1
          have lz:bz.live=true:=by cases bz<;>first | rfl | cases hck.2
          obtain ⟨a',oa,a2,a3,a4⟩:=h.blk i bx gx lx
          obtain ⟨b',ob,b2,b3,b4⟩:=h.blk j bz gz lz
          rw [a1] at a2;cases a2
          rw [b1] at b2;cases b2
          obtain ⟨A,ta,rfl⟩:=ownCs_ok a4 hck.1
          obtain ⟨B,tb,rfl⟩:=ownCs_ok b4 hck.2
          have hab:a≠b:=fun e=>by subst e;exact hne (h.inj i j bx bz a gx lx gz lz a1 b1)
          have hr:=run_overlaps_no (rs:=fn.resultTypes) ht hu hi hab a3 b3 x y la ca lb cb
          refine ⟨ρ,.value (.bool false),.bool false,w,Tn.refl ρ H w,?_,.inl rfl,by simp only [SV.Is];exact ⟨false,rfl,rfl⟩,h⟩
          have hnm':¬ fn.name = "runtime.NumGoroutine" := by simpa using hnm
          simp [callFunc,hfn,hnm',hb,hn,hf,hr]
         ·trivial
        ·trivial
       ·trivial
    ·trivial
 ·trivial
end
end Go.Sx
