/- A symbolic executor: slices that are made; whether two own slices overlap. -/
import Derived.Test.YtfgdpkceoadgjaaSxGe
import Derived.Laws.MakeOwn
import Derived.MapKept
import Derived.AtR
import Derived.RangeFuncNested
import Derived.RangeFuncLeaves
namespace Go.Sx
noncomputable section
set_option linter.unusedVariables false
set_option linter.unusedSimpArgs false
open Go.RowKit
section
variable {cc:Cc} {C:Ct} {hc:Nat→Option Obj} {w0:World} {ρ:Dyn} {H:Hp} {w:World}
def opMakeS (cc:Cc) (H:Hp) (t:TypeId) (l c:SV):OpR:=
 match l,c with
 | .it _ n,.it _ m=>bif n.beq m then
   (match cc.P.underlying t with
   | some (.slice e)=>match cc.P.info? e,layT cc.P 6 e with
     | some i,some lay=>match i.zero with
       | some z=>bif Nat.blt 0 (llen lay) && (Nat.beq (llen lay) i.size && (zcs lay z.cells.toList && fitsB cc H n i.bytes)) then
         (match dec (bdOf cc H) H.facts (.le (.c 0) n) with
         | .yes true=>.val (.sl (.n H.nb) (.c 0) n n) (H.alloc (.arr lay (.c 0) n e n))
         | .yes false=>.bad 370
         | .ask p=>.ask p) else .bad 371
       | none=>.bad 372
     | _,_=>.bad 373
   | _=>.bad 374)
   else .bad 375
 | _,_=>.bad 376
theorem opMakeS_ok (hcc:cc.Ok C) (h:HpRel C hc w0 ρ H w) {t:TypeId} {l c:SV} {u v:Value} (hl:l.Is C.σ ρ u) (hcv:c.Is C.σ ρ v):(opMakeS cc H t l c).Ok cc C hc w0 ρ H w (do pure (.value (← Instr.makeSlice t u v))):=by
 unfold opMakeS
 split
 ·rename_i kl n kc m
  cases hnm:n.beq m with
  | false=>trivial
  | true=>
    have:=SI.beq_eq hnm
    subst this
    simp only [cond_true]
    simp only [SV.Is] at hl hcv
    obtain ⟨x,e1,rfl⟩:=hl
    obtain ⟨y,e2,rfl⟩:=hcv
    rw [e1] at e2
    cases e2
    split
    ·rename_i e hu
     split
     ·rename_i i lay hi hlay
      split
      ·rename_i z hz
       cases hck:(Nat.blt 0 (llen lay) && (Nat.beq (llen lay) i.size && (zcs lay z.cells.toList && fitsB cc H n i.bytes))) with
       | false=>trivial
       | true=>
         simp only [Bool.and_eq_true] at hck
         obtain ⟨q1,q2,q3,q4⟩:=hck
         rw [llen_eq] at q1 q2
         have hl0:0 < lay.length:=by simpa [Nat.blt_eq] using q1
         have hli:=Nat.eq_of_beq_eq_true q2
         have hle:(SB.le (.c 0) n).den C.σ ρ=some (decide ((0:Int)≤x)):=by simp [SB.den,SI.den,e1]
         simp only [cond_true]
         split
         ·rename_i hd
          have hx0:(0:Int)≤x:=by simpa using (dec_ok (bdOf_ok hcc h) h.facts hle hd).symm
          obtain ⟨k,rfl⟩:∃ k:Nat,x=Int.ofNat k:=⟨x.toNat,by show x=(x.toNat:Int);omega⟩
          obtain ⟨f1,f2⟩:=fitsB_ok hcc h e1 q4
          have hb:(i.bytes:Int) * (k:Int)≤281474976710656:=by
           have:((k * i.bytes:Nat):Int)≤140737488355328:=Int.ofNat_le.2 f2
           rw [Int.natCast_mul,Int.mul_comm] at this;omega
          have hr:=run_make (P:=cc.P) w t e i z hu hi hz kl kc k k hx0 (Int.le_refl _) hb (by omega)
          simp only [Int.toNat_natCast] at hr
          obtain ⟨z1,z2,z3⟩:=zero_cells (z:=z.cells) (n:=k) q3 hl0
          have hzs:z.cells.size=i.size:=by
           have:=(zcs_ok q3).1
           rw [← hli];simpa using this
          have hmz:madeCells z.cells (k * i.size)=Builtin.zeroCells z.cells k:=by unfold madeCells Builtin.zeroCells;rw [hzs]
          rw [hmz] at hr
          have hle2:=h.le_alloc w.heap.size
          refine ⟨ρ.setBl H.nb w.heap.size,.value (.slice (some ⟨w.heap.size,0,none⟩) k k),.slice (some ⟨w.heap.size,0,none⟩) k k,w.alloc (.cells (Builtin.zeroCells z.cells k) e),Tn.of_alloc ρ H w _ _,?_,.inl rfl,?_,?_⟩
          ·have hr':Sem.run cc.P (Instr.makeSlice t (.int kl (Int.ofNat k)) (.int kc (Int.ofNat k))) w=_:=hr
           simp only [Sem.run_bind,hr',Result.andThen_ok,Sem.run_pure]
          ·simp only [SV.Is,SR.den];exact ⟨_,0,k,k,Dyn.setBl_same _ _ _,rfl,SI.den_mono hle2 _ _ e1,SI.den_mono hle2 _ _ e1,rfl⟩
          ·refine h.alloc' ⟨0,k,k,_,rfl,SI.den_mono hle2 _ _ e1,SI.den_mono hle2 _ _ e1,Nat.le_refl _,?_,fun j hj f κ hκ=>?_,rfl⟩
           ·rw [← Array.length_toList,z1]
           ·have:=z2 j hj f κ hκ
            rw [hcc.al.z,Nat.zero_add]
            rw [Array.getElem?_toList] at this
            exact this
         ·trivial
         ·rename_i p hd
          exact ask_den (bdOf_ok hcc h) h.facts hle hd
      ·trivial
     ·trivial
    ·trivial
 ·trivial
theorem run_append_zeros {P:Program} {w:World} (t t' ty e:TypeId) {ki:IntKind} (i:TypeInfo) (z:Value) (ht:P.underlying t=some (.slice e)) (ht':P.underlying t'=some (.int ki)) (hi:P.info? e=some i) (hz:i.zero=some z) (hzs:z.cells.size=i.size) (s:Option Addr) (n cap:Nat) (k:IntKind) (m:Nat) (olds:List Value)
  (hfo:(Builtin.firstCells i.size n (.slice s n cap)).run P w.drew=.ok olds.toArray w.drew) (hg:cap < n+m) (h63:n+m≤9223372036854775807) (hfit:(n+m) * i.bytes≤140737488355328) :
  (Builtin.append_ #[t,t'] ty #[.slice s n cap,.int k (m:Int)]).run P w =
   .ok (.slice (some ⟨w.heap.size,0,none⟩) (n+m) (grownCap w (n+m) cap e)) (w.drew.alloc (.cells (olds.toArray++Builtin.zeroCells z.cells m++Builtin.zeroCells z.cells (grownCap w (n+m) cap e - (n+m))) e)):=by
 have hn:¬ (n+m≤cap):=by omega
 have h63':¬ (9223372036854775807 < ((n:Int)+(m:Int))):=by omega
 have hfit':=growslice_fits (old:=cap) (need:=n+m) hg hfit
 have h48':¬ (281474976710656 < Builtin.nextslicecap (n+m) cap * i.bytes):=by omega
 have hw:IntKind.i64.wrap (m:Int)=(m:Int):=wrap_in .i64 _ (by show (-9223372036854775808:Int)≤m;omega) (by show (m:Int)≤9223372036854775807;omega)
 have hm0:¬ ((m:Int) < 0):=by omega
 have hmb:¬ (281474976710656 < (m:Int) * (i.bytes:Int)):=by
  have h1:m * i.bytes≤(n+m) * i.bytes:=Nat.mul_le_mul_right _ (by omega)
  have h2:((m * i.bytes:Nat):Int)≤281474976710656:=by omega
  rw [Int.natCast_mul] at h2;omega
 by_cases hz0:m * i.size=0
 ·have e0:Builtin.zeroCells z.cells m=#[]:=by
   unfold Builtin.zeroCells
   rw [hzs,hz0];simp
  simp [Builtin.append_,run_underlying ht,run_underlying ht',sizeOf,typeInfo,zeroValue,hi,hz,asInt,asIntOf,hw,hm0,hmb,hn,h63',h48',Question.forced,hfo,newRow,grownCap,hz0,e0]
 ·have hz1:¬ (m=0∨i.size=0):=fun h=>hz0 (Nat.mul_eq_zero.2 h)
  simp [Builtin.append_,run_underlying ht,run_underlying ht',sizeOf,typeInfo,zeroValue,hi,hz,asInt,asIntOf,hw,hm0,hmb,hn,h63',h48',Question.forced,hfo,newRow,grownCap,hz0,hz1]
def appZ (cc:Cc) (H:Hp) (e:TypeId) (lay:List Kd) (bytes:Nat) (s:SV) (n:SI):OpR:=
 match s with
 | .sl _ _ len cap=>bif fitsB cc H (SI.add len n) bytes then
   (match dec (bdOf cc H) H.facts (.le (.c 0) n) with
   | .yes true=>(match dec (bdOf cc H) H.facts (.le (SI.add len n) cap) with
     | .yes false=>catV cc H lay s (.vw (.c 0) (.c 0) n) fun c=>growB H e lay c (SI.add len n)
     | .yes true=>.bad 390
     | .ask p=>.ask p)
   | .yes false=>.bad 391
   | .ask p=>.ask p) else .bad 392
 | _=>.bad 393
theorem appZ_ok (hcc:cc.Ok C) (h:HpRel C hc w0 ρ H w) {t t' ty e:TypeId} {ki:IntKind} {i:TypeInfo} {z:Value} (ht:cc.P.underlying t=some (.slice e)) (ht':cc.P.underlying t'=some (.int ki)) (hi:cc.P.info? e=some i) (hz:i.zero=some z) (hzs:z.cells.size=i.size) {lay:List Kd} (hlay:0 < lay.length) (hli:lay.length=i.size) (hzc:zcs lay z.cells.toList=true)
  {s:SV} {us:Value} {n:SI} {k:IntKind} {nx:Int} (hs:s.Is C.σ ρ us) (hx:n.den C.σ ρ=some nx):(appZ cc H e lay i.bytes s n).Ok cc C hc w0 ρ H w (do pure (.value (← Builtin.append_ #[t,t'] ty #[us,.int k nx]))):=by
 unfold appZ
 split
 ·rename_i sx r o len cap
  obtain ⟨tot,htt⟩:∃ tot,tot=SI.add len n:=⟨_,rfl⟩
  rw [← htt]
  cases hfit:fitsB cc H tot i.bytes with
  | false=>trivial
  | true=>
    simp only [cond_true]
    have hle0:(SB.le (.c 0) n).den C.σ ρ=some (decide ((0:Int)≤nx)):=by simp [SB.den,SI.den,hx]
    split
    ·rename_i hd0
     have hx0:(0:Int)≤nx:=by simpa using (dec_ok (bdOf_ok hcc h) h.facts hle0 hd0).symm
     obtain ⟨mv,rfl⟩:∃ k:Nat,nx=Int.ofNat k:=⟨nx.toNat,by show nx=(nx.toNat:Int);omega⟩
     have hs0:=hs
     simp only [SV.Is] at hs0
     obtain ⟨b,kk,nv0,capv,e1,e2,e3,e4,hu0⟩:=hs0
     have htot:tot.den C.σ ρ=some (Int.ofNat (nv0+mv)):=by rw [htt,SI.add_den e3 hx];rfl
     have hle:(SB.le tot cap).den C.σ ρ=some (decide (Int.ofNat (nv0+mv)≤Int.ofNat capv)):=by simp [SB.den,htot,e4]
     obtain ⟨f1,f2⟩:=fitsB_ok hcc h htot hfit
     split
     ·rename_i hd
      have:=dec_ok (bdOf_ok hcc h) h.facts hle hd
      have hlt:capv < nv0+mv:=by
       have:¬ (Int.ofNat (nv0+mv)≤Int.ofNat capv):=by simpa using this.symm
       have:¬ (nv0+mv≤capv):=fun hh=>this (Int.ofNat_le.2 hh)
       omega
      unfold catV
      have hvw:=viewA_ok hcc h hlay hs
      cases hvS:viewA cc H lay (.sl r o len cap) with
      | no=>trivial
      | ask p=>rw [hvS] at hvw;exact hvw
      | ok c j nn=>
        rw [hvS] at hvw
        obtain ⟨aS,capS,nv,sv,jv,os,hus,g1,g2,g3,g4,g5,_,g6⟩:=hvw
        rw [hus] at hu0
        injection hu0 with hu1 hu2 hu3
        subst hu1 hu2 hu3
        obtain ⟨bv,b1,b2⟩:=baseC_ok hcc g1 g2 g3
        dsimp only
        obtain ⟨z1,z2,z3⟩:=zero_cells (z:=z.cells) (n:=mv) hzc hlay
        have hsi:(Src.vw (.c 0) (.c 0) n).Is cc C ρ lay (Builtin.zeroCells z.cells mv).toList mv:=
         ⟨0,0,rfl,rfl,hx,fun i' hi' f κ hκ=>by rw [hcc.al.z];exact z2 i' hi' f κ hκ⟩
        cases hcb:catB cc H lay (baseC c j nn) nn (.vw (.c 0) (.c 0) n) with
        | no=>trivial
        | ask p=>exact catB_ask hcc h hsi hcb
        | ok c'=>
          obtain ⟨cv',k1,k2⟩:=catB_ok hcc h hlay b1 g3 hsi z1 hcb
          have hrun:=run_append_zeros (P:=cc.P) (w:=w) t t' ty e i z ht ht' hi hz hzs (some ⟨b,kk,none⟩) nv capS k mv os (by rw [← hli];exact g6 w.drew rfl) hlt f1 f2
          rw [hus]
          refine growB_ok (cap:=grownCap w (nv+mv) capS e) h k1 htot (grownCap_ge w (nv+mv) capS e) ?_ ?_ hrun
          ·have hge:=grownCap_ge w (nv+mv) capS e
           simp only [Array.size_append,List.size_toArray,size_zeroCells,hzs,← hli,g4]
           rw [← Nat.add_mul,← Nat.add_mul]
           congr 1;omega
          ·have:=cat_ar (rest:=(Builtin.zeroCells z.cells (grownCap w (nv+mv) capS e - (nv+mv))).toList) g4 z1 g5 b2 k2
           intro j hj f κ hκ
           have:=this j hj f κ hκ
           dsimp only at this ⊢
           rw [← this,← Array.getElem?_toList]
           simp
     ·trivial
     ·rename_i p hd
      exact ask_den (bdOf_ok hcc h) h.facts hle hd
    ·trivial
    ·rename_i p hd
     exact ask_den (bdOf_ok hcc h) h.facts hle0 hd
 ·trivial
def rowFits (cc:Cc) (H:Hp) (lay:List Kd) (s x:SV):Bool:=
 match s with
 | .sl (.n id) (.c (.ofNat 0)) n (.d d)=>match get H.heap id with
   | some (.row none _ _ _ _)=>match dec (bdOf cc H) H.facts (.le (SI.add n (srcB cc H lay x).len) (.d d)) with
     | .yes b=>b
     | .ask _=>false
   | _=>false
 | _=>false
def opAppendC (cc:Cc) (H:Hp) (ts:Array TypeId) (xs:List SV):OpR:=
 match ts.toList,xs with
 | [t,t'],[s,.it _ n]=>match cc.P.underlying t,cc.P.underlying t' with
   | some (.slice e),some (.int _)=>match cc.P.info? e,layT cc.P 6 e with
     | some i,some lay=>match i.zero with
       | some z=>bif Nat.beq z.cells.size i.size && (Nat.blt 0 (llen lay) && (Nat.beq (llen lay) i.size && zcs lay z.cells.toList)) then appZ cc H e lay i.bytes s n else .bad 394
       | none=>.bad 395
     | _,_=>.bad 396
   | _,_=>.bad 397
 | [t,t'],[s,x]=>bif Nat.beq t t' then
   (match cc.P.underlying t with
   | some (.slice e)=>match cc.P.info? e,layT cc.P 6 e with
     | some i,some lay=>match i.zero with
       | some z=>bif Nat.beq z.cells.size i.size && (Nat.blt 0 (llen lay) && (Nat.beq (llen lay) i.size && rowFits cc H lay s x)) then appA cc H e lay i.bytes s x else opAppendB cc H ts xs
       | none=>opAppendB cc H ts xs
     | _,_=>opAppendB cc H ts xs
   | _=>opAppendB cc H ts xs) else opAppendB cc H ts xs
 | _,_=>opAppendB cc H ts xs
theorem opAppendC_ok (hcc:cc.Ok C) (h:HpRel C hc w0 ρ H w) {ts:Array TypeId} {ty:TypeId} {xs:List SV} {us:List Value} (hx:SV.IsL C.σ ρ xs us):(opAppendC cc H ts xs).Ok cc C hc w0 ρ H w (do pure (.value (← Builtin.append_ ts ty us.toArray))):=by
 unfold opAppendC
 split
 ·rename_i t t' s k n hts
  rw [SV.isL_cons] at hx
  obtain ⟨u,r,rfl,h1,h2⟩:=hx
  rw [SV.isL_cons] at h2
  obtain ⟨v,r',rfl,h2,h3⟩:=h2
  rw [SV.isL_nil] at h3
  subst h3
  simp only [SV.Is] at h2
  obtain ⟨nx,e1,rfl⟩:=h2
  have hts':ts=#[t,t']:=by apply Array.ext';exact hts
  subst hts'
  split
  ·rename_i e ki he he'
   split
   ·rename_i i lay hi hl
    split
    ·rename_i z hz
     cases hck:(Nat.beq z.cells.size i.size && (Nat.blt 0 (llen lay) && (Nat.beq (llen lay) i.size && zcs lay z.cells.toList))) with
     | false=>trivial
     | true=>
       simp only [Bool.and_eq_true] at hck
       obtain ⟨q1,q2,q3,q4⟩:=hck
       rw [llen_eq] at q2 q3
       exact appZ_ok hcc h he he' hi hz (Nat.eq_of_beq_eq_true q1) (by simpa [Nat.blt_eq] using q2) (Nat.eq_of_beq_eq_true q3) q4 h1 e1
    ·trivial
   ·trivial
  ·trivial
 ·rename_i t t' s x hns hts
  have hB:=opAppendB_ok (ts:=ts) (ty:=ty) hcc h hx
  cases hb:Nat.beq t t' with
  | false=>exact hB
  | true=>
    have:=Nat.eq_of_beq_eq_true hb
    subst this
    have hts':ts=#[t,t]:=by apply Array.ext';exact hts
    subst hts'
    simp only [cond_true]
    split
    ·rename_i e he
     split
     ·rename_i i lay hi hl
      split
      ·rename_i z hz
       cases hck:(Nat.beq z.cells.size i.size && (Nat.blt 0 (llen lay) && (Nat.beq (llen lay) i.size && rowFits cc H lay s x))) with
       | false=>exact hB
       | true=>
         simp only [Bool.and_eq_true] at hck
         obtain ⟨q1,q2,q3,q4⟩:=hck
         rw [llen_eq] at q2 q3
         rw [SV.isL_cons] at hx
         obtain ⟨u,r,rfl,h1,h2⟩:=hx
         rw [SV.isL_cons] at h2
         obtain ⟨v,r',rfl,h2,h3⟩:=h2
         rw [SV.isL_nil] at h3
         subst h3
         exact appA_ok hcc h he hi hz (Nat.eq_of_beq_eq_true q1) (by simpa [Nat.blt_eq] using q2) (Nat.eq_of_beq_eq_true q3) h1 h2
      ·exact hB
     ·exact hB
    ·exact hB
 ·exact opAppendB_ok hcc h hx
def arrfy (cc:Cc) (H:Hp) (id:Nat) (lay:List Kd):Option Hp:=
 match get H.heap id with
 | some (.row none l t cp sz)=>bif Nat.beq sz (llen lay) && (Nat.blt 0 (llen lay) && Nat.beq (Nat.mul (Nat.div (llen l) sz) sz) (llen l)) then
   (match setsA cc H lay l (.c 0) (.c 0) 0 with | .ok c=>some (H.put id (.arr lay c (.c (.ofNat (Nat.div (llen l) sz))) t cp)) | _=>none) else none
 | _=>none
theorem arrfy_ok (hcc:cc.Ok C) (h:HpRel C hc w0 ρ H w) {id:Nat} {lay:List Kd} {H1:Hp} (ha:arrfy cc H id lay=some H1):HpRel C hc w0 ρ H1 w∧Tn ρ H w ρ H1 w:=by
 unfold arrfy at ha
 split at ha
 ·rename_i l t cp sz hg
  cases hck:(Nat.beq sz (llen lay) && (Nat.blt 0 (llen lay) && Nat.beq (Nat.mul (Nat.div (llen l) sz) sz) (llen l))) with
  | false=>rw [hck] at ha;cases ha
  | true=>
    rw [hck,cond_true] at ha
    simp only [Bool.and_eq_true] at hck
    obtain ⟨q1,q2,q3⟩:=hck
    rw [llen_eq] at q1 q2
    have q1:=Nat.eq_of_beq_eq_true q1
    subst q1
    have hl0:0 < lay.length:=by simpa [Nat.blt_eq] using q2
    have q3:=Nat.eq_of_beq_eq_true q3
    rw [llen_eq] at q3
    split at ha
    ·rename_i c hc'
     cases ha
     obtain ⟨b,o,e1,e2,us,sp,n,e3,e4,e5,rfl⟩:=h.blk id _ hg rfl
     obtain ⟨cv,g1,g2⟩:=setsA_ok hcc h (cv:=0) (jv:=0) e3 rfl rfl hl0 hc'
     have hul:us.length=l.length:=SV.isL_length e3
     have hdv:l.length / lay.length * lay.length=l.length:=q3
     have hbk:(Bk.arr lay c (.c (.ofNat (Nat.div (llen l) lay.length))) t cp).Is C.σ ρ (.cells (preL C.σ none++us++sp).toArray t (0,0)):=by
      refine ⟨cv,l.length / lay.length,n,_,g1,by rw [llen_eq];rfl,e4,?_,?_,?_,rfl⟩
      ·have:l.length / lay.length * lay.length≤n * lay.length:=by simp [preL] at e5;omega
       exact Nat.le_of_mul_le_mul_right this (by omega)
      ·simp [preL] at e5 ⊢;omega
      ·intro j hj f κ hκ
       have hf:f < lay.length:=(List.getElem?_eq_some_iff.1 hκ).1
       have:=g2 j f κ hκ
       have hb:(j+1) * lay.length≤l.length / lay.length * lay.length:=Nat.mul_le_mul_right _ hj
       rw [Nat.add_mul,hdv] at hb
       have hlt:j * lay.length+f < us.length:=by omega
       rw [if_pos (by omega)] at this
       rw [this]
       simp only [preL,List.nil_append,Nat.zero_add,Nat.zero_mul,Nat.sub_zero]
       rw [List.getElem?_toArray,List.getElem?_append_left hlt,List.getElem?_eq_getElem hlt,List.getD_eq_getElem?_getD,List.getElem?_eq_getElem hlt]
       rfl
     exact ⟨h.put hg rfl (b:=b) e1 rfl hbk (fun _ _=>rfl) e2 rfl rfl rfl rfl,Tn.of_put e1 (fun _ _=>rfl) rfl⟩
    ·cases ha
 ·cases ha
theorem OpR.ok_pre {H1:Hp} {s:Sem Next} (ht:Tn ρ H w ρ H1 w) {r:OpR} (hr:r.Ok cc C hc w0 ρ H1 w s):r.Ok cc C hc w0 ρ H w s:=by
 cases r with
 | val z H'=>
   obtain ⟨ρ',n,u,w',h1,h2,h3,h4,h5⟩:=hr
   exact ⟨ρ',n,u,w',ht.trans h1,h2,h3,h4,h5⟩
 | enter f args=>exact hr
 | round id args=>exact hr
 | ask p=>exact hr
 | bad n=>trivial
def opCopyT (cc:Cc) (H:Hp) (ts:Array TypeId) (xs:List SV):OpR:=
 match opCopy cc H ts xs with
 | .bad n=>match xs with
   | [.sl rd od dl dc,.sl r o m c]=>match dec (bdOf cc H) H.facts (.le dl m) with
     | .yes true=>opCopy cc H ts [.sl rd od dl dc,.sl r o dl c]
     | _=>.bad n
   | _=>.bad n
 | r=>r
theorem run_copy_cut {P:Program} {w:World} {ts:Array TypeId} {ty:TypeId} (ad:Option Addr) (n cap:Nat) (a:Addr) (m c:Nat) (h:n≤m) :
  (Builtin.copy_ ts ty #[.slice ad n cap,.slice (some a) m c]).run P w=(Builtin.copy_ ts ty #[.slice ad n cap,.slice (some a) n c]).run P w:=by
 have e1:Nat.min m n=n:=Nat.min_eq_right h
 have e2:Nat.min n n=n:=Nat.min_eq_right (Nat.le_refl n)
 cases h0:ts[0]? with
 | none=>simp [Builtin.copy_,h0]
 | some t=>
   cases hu:P.underlying t with
   | none=>simp [Builtin.copy_,Builtin.lenOf,Builtin.firstCells,h0,underlying,hu,e1,e2]
   | some d=>cases d<;>simp [Builtin.copy_,Builtin.lenOf,Builtin.firstCells,h0,underlying,hu,e1,e2]
theorem opCopyT_ok (hcc:cc.Ok C) (h:HpRel C hc w0 ρ H w) {ts:Array TypeId} {ty:TypeId} {xs:List SV} {us:List Value} (hx:SV.IsL C.σ ρ xs us):(opCopyT cc H ts xs).Ok cc C hc w0 ρ H w (do pure (.value (← Builtin.copy_ ts ty us.toArray))):=by
 have h0:=opCopy_ok (ts:=ts) (ty:=ty) hcc h hx
 unfold opCopyT
 split
 ·split
  ·rename_i rd od dl dc r o m c _
   split
   ·rename_i hd
    rw [SV.isL_cons] at hx
    obtain ⟨u,r',rfl,h1,h2⟩:=hx
    rw [SV.isL_cons] at h2
    obtain ⟨v,r'',rfl,h2,h3⟩:=h2
    rw [SV.isL_nil] at h3
    subst h3
    have h1':=h1
    simp only [SV.Is] at h1 h2
    obtain ⟨b,k,len,cap,e1,e2,e3,e4,rfl⟩:=h1
    obtain ⟨b2,k2,len2,cap2,g1,g2,g3,g4,rfl⟩:=h2
    have hle:(SB.le dl m).den C.σ ρ=some (decide (Int.ofNat len≤Int.ofNat len2)):=by simp [SB.den,e3,g3]
    have hlen:len≤len2:=Int.ofNat_le.1 (by simpa using (dec_ok (bdOf_ok hcc h) h.facts hle hd).symm)
    refine OpR.ok_congr (opCopy_ok (ts:=ts) (ty:=ty) hcc h (us:=[.slice (some ⟨b,k,none⟩) len cap,.slice (some ⟨b2,k2,none⟩) len cap2]) ?_) ?_
    ·rw [SV.isL_cons_cons,SV.isL_cons_cons]
     exact ⟨h1',by simp only [SV.Is];exact ⟨b2,k2,len,cap2,g1,g2,e3,g4,rfl⟩,SV.isL_nil.2 rfl⟩
    ·simp only [Sem.run_bind,run_copy_cut _ _ _ _ _ _ hlen]
   ·trivial
  ·trivial
 ·exact h0
def opCopyB (cc:Cc) (H:Hp) (ts:Array TypeId) (xs:List SV):OpR:=
 match opCopyT cc H ts xs with
 | .bad n=>match lnth ts.toList 0,xs with
   | some t,[.sl (.n id) _ _ _,_]=>match cc.P.underlying t with
     | some (.slice e)=>match layT cc.P 6 e with
       | some lay=>match arrfy cc H id lay with
         | some H1=>opCopyT cc H1 ts xs
         | none=>.bad n
       | none=>.bad n
     | _=>.bad n
   | _,_=>.bad n
 | r=>r
theorem opCopyB_ok (hcc:cc.Ok C) (h:HpRel C hc w0 ρ H w) {ts:Array TypeId} {ty:TypeId} {xs:List SV} {us:List Value} (hx:SV.IsL C.σ ρ xs us):(opCopyB cc H ts xs).Ok cc C hc w0 ρ H w (do pure (.value (← Builtin.copy_ ts ty us.toArray))):=by
 have h0:=opCopyT_ok (ts:=ts) (ty:=ty) hcc h hx
 unfold opCopyB
 split
 ·split
  ·split
   ·split
    ·split
     ·rename_i H1 ha
      obtain ⟨h1,h2⟩:=arrfy_ok hcc h ha
      exact OpR.ok_pre h2 (opCopyT_ok hcc h1 hx)
     ·trivial
    ·trivial
   ·trivial
  ·trivial
 ·exact h0
def opClearB (cc:Cc) (H:Hp) (ts:Array TypeId) (xs:List SV):OpR:=
 match opClear cc H ts xs with
 | .bad n=>match lnth ts.toList 0,xs with
   | some t,[.sl (.n id) _ _ _]=>match cc.P.underlying t with
     | some (.slice e)=>match layT cc.P 6 e with
       | some lay=>match arrfy cc H id lay with
         | some H1=>opClear cc H1 ts xs
         | none=>.bad n
       | none=>.bad n
     | _=>.bad n
   | _,_=>.bad n
 | r=>r
theorem opClearB_ok (hcc:cc.Ok C) (h:HpRel C hc w0 ρ H w) {ts:Array TypeId} {ty:TypeId} {xs:List SV} {us:List Value} (hx:SV.IsL C.σ ρ xs us):(opClearB cc H ts xs).Ok cc C hc w0 ρ H w (do pure (.value (← Builtin.clear_ ts ty us.toArray))):=by
 have h0:=opClear_ok (ts:=ts) (ty:=ty) hcc h hx
 unfold opClearB
 split
 ·split
  ·split
   ·split
    ·split
     ·rename_i H1 ha
      obtain ⟨h1,h2⟩:=arrfy_ok hcc h ha
      exact OpR.ok_pre h2 (opClear_ok hcc h1 hx)
     ·trivial
    ·trivial
   ·trivial
  ·trivial
 ·exact h0
def ownCs (bk:Bk):Bool:=match bk with | .arr _ _ _ _ _=>true | .cells _ _=>true | .row _ _ _ _ _=>true | _=>false
theorem ownCs_ok {bk:Bk} {o:Obj} (h:bk.Is C.σ ρ o) (hb:ownCs bk=true):∃ A t,o=.cells A t (0,0):=by
 cases bk<;>first | cases hb | skip
 ·obtain ⟨_,_,_,_,_,_,_,_,_,_,rfl⟩:=h;exact ⟨_,_,rfl⟩
 ·obtain ⟨_,_,rfl⟩:=h;exact ⟨_,_,rfl⟩
 ·obtain ⟨_,_,_,_,_,_,rfl⟩:=h;exact ⟨_,_,rfl⟩
def opOv (cc:Cc) (H:Hp) (fn:Func) (args:List SV):OpR:=
 match args with
 | [.sl (.n i) _ _ _,.sl (.n j) _ _ _]=>bif Nat.beq i j then .bad 380 else
   (match get H.heap i,get H.heap j with
   | some x,some y=>bif ownCs x && ownCs y then
     (match fn.params[0]? with
     | some t=>match cc.P.underlying t with
       | some (.slice e)=>match cc.P.info? e with
         | some _=>.val (.bo (.c false)) H
         | none=>.bad 381
       | _=>.bad 382
     | none=>.bad 383) else .bad 384
   | _,_=>.bad 385)
 | _=>.bad 386
theorem run_overlaps_no {P:Program} {w:World} {ps rs:Array TypeId} {t e:TypeId} {i:TypeInfo} (hp:ps[0]? = some t) (hu:P.underlying t=some (.slice e)) (hi:P.info? e=some i) {a b:Nat} (hab:a≠b) {A B:Array Value} {ta tb:TypeId}
  (ha:w.heap[a]? = some (.cells A ta (0,0))) (hb:w.heap[b]? = some (.cells B tb (0,0))) (x y la ca lb cb:Nat) :
  (Extern.SlicesOverlaps.overlaps ps rs #[.slice (some ⟨a,x,none⟩) la ca,.slice (some ⟨b,y,none⟩) lb cb]).run P w=.ok (.bool false) w:=by
 have e0:Extern.SlicesOverlaps.overlaps ps rs #[.slice (some ⟨a,x,none⟩) la ca,.slice (some ⟨b,y,none⟩) lb cb]=(do
  let some t:=ps[0]? | stuck "slices.overlaps: no parameter types"
  let .slice elem ← underlying t | stuck "slices.overlaps: slice type expected"
  let size ← sizeOf elem
  if la=0∨lb=0∨size=0 then pure (.bool false)
  else if (⟨a,x,none⟩:Addr).block != (⟨b,y,none⟩:Addr).block && (← frozen ⟨a,x,none⟩) && (← frozen ⟨b,y,none⟩) then unsupported .addressObserved
  else do
   if (⟨a,x,none⟩:Addr).block != (⟨b,y,none⟩:Addr).block then do
    noView ⟨a,x,none⟩;noView ⟨b,y,none⟩
    if ← mayBeOne ⟨a,x,none⟩ ⟨b,y,none⟩ then return .bool ((← choose (.extern "sameAddr.stringBytes" 2)) == 1)
   pure (.bool ((⟨a,x,none⟩:Addr).block == (⟨b,y,none⟩:Addr).block && (⟨a,x,none⟩:Addr).off < (⟨b,y,none⟩:Addr).off+lb * size && (⟨b,y,none⟩:Addr).off < (⟨a,x,none⟩:Addr).off+la * size))):=rfl
 rw [e0]
 by_cases h0:la=0∨lb=0∨i.size=0
 ·simp [hp,run_underlying hu,sizeOf,typeInfo,hi,h0]
 ·simp [hp,run_underlying hu,sizeOf,typeInfo,hi,h0,hab,World.frozen?,ha,hb,noView,viewAt,World.shape?,mayBeOne,stringish]
theorem opOv_ok (hcc:cc.Ok C) (h:HpRel C hc w0 ρ H w) {g:FuncId} {fn:Func} (hfn:cc.P.funcs[g]? = some fn) (hov:isOv fn=true) {args:List SV} {us:List Value} (ha:SV.IsL C.σ ρ args us) :
  (opOv cc H fn args).Ok cc C hc w0 ρ H w (callFunc g us.toArray):=by
 obtain ⟨hb,hn,hf⟩:=ovOk_ok hov (hcc.ov g fn hfn)
 have hnm:=hcc.names g fn hfn
 unfold opOv
 split
 ·rename_i i o l c j o' l' c'
  cases hij:Nat.beq i j with
  | true=>trivial
  | false=>
    have hne:i≠j:=fun e=>by subst e;simp at hij
    simp only [cond_false]
    split
    ·rename_i bx bz gx gz
     cases hck:(ownCs bx && ownCs bz) with
     | false=>trivial
     | true=>
       rw [Bool.and_eq_true] at hck
       simp only [cond_true]
       split
       ·rename_i t ht
        split
        ·rename_i e hu
         split
         ·rename_i ti hi
          rw [SV.isL_cons] at ha
          obtain ⟨u,r,rfl,h1,h2⟩:=ha
          rw [SV.isL_cons] at h2
          obtain ⟨v,r',rfl,h2,h3⟩:=h2
          rw [SV.isL_nil] at h3
          subst h3
          simp only [SV.Is,SR.den] at h1 h2
          obtain ⟨a,x,la,ca,a1,_,_,_,rfl⟩:=h1
          obtain ⟨b,y,lb,cb,b1,_,_,_,rfl⟩:=h2
          have lx:bx.live=true:=by cases bx<;>first | rfl | cases hck.1
          have lz:bz.live=true:=by cases bz<;>first | rfl | cases hck.2
          obtain ⟨a',oa,a2,a3,a4⟩:=h.blk i bx gx lx
          obtain ⟨b',ob,b2,b3,b4⟩:=h.blk j bz gz lz
          rw [a1] at a2;cases a2
          rw [b1] at b2;cases b2
          obtain ⟨A,ta,rfl⟩:=ownCs_ok a4 hck.1
          obtain ⟨B,tb,rfl⟩:=ownCs_ok b4 hck.2
          have hab:a≠b:=fun e=>by subst e;exact hne (h.inj i j bx bz a gx lx gz lz a1 b1)
          have hr:=run_overlaps_no (rs:=fn.resultTypes) ht hu hi hab a3 b3 x y la ca lb cb
          refine ⟨ρ,.value (.bool false),.bool false,w,Tn.refl ρ H w,?_,.inl rfl,by simp only [SV.Is];exact ⟨false,rfl,rfl⟩,h⟩
          have hnm':¬ fn.name = "runtime.NumGoroutine" := by simpa using hnm
          simp [callFunc,hfn,hnm',hb,hn,hf,hr]
         ·trivial
        ·trivial
       ·trivial
    ·trivial
 ·trivial
end
end
end Go.Sx
namespace Go.Sx
noncomputable section
set_option linter.unusedVariables false
set_option linter.unusedSimpArgs false
open Go.RowKit
section
variable {cc:Cc} {C:Ct} {hc:Nat→Option Obj} {w0:World} {ρ ρ':Dyn} {H:Hp} {w:World}
def zeroCs (cc:Cc) (t:TypeId):Option (List SV):=
 match cc.P.info? t with
 | some i=>match i.zero with
   | some z=>(ofVal z).cells
   | none=>none
 | none=>none
theorem zeroCs_ok {t:TypeId} {l:List SV} (h:zeroCs cc t=some l) (w:World):∃ z,(zeroValue t).run cc.P w=.ok z w∧SV.IsL C.σ ρ l z.cells.toList:=by
 unfold zeroCs at h
 split at h
 ·rename_i i hi
  split at h
  ·rename_i z hz
   exact ⟨z,by simp [zeroValue,typeInfo,hi,hz],SV.cells_is (ofVal_is z) h⟩
  ·cases h
 ·cases h
def mapK (cc:Cc) (t:TypeId):Option (IntKind×IntKind):=
 match cc.P.underlying t with
 | some (.map kt et)=>match cc.P.underlying kt,cc.P.info? et with
   | some (.int kk),some i=>match i.zero with
     | some (.int vk z)=>bif ieq z 0 then some (kk,vk) else none
     | _=>none
   | _,_=>none
 | _=>none
theorem mapK_ok {t:TypeId} {kk vk:IntKind} (h:mapK cc t=some (kk,vk)):∃ kt et,cc.P.underlying t=some (.map kt et)∧cc.P.underlying kt=some (.int kk)∧∀ w,(zeroValue et).run cc.P w=.ok (.int vk 0) w:=by
 unfold mapK at h
 split at h
 ·rename_i kt et hu
  split at h
  ·rename_i kk' i hk hi
   split at h
   ·rename_i vk' z hz
    cases hb:ieq z 0 with
    | false=>rw [hb] at h;cases h
    | true=>
      rw [hb] at h;cases h
      have:=ieq_iff.1 hb;subst this
      exact ⟨kt,et,hu,hk,fun w=>by simp [zeroValue,typeInfo,hi,hz]⟩
   ·cases h
  ·cases h
 ·cases h
theorem mpIs_nil {σ:Sta} (al:ArrLaw σ) {kk vk:IntKind}:MpIs σ kk vk 0 []:=⟨by simp,by simp,fun k _=>al.mz vk k⟩
def opMakeMap (cc:Cc) (H:Hp) (t:TypeId) (r:Option SV):OpR:=
 match mapK cc t,r with
 | some (kk,vk),none=>.val (.mp (.n H.nb)) (H.alloc (.mapc kk vk (.c 0)))
 | some (kk,vk),some (.it _ _)=>.val (.mp (.n H.nb)) (H.alloc (.mapc kk vk (.c 0)))
 | _,_=>.bad 97
theorem opMakeMap_ok (hcc:cc.Ok C) (h:HpRel C hc w0 ρ H w) {t:TypeId} {r:Option SV} {u:Option Value} (hr:OIs C.σ ρ r u):(opMakeMap cc H t r).Ok cc C hc w0 ρ H w (do pure (.value (← Instr.makeMap t u))):=by
 have done:∀ (kk vk:IntKind) (s:Sem Value),s.run cc.P w=.ok (.map (some w.heap.size)) (w.alloc (.map #[] 0))→(OpR.val (.mp (.n H.nb)) (H.alloc (.mapc kk vk (.c 0)))).Ok cc C hc w0 ρ H w (do pure (.value (← s))):=fun kk vk s hs=>
  ⟨ρ.setBl H.nb w.heap.size,.value (.map (some w.heap.size)),.map (some w.heap.size),w.alloc (.map #[] 0),Tn.of_alloc ρ H w _ _,by simp [hs],.inl rfl,by simp only [SV.Is,SR.den];exact ⟨_,Dyn.setBl_same _ _ _,rfl⟩,
   h.alloc' ⟨0,[],0,rfl,mpIs_nil hcc.al,rfl⟩⟩
 unfold opMakeMap
 split
 ·cases u with
  | none=>exact done _ _ _ rfl
  | some v=>exact hr.elim
 ·rename_i kk vk k e hm
  obtain ⟨kt,et,hu,_,_⟩:=mapK_ok hm
  cases u with
  | none=>exact hr.elim
  | some v=>
    simp only [OIs,SV.Is] at hr
    obtain ⟨n,e1,rfl⟩:=hr
    exact done _ _ _ (by simp [Instr.makeMap,underlying,hu,asInt,asIntOf])
 ·trivial
def gmD (vk:IntKind) (c x:SI):SI:=.ap vk.ctorIdx c x (.c 0) (.c 1) (.c 0) (.c 0)
def isS (f:Nat) (a2 a4 a5:SI):Bool:=bif Nat.beq f 8 then (bif a2.beq (.c 0) then (bif a4.beq (.c 1) then a5.beq (.c 0) else false) else false) else false
def gmS (cc:Cc) (H:Hp) (vk:IntKind) (x:SI) (c:SI):SI:=
 SI.rec (motive:=fun _=>SI) (fun n=>bif ieq n 0 then .c 0 else gmD vk (.c n) x) (fun i=>gmD vk (.v i) x) (fun i=>gmD vk (.d i) x) (fun f a b _ _=>gmD vk (.op f a b) x) (fun k a _=>gmD vk (.wk k a) x)
  (fun f a0 a1 a2 a3 a4 a5 ih0 _ _ _ _ _=>bif isS f a2 a4 a5 then (bif a1.beq x then SI.wr (bdOf cc H) vk a3 else match dec (bdOf cc H) H.facts (.eq x a1) with
   | .yes true=>SI.wr (bdOf cc H) vk a3
   | .yes false=>ih0
   | _=>gmD vk (.ap f a0 a1 a2 a3 a4 a5) x) else gmD vk (.ap f a0 a1 a2 a3 a4 a5) x) c
theorem gmD_den {vk:IntKind} {c x:SI} {cv xv:Int} (hc:c.den C.σ ρ=some cv) (hx:x.den C.σ ρ=some xv):(gmD vk c x).den C.σ ρ=some (gm C.σ vk cv xv):=by
 simp [gmD,SI.den,hc,hx,gm]
theorem gmS_den (hcc:cc.Ok C) (h:HpRel C hc w0 ρ H w) {vk:IntKind} {x:SI} {xv:Int} (hx:x.den C.σ ρ=some xv):∀ {c:SI} {cv:Int},c.den C.σ ρ=some cv→(gmS cc H vk x c).den C.σ ρ=some (gm C.σ vk cv xv):=by
 intro c
 induction c with
 | c n=>
   intro cv hc
   show (bif ieq n 0 then SI.c 0 else gmD vk (.c n) x).den C.σ ρ=_
   cases hb:ieq n 0 with
   | true=>
     have:=ieq_iff.1 hb;subst this
     cases hc
     rw [hcc.al.mz];rfl
   | false=>exact gmD_den hc hx
 | v i=>intro cv hc;exact gmD_den hc hx
 | d i=>intro cv hc;exact gmD_den hc hx
 | op f a b _ _=>intro cv hc;exact gmD_den hc hx
 | wk k a _=>intro cv hc;exact gmD_den hc hx
 | ap f a0 a1 a2 a3 a4 a5 ih0 _ _ _ _ _=>
   intro cv hc
   show (bif isS f a2 a4 a5 then (bif a1.beq x then SI.wr (bdOf cc H) vk a3 else match dec (bdOf cc H) H.facts (.eq x a1) with
    | .yes true=>SI.wr (bdOf cc H) vk a3
    | .yes false=>gmS cc H vk x a0
    | _=>gmD vk (.ap f a0 a1 a2 a3 a4 a5) x) else gmD vk (.ap f a0 a1 a2 a3 a4 a5) x).den C.σ ρ=_
   cases hs:isS f a2 a4 a5 with
   | false=>exact gmD_den hc hx
   | true=>
     have hs':(bif Nat.beq f 8 then (bif a2.beq (.c 0) then (bif a4.beq (.c 1) then a5.beq (.c 0) else false) else false) else false)=true:=hs
     simp only [cond_true_iff] at hs'
     obtain ⟨s1,s2,s3,s4⟩:=hs'
     have:=Nat.eq_of_beq_eq_true s1;subst this
     have:=SI.beq_eq s2;subst this
     have:=SI.beq_eq s3;subst this
     have:=SI.beq_eq s4;subst this
     simp only [SI.den,Option.bind_eq_some_iff,Option.some.injEq] at hc
     obtain ⟨c0,e0,k0,e1,z0,rfl,y0,e3,o0,rfl,z1,rfl,rfl⟩:=hc
     have hset:=hcc.al.ms vk c0 k0 y0 xv
     have hwr:(SI.wr (bdOf cc H) vk a3).den C.σ ρ=some (vk.wrap y0):=SI.wr_den (bdOf_ok hcc h) e3
     have heq:(SB.eq x a1).den C.σ ρ=some (decide (xv=k0)):=by simp [SB.den,hx,e1]
     simp only [cond_true]
     cases hb:a1.beq x with
     | true=>
       have:=SI.beq_eq hb;subst this
       rw [e1] at hx;cases hx
       rw [hset,if_pos rfl];exact hwr
     | false=>
       simp only [cond_false]
       split
       ·rename_i hd
        have hk:xv=k0:=by simpa using (dec_ok (bdOf_ok hcc h) h.facts heq hd).symm
        rw [hset,if_pos hk];exact hwr
       ·rename_i hd
        have hk:¬ xv=k0:=by simpa using (dec_ok (bdOf_ok hcc h) h.facts heq hd).symm
        rw [hset,if_neg hk];exact ih0 e0
       ·exact gmD_den (by simp [SI.den,e0,e1,e3]) hx
def opLookup (cc:Cc) (H:Hp) (t:TypeId) (m x:SV):OpR:=
 match mapK cc t,m,x with
 | some (kk,vk),.mp (.n id),.it k e=>match get H.heap id with
   | some (.mapc kk' vk' c)=>bif keq k kk then (bif keq kk kk' then (bif keq vk vk' then .val (.it vk (gmS cc H vk e c)) H else .bad 400) else .bad 401) else .bad 402
   | _=>.bad 403
 | _,_,_=>.bad 404
theorem opLookup_ok (hcc:cc.Ok C) (h:HpRel C hc w0 ρ H w) {t:TypeId} {m x:SV} {um ux:Value} (hm:m.Is C.σ ρ um) (hx:x.Is C.σ ρ ux):(opLookup cc H t m x).Ok cc C hc w0 ρ H w (do pure (.value (← Instr.lookup t um ux false))):=by
 unfold opLookup
 split
 ·rename_i kk vk id k e hmk
  obtain ⟨kt,et,hu,hk,hz⟩:=mapK_ok hmk
  split
  ·rename_i kk' vk' c hg
   cases h1:keq k kk with
   | false=>trivial
   | true=>
   cases h2:keq kk kk' with
   | false=>trivial
   | true=>
   cases h3:keq vk vk' with
   | false=>trivial
   | true=>
   have:=keq_eq h1;subst this
   have:=keq_eq h2;subst this
   have:=keq_eq h3;subst this
   simp only [SV.Is] at hm hx
   obtain ⟨b,e1,rfl⟩:=hm
   obtain ⟨xv,e2,rfl⟩:=hx
   obtain ⟨b2,o,e3,e4,cv,l,clock,e5,hmp,rfl⟩:=h.blk id _ hg rfl
   have:b2=b:=by simp only [SR.den] at e1;rw [e3] at e1;exact Option.some.inj e1
   subst this
   refine OpR.ok_pure h (u:=.int vk (gm C.σ vk cv xv)) ?_ (by simp only [SV.Is];exact ⟨_,gmS_den hcc h e2 e5,rfl⟩)
   have hkey:MapKept.IsKey (.int k) (.int k xv):=rfl
   have hks:∀ y∈l,MapKept.IsKey (.int k) y.key:=fun y hy=>by obtain ⟨q,hq,_⟩:=hmp.1 y hy;rw [hq];rfl
   rcases MapKept.findNow_spec hkey l 0 hks with ⟨f1,f2⟩ | ⟨j,e',f1,f2,f3⟩
   ·simp [Instr.lookup,underlying,hu,MapKept.run_getObj_map e4,MapKept.run_checkKey hk hkey,MapKept.run_findKey hk f1,hz,Result.andThen]
    rw [hmp.2.2 xv f2]
   ·simp [Instr.lookup,underlying,hu,MapKept.run_getObj_map e4,MapKept.run_checkKey hk hkey,MapKept.run_findKey hk f1,Result.andThen]
    obtain ⟨q,q1,q2⟩:=hmp.1 e' (List.mem_of_getElem? f2)
    rw [f3] at q1
    simp only [Value.int.injEq,true_and] at q1
    rw [q2,q1]
  ·trivial
 ·trivial
theorem mpIs_push {σ:Sta} (al:ArrLaw σ) {kk vk:IntKind} {c x y:Int} {l:List MapEntry} (h:MpIs σ kk vk c l) (hn:∀ e∈l,e.key≠.int kk x) (hy:vk.wrap y=y) (n:Nat) :
  MpIs σ kk vk (σ.fi 8 c x 0 y 1 0) (l++[{ key:=.int kk x,val:=.int vk y,born:=n }]):=by
 obtain ⟨h1,h2,h3⟩:=h
 refine ⟨fun e he=>?_,?_,fun k hk=>?_⟩
 ·rcases List.mem_append.1 he with he | he
  ·obtain ⟨k,q1,q2⟩:=h1 e he
   refine ⟨k,q1,?_⟩
   rw [q2,al.ms,if_neg]
   intro hkx
   exact hn e he (by rw [q1,hkx])
  ·simp only [List.mem_singleton] at he
   subst he
   exact ⟨x,rfl,by rw [al.ms,if_pos rfl,hy]⟩
 ·rw [List.map_append,List.nodup_append]
  refine ⟨h2,by simp,?_⟩
  intro a ha b hb
  simp only [List.map_cons,List.map_nil,List.mem_singleton] at hb
  subst hb
  obtain ⟨e,he,rfl⟩:=List.mem_map.1 ha
  exact hn e he
 ·have hkx:¬ k=x:=fun hkx=>hk _ (List.mem_append_right _ (List.mem_singleton.2 rfl)) (by rw [hkx])
  rw [al.ms,if_neg hkx]
  exact h3 k fun e he=>hk e (List.mem_append_left _ he)
theorem mpIs_modify {σ:Sta} (al:ArrLaw σ) {kk vk:IntKind} {c x y:Int} {l:List MapEntry} (h:MpIs σ kk vk c l) {j:Nat} {e0:MapEntry} (hj:l[j]? = some e0) (hk0:e0.key=.int kk x) (hy:vk.wrap y=y) :
  MpIs σ kk vk (σ.fi 8 c x 0 y 1 0) (l.modify j fun e=>{ e with key:=.int kk x,val:=.int vk y }):=by
 obtain ⟨h1,h2,h3⟩:=h
 have hkeys:(l.modify j fun e=>{ e with key:=.int kk x,val:=.int vk y }).map (·.key)=l.map (·.key):=by
  apply List.ext_getElem?
  intro i
  simp only [List.getElem?_map,List.getElem?_modify]
  by_cases hi:j=i
  ·subst hi;rw [hj];simp [hk0]
  ·simp [hi]
 refine ⟨fun e he=>?_,by rw [hkeys];exact h2,fun k hk=>?_⟩
 ·obtain ⟨i,hi⟩:=List.mem_iff_getElem?.1 he
  rw [List.getElem?_modify] at hi
  by_cases hij:j=i
  ·subst hij
   rw [hj] at hi
   simp only [if_true,Option.map_eq_map,Option.map_some,Option.some.injEq] at hi
   subst hi
   exact ⟨x,rfl,by rw [al.ms,if_pos rfl,hy]⟩
  ·have hi':l[i]? = some e:=by
    cases hq:l[i]? with
    | none=>rw [hq] at hi;cases hi
    | some q=>rw [hq] at hi;simp [hij] at hi;rw [hi]
   obtain ⟨k,q1,q2⟩:=h1 e (List.mem_of_getElem? hi')
   refine ⟨k,q1,?_⟩
   rw [q2,al.ms,if_neg]
   intro hkx
   have k1:(l.map (·.key))[i]? = some (.int kk x):=by rw [List.getElem?_map,hi'];simp [q1,hkx]
   have k2:(l.map (·.key))[j]? = some (.int kk x):=by rw [List.getElem?_map,hj];simp [hk0]
   have hlt:j < (l.map (·.key)).length:=(List.getElem?_eq_some_iff.1 k2).1
   exact hij ((List.getElem?_inj hlt h2).1 (k2.trans k1.symm))
 ·have hmem:∀ e∈l,e.key≠.int kk k:=fun e he hek=>by
   have:e.key∈(l.modify j fun e=>{ e with key:=.int kk x,val:=.int vk y }).map (·.key):=by rw [hkeys];exact List.mem_map_of_mem he
   obtain ⟨e2,he2,hee⟩:=List.mem_map.1 this
   exact hk e2 he2 (by rw [hee,hek])
  have hkx:¬ k=x:=fun hkx=>hmem e0 (List.mem_of_getElem? hj) (by rw [hk0,hkx])
  rw [al.ms,if_neg hkx]
  exact h3 k hmem
def opMapUp (cc:Cc) (H:Hp) (t:TypeId) (m x y:SV):OpR:=
 match mapK cc t,m,x,y with
 | some (kk,vk),.mp (.n id),.it k e,.it k2 a=>match get H.heap id,rg (bdOf cc H) a with
   | some (.mapc kk' vk' c),(some lo,some hi)=>bif keq k kk && (keq kk kk' && (keq vk vk' && (keq k2 vk && (ile (kmin vk) lo && ile hi (kmax vk))))) then .val (.tp []) (H.put id (.mapc kk vk (.ap 8 c e (.c 0) a (.c 1) (.c 0)))) else .bad 405
   | _,_=>.bad 406
 | _,_,_,_=>.bad 407
theorem opMapUp_ok (hcc:cc.Ok C) (h:HpRel C hc w0 ρ H w) {t:TypeId} {m x y:SV} {um ux uy:Value} (hm:m.Is C.σ ρ um) (hx:x.Is C.σ ρ ux) (hy:y.Is C.σ ρ uy):(opMapUp cc H t m x y).Ok cc C hc w0 ρ H w (do Instr.mapUpdate t um ux uy;pure .skip):=by
 unfold opMapUp
 split
 ·rename_i kk vk id k e k2 a hmk
  obtain ⟨kt,et,hu,hk,hz⟩:=mapK_ok hmk
  split
  ·rename_i kk' vk' c lo hi hg hrg
   cases hck:(keq k kk && (keq kk kk' && (keq vk vk' && (keq k2 vk && (ile (kmin vk) lo && ile hi (kmax vk)))))) with
   | false=>trivial
   | true=>
   simp only [Bool.and_eq_true] at hck
   obtain ⟨h1,h2,h3,h4,h5,h6⟩:=hck
   have:=keq_eq h1;subst this
   have:=keq_eq h2;subst this
   have:=keq_eq h3;subst this
   have:=keq_eq h4;subst this
   have h5:=ile_iff.1 h5
   have h6:=ile_iff.1 h6
   simp only [SV.Is] at hm hx hy
   obtain ⟨b,e1,rfl⟩:=hm
   obtain ⟨xv,e2,rfl⟩:=hx
   obtain ⟨yv,e2',rfl⟩:=hy
   obtain ⟨b2,o,e3,e4,cv,l,clock,e5,hmp,rfl⟩:=h.blk id _ hg rfl
   have:b2=b:=by simp only [SR.den] at e1;rw [e3] at e1;exact Option.some.inj e1
   subst this
   have hin:=rg_ok (bdOf_ok hcc h) a yv e2'
   rw [hrg] at hin
   have hw:k2.wrap yv=yv:=wrap_in k2 yv (by have:=hin.1 lo rfl;omega) (by have:=hin.2 hi rfl;omega)
   have hkey:MapKept.IsKey (.int k) (.int k xv):=rfl
   have hks:∀ y∈l,MapKept.IsKey (.int k) y.key:=fun y hy=>by obtain ⟨q,hq,_⟩:=hmp.1 y hy;rw [hq];rfl
   have hset:∀ (l':List MapEntry) (ck:Nat),MpIs C.σ k k2 (C.σ.fi 8 cv xv 0 yv 1 0) l'→(Instr.mapUpdate t (.map (some b2)) (.int k xv) (.int k2 yv)).run cc.P w=.ok () { w with heap:=w.heap.setIfInBounds b2 (.map l'.toArray ck) }→
     (OpR.val (.tp []) (H.put id (.mapc k k2 (.ap 8 c e (.c 0) a (.c 1) (.c 0))))).Ok cc C hc w0 ρ H w (do Instr.mapUpdate t (.map (some b2)) (.int k xv) (.int k2 yv);pure .skip):=by
    intro l' ck hl' hrun
    obtain ⟨s1,s2⟩:=MapKept.heap_set (o':=.map l'.toArray ck) e4
    refine ⟨ρ,.skip,undef,{ w with heap:=w.heap.setIfInBounds b2 (.map l'.toArray ck) },Tn.of_put e3 (fun i hi=>s2 i hi) (by simp),by simp [hrun],.inr ⟨rfl,rfl⟩,?_,?_⟩
    ·simp only [SV.Is];exact ⟨[],SV.isL_nil.2 rfl,rfl⟩
    ·refine h.put hg rfl e3 (o:=.map l'.toArray ck) (w':={ w with heap:=w.heap.setIfInBounds b2 (.map l'.toArray ck) }) rfl ?_ (fun i hi=>s2 i hi) s1 (by simp) rfl rfl rfl
     exact ⟨_,l',ck,by simp [SI.den,e5,e2,e2'],hl',rfl⟩
   rcases MapKept.findNow_spec hkey l 0 hks with ⟨f1,f2⟩ | ⟨j,e',f1,f2,f3⟩
   ·refine hset (l++[{ key:=.int k xv,val:=.int k2 yv,born:=clock }]) (clock+1) (mpIs_push hcc.al hmp f2 hw clock) ?_
    simp [Instr.mapUpdate,underlying,hu,MapKept.run_getObj_map e4,MapKept.run_checkKey hk hkey,MapKept.run_findKey hk f1,MapKept.run_setObj_map _ e4,Result.andThen]
   ·refine hset (l.modify j fun e=>{ e with key:=.int k xv,val:=.int k2 yv }) clock (mpIs_modify hcc.al hmp f2 f3 hw) ?_
    simp [Instr.mapUpdate,underlying,hu,MapKept.run_getObj_map e4,MapKept.run_checkKey hk hkey,MapKept.run_findKey hk f1,MapKept.run_setObj_map _ e4,Result.andThen,f2,f3,MapKept.run_keyThatStays hkey]
  ·trivial
 ·trivial
end
end
end Go.Sx
namespace Go.Sx
noncomputable section
set_option linter.unusedVariables false
set_option linter.unusedSimpArgs false
open Go.RowKit
section
variable {cc:Cc} {C:Ct} {hc:Nat→Option Obj} {w0:World} {ρ ρ':Dyn} {H:Hp} {w:World}
def evPs (T:List (Nat×SV)) (ps:Array (Nat×Operand)):List (Nat×SV):=lmap (fun p=>(p.1,ev T p.2)) ps.toList
theorem evPs_is {T:List (Nat×SV)} {e:Operand→Value} (h:EvOk C ρ T e) (ps:Array (Nat×Operand)):PartsRel C.σ ρ (evPs T ps) (ps.map fun (i,x)=>(i,e x)).toList:=by
 unfold evPs
 rw [lmap_eq,Array.toList_map]
 generalize ps.toList=l
 induction l with
 | nil=>simp [PartsRel]
 | cons a l ih=>exact ⟨e a.2,_,rfl,h a.2,ih⟩
def placeS (cc:Cc) (fs:Array Field) (i:Nat):Option (Nat×Nat):=
 match lnth fs.toList i with
 | some f=>some (f.offset,cc.P.cellsOf f.type)
 | none=>none
def opBuild (cc:Cc) (H:Hp) (t:TypeId) (ps:List (Nat×SV)):OpR:=
 match cc.P.underlying t,zeroCs cc t with
 | some (.struct fs),some z=>match lall (fun f=>(cc.P.info? f.type).isSome) fs.toList,sfill (placeS cc fs) z ps with
   | true,some l=>.val (.ag l) H
   | _,_=>.bad 70
 | some (.array _ e),some z=>match aggOf cc.P e with
   | some (_,sz)=>match sfill (fun i=>some (Nat.mul i sz,sz)) z ps with
     | some l=>.val (.ag l) H
     | none=>.bad 71
   | none=>.bad 72
 | _,_=>.bad 73
theorem run_placesS {fs:Array Field} (hfs:lall (fun f=>(cc.P.info? f.type).isSome) fs.toList=true) (w:World) :
  (fs.mapM (fun f=>do pure (f.offset,← sizeOf f.type):Field→Sem (Nat×Nat))).run cc.P w=.ok (fs.map fun f=>(f.offset,cc.P.cellsOf f.type)) w:=by
 have key:∀ l:List Field,(∀ f∈l,(cc.P.info? f.type).isSome=true)→(l.mapM (fun f=>do pure (f.offset,← sizeOf f.type):Field→Sem (Nat×Nat))).run cc.P w=.ok (l.map fun f=>(f.offset,cc.P.cellsOf f.type)) w:=by
  intro l
  induction l with
  | nil=>intro _;simp
  | cons f l ih=>
    intro hl
    have h1:=hl f (by simp)
    obtain ⟨i,hi⟩:=Option.isSome_iff_exists.1 h1
    have h2:=ih fun g hg=>hl g (by simp [hg])
    simp [List.mapM_cons,sizeOf,typeInfo,hi,h2,Program.cellsOf]
    simp [sizeOf,typeInfo] at h2
    simp [h2,Program.cellsOf]
 have:=key fs.toList (lall_iff.1 hfs)
 rw [Array.mapM_eq_mapM_toList]
 simp only [Sem.run_map,this,Result.andThen_ok]
 congr 1
 apply Array.ext'
 simp
theorem opBuild_ok (hcc:cc.Ok C) (h:HpRel C hc w0 ρ H w) {t:TypeId} {ps:List (Nat×SV)} {vs:Array (Nat×Value)} (hp:PartsRel C.σ ρ ps vs.toList):(opBuild cc H t ps).Ok cc C hc w0 ρ H w (do pure (.value (← Instr.build t vs))):=by
 unfold opBuild
 split
 ·rename_i fs z hu hz
  split
  ·rename_i l hfs hl
   obtain ⟨zv,e1,e2⟩:=zeroCs_ok (C:=C) (ρ:=ρ) hz w
   have hpl:(fun i=>(fs.map fun f=>(f.offset,cc.P.cellsOf f.type))[i]?)=placeS cc fs:=by
    funext i
    simp only [placeS,lnth_eq,Array.getElem?_map,Array.getElem?_toList]
    cases fs[i]? <;> rfl
   obtain ⟨B,e3,e4⟩:=sfill_ok e2 hp hl
   refine OpR.ok_pure h (u:=.agg B) ?_ (by simp only [SV.Is];exact ⟨B.toList,e4,by simp⟩)
   have hpl2:=run_placesS hfs w
   simp only [Instr.build,Sem.run_bind,e1,Result.andThen_ok,underlying,run_program,hu,Sem.run_pure,hpl2,hpl,e3]
  ·trivial
 ·rename_i n e z hu hz
  split
  ·rename_i g sz ha
   split
   ·rename_i l hl
    obtain ⟨zv,e1,e2⟩:=zeroCs_ok (C:=C) (ρ:=ρ) hz w
    obtain ⟨B,e3,e4⟩:=sfill_ok e2 hp hl
    obtain ⟨_,h2,_⟩:=aggOf_ok ha w
    have e3':Instr.fill (fun i=>some (i * sz,sz)) zv.cells vs.toList=some B:=e3
    refine OpR.ok_pure h (u:=.agg B) ?_ (by simp only [SV.Is];exact ⟨B.toList,e4,by simp⟩)
    simp only [Instr.build,Sem.run_bind,e1,Result.andThen_ok,underlying,run_program,hu,Sem.run_pure,h2,e3']
   ·trivial
  ·trivial
 ·trivial
def lrep {α:Type} (n:Nat) (a:α):List α:=Nat.rec (motive:=fun _=>List α) [] (fun _ ih=>a::ih) n
theorem lrep_eq {α:Type} (n:Nat) (a:α):lrep n a=List.replicate n a:=by
 induction n with
 | zero=>rfl
 | succ n ih=>show a::lrep n a=_;rw [ih];rfl
theorem isL_any:∀ (us:List Value),SV.IsL C.σ ρ (List.replicate us.length .any) us
 | []=>by simp [SV.isL_nil]
 | u::us=>SV.isL_cons.2 ⟨u,us,rfl,by simp [SV.Is],isL_any us⟩
def opBuildSlice (cc:Cc) (H:Hp) (t:TypeId) (len:Nat) (ps:List (Nat×SV)):OpR:=
 match cc.P.underlying t with
 | some (.slice e)=>match aggOf cc.P e,zeroCs cc e with
   | some (_,sz),some _=>bif Nat.ble (Nat.mul len sz) 16777216 then (match sfill (fun i=>some (Nat.mul i sz,sz)) (lrep (Nat.mul len sz) .any) ps with
     | some l=>.val (.sl (.n H.nb) (.c 0) (.c (.ofNat len)) (.c (.ofNat len))) (H.alloc (.cells l e))
     | none=>.bad 74) else .bad 75
   | _,_=>.bad 76
 | _=>.bad 77
theorem opBuildSlice_ok (h:HpRel C hc w0 ρ H w) {t:TypeId} {len:Nat} {ps:List (Nat×SV)} {vs:Array (Nat×Value)} (hp:PartsRel C.σ ρ ps vs.toList):(opBuildSlice cc H t len ps).Ok cc C hc w0 ρ H w (do pure (.value (← Instr.buildSlice t len vs))):=by
 unfold opBuildSlice
 split
 ·rename_i e hu
  split
  ·rename_i g sz z ha hz
   cases hb:Nat.ble (Nat.mul len sz) 16777216 with
   | false=>trivial
   | true=>
     have hle:len * sz≤16777216:=Nat.le_of_ble_eq_true hb
     dsimp only [cond_true]
     split
     ·rename_i l hl
      obtain ⟨zv,e1,_⟩:=zeroCs_ok (C:=C) (ρ:=ρ) hz w
      obtain ⟨_,h2,_⟩:=aggOf_ok ha w
      have hany:∀ z:Array Value,SV.IsL C.σ ρ (lrep (Nat.mul len sz) .any) ((Array.range (len * sz)).map (fun i=>z[i % z.size]!)).toList:=by
       intro z
       rw [lrep_eq]
       have:=isL_any (C:=C) (ρ:=ρ) ((Array.range (len * sz)).map (fun i=>z[i % z.size]!)).toList
       simpa using this
      obtain ⟨B,e3,e4⟩:=sfill_ok (hany (if len * sz=0 then #[] else zv.cells)) hp hl
      have e3':Instr.fill (fun i=>some (i * sz,sz)) ((Array.range (len * sz)).map (fun i=>(if len * sz=0 then #[] else zv.cells)[i % (if len * sz=0 then #[] else zv.cells).size]!)) vs.toList=some B:=e3
      have hle2:=h.le_alloc w.heap.size
      refine ⟨ρ.setBl H.nb w.heap.size,.value (.slice (some ⟨w.heap.size,0,none⟩) len len),.slice (some ⟨w.heap.size,0,none⟩) len len,w.alloc (.cells B e),Tn.of_alloc ρ H w _ _,?_,.inl rfl,?_,?_⟩
      ·simp only [Instr.buildSlice,Sem.run_bind,Result.andThen_ok,underlying,run_program,hu,Sem.run_pure,h2]
       rw [if_neg (by omega)]
       by_cases h0:len * sz=0
       ·simp only [h0,if_true,Sem.run_pure,Result.andThen_ok] at e3' ⊢
        simp only [e3',newRow,Sem.run_bind,run_newObj,Result.andThen_ok,Sem.run_pure]
        rfl
       ·simp only [h0,if_false,Sem.run_pure,Result.andThen_ok,Sem.run_bind,e1] at e3' ⊢
        simp only [e3',newRow,Sem.run_bind,run_newObj,Result.andThen_ok,Sem.run_pure]
        rfl
      ·simp only [SV.Is,SR.den];exact ⟨_,0,len,len,Dyn.setBl_same _ _ _,rfl,rfl,rfl,rfl⟩
      ·exact h.alloc' ⟨B.toList,SV.isL_mono hle2 _ _ e4,by simp⟩
     ·trivial
  ·trivial
 ·trivial
def opUn (cc:Cc) (H:Hp) (op:UnOp) (x:SV):OpR:=
 match op,x with
 | .not,.bo p=>.val (.bo (nrm cc H (.not p))) H
 | .neg,.it k a=>.val (.it k (SI.wr (bdOf cc H) k (SI.sub (.c 0) a))) H
 | .xor,.it k a=>.val (.it k (SI.bop (.bxor k) (.c (bif k.signed then -1 else kmax k)) a)) H
 | _,_=>.bad 80
theorem opUn_ok (hcc:cc.Ok C) (h:HpRel C hc w0 ρ H w) {op:UnOp} {x:SV} {u:Value} (hx:x.Is C.σ ρ u):(opUn cc H op x).Ok cc C hc w0 ρ H w (do pure (.value (← Op.unary op u))):=by
 unfold opUn
 split
 ·rename_i p
  simp only [SV.Is] at hx
  obtain ⟨b,e1,rfl⟩:=hx
  exact OpR.ok_pure h (u:=.bool !b) (by simp [Op.unary]) (by simp only [SV.Is];exact ⟨!b,nrm_den hcc h (by simp [SB.den,e1]),rfl⟩)
 ·rename_i k a
  simp only [SV.Is] at hx
  obtain ⟨n,e1,rfl⟩:=hx
  exact OpR.ok_pure h (u:=.int k (k.wrap (0 - n))) (by simp [Op.unary,Op.intArith]) (by simp only [SV.Is];exact ⟨_,SI.wr_den (bdOf_ok hcc h) (SI.sub_den rfl e1),rfl⟩)
 ·rename_i k a
  simp only [SV.Is] at hx
  obtain ⟨n,e1,rfl⟩:=hx
  refine OpR.ok_pure h (u:=.int k (IB.eval (.bxor k) (if k.signed then -1 else k.max) n)) (by simp [Op.unary,Op.intBits,IB.eval]) ?_
  simp only [SV.Is]
  refine ⟨_,SI.bop_den (f:=.bxor k) (a:=if k.signed then -1 else k.max) ?_ e1,rfl⟩
  rw [← kmax_eq]
  cases k.signed<;>rfl
 ·trivial
def opConv (cc:Cc) (H:Hp) (s d:TypeId) (x:SV):OpR:=
 match cc.P.underlying s,cc.P.underlying d,x with
 | some _,some (.int k),.it _ a=>.val (.it k (SI.wr (bdOf cc H) k a)) H
 | some .string,some .string,.st a=>.val (.st a) H
 | _,_,_=>.bad 81
theorem opConv_ok (hcc:cc.Ok C) (h:HpRel C hc w0 ρ H w) {s d:TypeId} {x:SV} {u:Value} (hx:x.Is C.σ ρ u):(opConv cc H s d x).Ok cc C hc w0 ρ H w (do pure (.value (← convert s d u))):=by
 unfold opConv
 split
 ·rename_i ds k k' a hs hd
  simp only [SV.Is] at hx
  obtain ⟨n,e1,rfl⟩:=hx
  refine OpR.ok_pure h (u:=.int k (k.wrap n)) ?_ (by simp only [SV.Is];exact ⟨_,SI.wr_den (bdOf_ok hcc h) e1,rfl⟩)
  simp only [convert,underlying,Sem.run_bind,run_program,Result.andThen_ok,hs,hd,Sem.run_pure,Conv.intToInt]
 ·rename_i a hs hd
  simp only [SV.Is] at hx
  subst hx
  refine OpR.ok_pure h (u:=.string (a.den C.σ)) ?_ (by simp [SV.Is])
  simp only [convert,underlying,Sem.run_bind,run_program,Result.andThen_ok,hs,hd,Sem.run_pure]
 ·trivial
def opExtract (H:Hp) (x:SV) (i:Nat):OpR:=
 match x with
 | .tp l=>match lnth l i with
   | some z=>.val z H
   | none=>.bad 82
 | _=>.bad 83
theorem opExtract_ok (h:HpRel C hc w0 ρ H w) {x:SV} {u:Value} {i:Nat} (hx:x.Is C.σ ρ u):(opExtract H x i).Ok cc C hc w0 ρ H w (do pure (.value (← Instr.extract u i))):=by
 unfold opExtract
 split
 ·split
  ·rename_i l z hz
   rw [lnth_eq] at hz
   simp only [SV.Is] at hx
   obtain ⟨us,e1,rfl⟩:=hx
   obtain ⟨v,e2,e3⟩:=SV.isL_get e1 hz
   exact OpR.ok_pure h (u:=v) (by simp [Instr.extract,e2]) e3
  ·trivial
 ·trivial
def SV.nonNil:SV→Bool
 | .pt _ _ | .fn _ _ _ | .yl _ | .sl _ _ _ _ | .sn | .mp _ | .mn | .fc _ _=>true
 | _=>false
theorem nilCheck_ok {x:SV} {u:Value} (hx:x.Is C.σ ρ u) (hn:x.nonNil=true) :
  (match u with
  | .pointer none | .nilIface | .nilFunc=>(runtimePanic .nilDeref:Sem Next)
  | .func (.method name) first captured=>
    match (first[0]?:Option Value) with
    | some .nilIface=>runtimePanic .nilDeref
    | some (.iface t w)=>do
      if (← nilAhead ((← program).types.size+Made.depth) t w name) != some false then
       unsupported (.noEntry "op/nilCheck.the method's receiver behind this interface value is a nil pointer, or cannot be seen to be none, and the arguments act or may panic (ledger 612)")
      pure (.value (.func (.method name) first captured))
    | _=>pure (.value (.func (.method name) first captured))
  | x=>pure (.value x))=pure (Next.value u):=by
 cases x<;>simp only [SV.nonNil,Bool.false_eq_true] at hn<;>simp only [SV.Is] at hx
 case pt=>obtain ⟨_,_,_,_,rfl⟩:=hx;rfl
 case sl=>obtain ⟨_,_,_,_,_,_,_,_,rfl⟩:=hx;rfl
 case sn=>subst hx;rfl
 case mp=>obtain ⟨_,_,rfl⟩:=hx;rfl
 case mn=>subst hx;rfl
 case fn=>obtain ⟨_,_,_,_,rfl⟩:=hx;rfl
 case yl=>obtain ⟨_,_,rfl⟩:=hx;rfl
 case fc=>obtain ⟨_,_,rfl⟩:=hx;rfl
def opLen (cc:Cc) (H:Hp) (ts:Array TypeId) (xs:List SV):OpR:=
 match lnth ts.toList 0,xs with
 | some t,[x]=>match cc.P.underlying t,x with
   | some (.slice _),.sl _ _ l _=>.val (.it .i64 l) H
   | some (.slice _),.sn=>.val (.it .i64 (.c 0)) H
   | some (.array n _),_=>.val (.it .i64 (.c (.ofNat n))) H
   | some .string,.st (.c b)=>.val (.it .i64 (.c (.ofNat b.size))) H
   | some .string,.st (.v _)=>.val (.it .i64 (.d H.nd)) (H.num (.c 0))
   | some (.map _ _),.mn=>.val (.it .i64 (.c 0)) H
   | some (.map _ _),.mp (.n id)=>match get H.heap id with
     | some (.map es _)=>.val (.it .i64 (.c (.ofNat (llen es)))) H
     | _=>.bad 90
   | _,_=>.bad 91
 | _,_=>.bad 92
theorem isL_one {x:SV} {us:List Value} (h:SV.IsL C.σ ρ [x] us):∃ u,us=[u]∧x.Is C.σ ρ u:=by
 rw [SV.isL_cons] at h
 obtain ⟨u,r,rfl,h1,h2⟩:=h
 rw [SV.isL_nil] at h2
 subst h2
 exact ⟨u,rfl,h1⟩
theorem EsRel.length:∀ {l:List (SV×SV×Nat)} {es:List MapEntry},EsRel C.σ ρ l es→es.length=l.length
 | [],_,h=>by cases h;rfl
 | (_,_,_)::l,_,⟨e,r,h1,_,_,_,h5⟩=>by subst h1;simp [EsRel.length h5]
theorem opLen_ok (h:HpRel C hc w0 ρ H w) {ts:Array TypeId} {ty:TypeId} {xs:List SV} {us:List Value} (hx:SV.IsL C.σ ρ xs us):(opLen cc H ts xs).Ok cc C hc w0 ρ H w (do pure (.value (← Builtin.len_ ts ty us.toArray))):=by
 unfold opLen
 split
 ·rename_i t x ht
  obtain ⟨u,rfl,hu⟩:=isL_one hx
  rw [lnth_eq] at ht
  have ht':ts[0]? = some t:=by simpa using ht
  split
  ·rename_i e r o l c hd
   simp only [SV.Is] at hu
   obtain ⟨b,k,len,cap,e1,e2,e3,e4,rfl⟩:=hu
   refine OpR.ok_pure h (u:=.int .i64 len) ?_ (by simp only [SV.Is];exact ⟨_,e3,rfl⟩)
   simp [Builtin.len_,ht',underlying,hd,goInt]
  ·rename_i e hd
   simp only [SV.Is] at hu;subst hu
   refine OpR.ok_pure h (u:=.int .i64 0) ?_ (by simp only [SV.Is];exact ⟨_,rfl,rfl⟩)
   simp [Builtin.len_,ht',underlying,hd,goInt]
  ·rename_i m n e hd
   refine OpR.ok_pure h (u:=.int .i64 n) ?_ (by simp only [SV.Is];exact ⟨_,rfl,rfl⟩)
   simp [Builtin.len_,ht',underlying,hd,goInt]
  ·rename_i b hd
   simp only [SV.Is,SS.den] at hu;subst hu
   refine OpR.ok_pure h (u:=.int .i64 b.size) ?_ (by simp only [SV.Is];exact ⟨_,rfl,rfl⟩)
   simp [Builtin.len_,ht',underlying,hd,goInt]
  ·rename_i vi hd
   simp only [SV.Is,SS.den] at hu;subst hu
   refine ⟨ρ.setDi H.nd (C.σ.sv vi).size,.value (.int .i64 (C.σ.sv vi).size),.int .i64 (C.σ.sv vi).size,w,Tn.of_num ρ H w (.c 0) _,?_,.inl rfl,?_,h.num (k:=0) rfl (Nat.zero_le _)⟩
   ·simp [Builtin.len_,ht',underlying,hd,goInt]
   ·simp only [SV.Is,SI.den]
    exact ⟨_,by rw [Dyn.setDi_same];rfl,rfl⟩
  ·rename_i a b hd
   simp only [SV.Is] at hu;subst hu
   refine OpR.ok_pure h (u:=.int .i64 0) ?_ (by simp only [SV.Is];exact ⟨_,rfl,rfl⟩)
   simp [Builtin.len_,ht',underlying,hd,goInt]
  ·rename_i a b id hd
   split
   ·rename_i es cl hg
    simp only [SV.Is] at hu
    obtain ⟨b',e1,rfl⟩:=hu
    obtain ⟨b2,o,e2,e3,l,e4,rfl⟩:=h.blk id _ hg rfl
    have:b2=b':=by simp only [SR.den] at e1;rw [e2] at e1;exact Option.some.inj e1
    subst this
    refine OpR.ok_pure h (u:=.int .i64 l.length) ?_ ?_
    ·simp [Builtin.len_,ht',underlying,hd,goInt,getObj,Sem.run,e3]
    ·simp only [SV.Is];exact ⟨_,rfl,by rw [EsRel.length e4,llen_eq];rfl⟩
   ·trivial
  ·trivial
 ·trivial
def opMinMax (cc:Cc) (H:Hp) (f:IB) (xs:List SV):OpR:=
 match xs with
 | [.it k a,.it _ b]=>.val (.it k (SI.bop f a b)) H
 | _=>.bad 93
def opCap (cc:Cc) (H:Hp) (ts:Array TypeId) (xs:List SV):OpR:=
 match lnth ts.toList 0,xs with
 | some t,[x]=>match cc.P.underlying t,x with
   | some (.slice _),.sl _ _ _ c=>.val (.it .i64 c) H
   | some (.slice _),.sn=>.val (.it .i64 (.c 0)) H
   | _,_=>.bad 94
 | _,_=>.bad 95
theorem isL_two {x y:SV} {us:List Value} (h:SV.IsL C.σ ρ [x,y] us):∃ u v,us=[u,v]∧x.Is C.σ ρ u∧y.Is C.σ ρ v:=by
 rw [SV.isL_cons] at h
 obtain ⟨u,r,rfl,h1,h2⟩:=h
 obtain ⟨v,rfl,h3⟩:=isL_one h2
 exact ⟨u,v,rfl,h1,h3⟩
theorem opMin_ok (h:HpRel C hc w0 ρ H w) {ts:Array TypeId} {ty:TypeId} {xs:List SV} {us:List Value} (hx:SV.IsL C.σ ρ xs us):(opMinMax cc H .imin xs).Ok cc C hc w0 ρ H w (do pure (.value (← Builtin.min_ ts ty us.toArray))):=by
 unfold opMinMax
 split
 ·rename_i k a k' b
  obtain ⟨u,v,rfl,hu,hv⟩:=isL_two hx
  simp only [SV.Is] at hu hv
  obtain ⟨x,e1,rfl⟩:=hu
  obtain ⟨y,e2,rfl⟩:=hv
  exact OpR.ok_pure h (u:=.int k (IB.eval .imin x y)) (run_min_int2 w ts ty k k' x y) (by simp only [SV.Is];exact ⟨_,SI.bop_den (f:=.imin) e1 e2,rfl⟩)
 ·trivial
theorem opMax_ok (h:HpRel C hc w0 ρ H w) {ts:Array TypeId} {ty:TypeId} {xs:List SV} {us:List Value} (hx:SV.IsL C.σ ρ xs us):(opMinMax cc H .imax xs).Ok cc C hc w0 ρ H w (do pure (.value (← Builtin.max_ ts ty us.toArray))):=by
 unfold opMinMax
 split
 ·rename_i k a k' b
  obtain ⟨u,v,rfl,hu,hv⟩:=isL_two hx
  simp only [SV.Is] at hu hv
  obtain ⟨x,e1,rfl⟩:=hu
  obtain ⟨y,e2,rfl⟩:=hv
  exact OpR.ok_pure h (u:=.int k (IB.eval .imax x y)) (run_max_int2 w ts ty k k' x y) (by simp only [SV.Is];exact ⟨_,SI.bop_den (f:=.imax) e1 e2,rfl⟩)
 ·trivial
theorem opCap_ok (h:HpRel C hc w0 ρ H w) {ts:Array TypeId} {ty:TypeId} {xs:List SV} {us:List Value} (hx:SV.IsL C.σ ρ xs us):(opCap cc H ts xs).Ok cc C hc w0 ρ H w (do pure (.value (← Builtin.cap_ ts ty us.toArray))):=by
 unfold opCap
 split
 ·rename_i t x ht
  obtain ⟨u,rfl,hu⟩:=isL_one hx
  rw [lnth_eq] at ht
  have ht':ts[0]? = some t:=by simpa using ht
  split
  ·rename_i e r o l c hd
   simp only [SV.Is] at hu
   obtain ⟨b,k,len,cap,e1,e2,e3,e4,rfl⟩:=hu
   refine OpR.ok_pure h (u:=.int .i64 cap) ?_ (by simp only [SV.Is];exact ⟨_,e4,rfl⟩)
   simp [Builtin.cap_,ht',underlying,hd,goInt]
  ·rename_i e hd
   simp only [SV.Is] at hu;subst hu
   refine OpR.ok_pure h (u:=.int .i64 0) ?_ (by simp only [SV.Is];exact ⟨_,rfl,rfl⟩)
   simp [Builtin.cap_,ht',underlying,hd,goInt]
  ·trivial
 ·trivial
def opCallV (cc:Cc) (H:Hp) (f:SV) (args:List SV):OpR:=
 match f with
 | .fn g a c=>match cc.P.funcs[g]? with
   | some fn=>match fn.body with
     | some _=>.enter g (lapp a (lapp args c))
     | none=>bif isOv fn then opOv cc H fn (lapp a (lapp args c)) else .bad 100
   | none=>.bad 101
 | .yl id=>.round id args
 | _=>.bad 102
theorem opCallV_ok (hcc:cc.Ok C) (h:HpRel C hc w0 ρ H w) {f:SV} {fv:Value} {args:List SV} {us:List Value} (hf:f.Is C.σ ρ fv) (ha:SV.IsL C.σ ρ args us) :
  (opCallV cc H f args).Ok cc C hc w0 ρ H w (do let d ← Deferred.ofValue fv us.toArray;invoke d.target d.args):=by
 unfold opCallV
 split
 ·rename_i g a c
  simp only [SV.Is] at hf
  obtain ⟨as,cs,e1,e2,rfl⟩:=hf
  split
  ·rename_i fn hfn
   split
   ·rename_i b hb
    refine ⟨as++(us++cs),?_,by rw [lapp_eq,lapp_eq];exact SV.isL_append e1 (SV.isL_append ha e2),fn,b,hfn,hb⟩
    have hnm:=hcc.names g fn hfn
    simp only [Deferred.ofValue,invoke,callFunc,Sem.run_bind,Sem.run_pure,Result.andThen_ok,run_program,hfn,hnm,hb,Option.isNone_some,Bool.false_eq_true,if_false]
    simp
   ·cases hov:isOv fn with
    | false=>trivial
    | true=>
      refine OpR.ok_congr (opOv_ok hcc h hfn hov (us:=as++(us++cs)) (by rw [lapp_eq,lapp_eq];exact SV.isL_append e1 (SV.isL_append ha e2))) ?_
      simp [Deferred.ofValue,invoke]
  ·trivial
 ·rename_i id
  simp only [SV.Is] at hf
  obtain ⟨b,e1,rfl⟩:=hf
  exact ⟨b,us,e1,by simp [Deferred.ofValue,invoke],ha⟩
 ·trivial
def opBuiltin (cc:Cc) (H:Hp) (b:Builtin) (ts:Array TypeId) (xs:List SV):OpR:=
 match b with
 | .len=>opLen cc H ts xs
 | .cap=>opCap cc H ts xs
 | .min=>opMinMax cc H .imin xs
 | .max=>opMinMax cc H .imax xs
 | .append=>opAppendC cc H ts xs
 | .copy=>opCopyB cc H ts xs
 | .clear=>opClearB cc H ts xs
 | _=>.bad 103
def symOp (cc:Cc) (H:Hp) (T:List (Nat×SV)) (op:Op):OpR:=
 match op with
 | .move x=>.val (ev T x) H
 | .assign x=>.val (ev T x) H
 | .pick c a b=>match ev T c with
   | .bo p=>match dec (bdOf cc H) H.facts p with
     | .yes true=>.val (ev T a) H
     | .yes false=>.val (ev T b) H
     | .ask q=>.ask q
   | _=>.bad 110
 | .alloc t=>opAlloc cc H t
 | .box t x=>newV H t (ev T x)
 | .build t ps=>opBuild cc H t (evPs T ps)
 | .buildSlice t n ps=>opBuildSlice cc H t n (evPs T ps)
 | .load t a=>match ev T a with
   | .pt r o=>match lodV cc H t r o with
     | some z=>.val z H
     | none=>lodA cc H t r o
   | _=>.bad 112
 | .store t a x=>match ev T a with
   | .pt r o=>match stoV cc H t r o (ev T x) with
     | some H'=>.val (.tp []) H'
     | none=>stoA cc H t r o (ev T x)
   | _=>.bad 114
 | .nilCheck x=>bif (ev T x).nonNil then .val (ev T x) H else .bad 115
 | .binOp op t x y _=>symBin cc H op t (ev T x) (ev T y)
 | .unOp op _ x=>opUn cc H op (ev T x)
 | .convert s d x=>opConv cc H s d (ev T x)
 | .makeFunc (.func f) a c=>.val (.fn f (evs T a) (evs T c)) H
 | .makeMap t r=>opMakeMap cc H t (r.map (ev T))
 | .makeSlice t l c=>opMakeS cc H t (ev T l) (ev T c)
 | .lookup t m x ok=>bif ok then .bad 118 else opLookup cc H t (ev T m) (ev T x)
 | .mapUpdate t m k x=>opMapUp cc H t (ev T m) (ev T k) (ev T x)
 | .slice t x lo hi mx=>opSlice cc H t (ev T x) (lo.map (ev T)) (hi.map (ev T)) (mx.map (ev T))
 | .fieldAddr t x f=>opField cc H t (ev T x) f
 | .field t x f=>opGetField cc H t (ev T x) f
 | .indexAddr t x i=>opIndexAddr cc H t (ev T x) (ev T i)
 | .index t x i=>opIndex cc H t (ev T x) (ev T i)
 | .extract x i=>opExtract H (ev T x) i
 | .call c=>match c.callee with
   | .value f=>opCallV cc H (ev T f) (evs T c.args)
   | .builtin b=>opBuiltin cc H b c.argTypes (evs T c.args)
   | .invoke _ _=>.bad 116
 | _=>.bad 117
theorem OIs_map {T:List (Nat×SV)} {e:Operand→Value} (h:EvOk C ρ T e) (x:Option Operand):OIs C.σ ρ (x.map (ev T)) (x.map e):=by
 cases x with
 | none=>trivial
 | some x=>exact h x
theorem symOp_ok (hcc:cc.Ok C) (h:HpRel C hc w0 ρ H w) {T:List (Nat×SV)} {e:Operand→Value} (he:EvOk C ρ T e) (o:Oper):(symOp cc H T o.op).Ok cc C hc w0 ρ H w (execOp e o):=by
 unfold symOp execOp
 cases ho:o.op with
 | move x=>exact ⟨ρ,.value (e x),e x,w,Tn.refl ρ H w,rfl,.inl rfl,he x,h⟩
 | assign x=>exact ⟨ρ,.value (e x),e x,w,Tn.refl ρ H w,rfl,.inl rfl,he x,h⟩
 | pick c a b=>
   dsimp only
   have hcv:=he c
   split
   ·rename_i p hp
    rw [hp] at hcv
    simp only [SV.Is] at hcv
    obtain ⟨x,e1,e2⟩:=hcv
    split
    ·rename_i hd
     have:=dec_ok (bdOf_ok hcc h) h.facts e1 hd;subst this
     exact ⟨ρ,.value (e a),e a,w,Tn.refl ρ H w,by simp [e2,asBool],.inl rfl,he a,h⟩
    ·rename_i hd
     have:=dec_ok (bdOf_ok hcc h) h.facts e1 hd;subst this
     exact ⟨ρ,.value (e b),e b,w,Tn.refl ρ H w,by simp [e2,asBool],.inl rfl,he b,h⟩
    ·rename_i q hd
     exact ask_den (bdOf_ok hcc h) h.facts e1 hd
   ·trivial
 | alloc t=>exact opAlloc_ok h t
 | box t x=>exact newV_ok h (he x)
 | build t ps=>exact opBuild_ok hcc h (evPs_is he ps)
 | buildSlice t n ps=>exact opBuildSlice_ok h (evPs_is he ps)
 | load t a=>
   dsimp only
   have hcv:=he a
   split
   ·rename_i r ofs hp
    rw [hp] at hcv
    simp only [SV.Is] at hcv
    obtain ⟨b,k,e1,e2,e3⟩:=hcv
    split
    ·rename_i z hz
     obtain ⟨u,e4,e5⟩:=lodV_ok hcc h e1 e2 hz
     exact OpR.ok_pure h (u:=u) (by simp [Instr.loadAt,e3,Instr.sureAddr,e4]) e5
    ·exact OpR.ok_congr (lodA_ok hcc h e1 e2) (by simp [Instr.loadAt,e3,Instr.sureAddr])
   ·trivial
 | store t a x=>
   dsimp only
   have hcv:=he a
   split
   ·rename_i r ofs hp
    rw [hp] at hcv
    simp only [SV.Is] at hcv
    obtain ⟨b,k,e1,e2,e3⟩:=hcv
    split
    ·rename_i H' hz
     obtain ⟨w',e4,e5,e6⟩:=stoV_ok h e1 e2 (he x) hz
     refine ⟨ρ,.skip,undef,w',e6,by simp [Instr.storeAt,e3,Instr.sureAddr,e4],.inr ⟨rfl,rfl⟩,?_,e5⟩
     simp only [SV.Is];exact ⟨[],SV.isL_nil.2 rfl,rfl⟩
    ·exact OpR.ok_congr (stoA_ok hcc h e1 e2 (he x)) (by simp [Instr.storeAt,e3,Instr.sureAddr])
   ·trivial
 | nilCheck x=>
   dsimp only
   cases hn:(ev T x).nonNil with
   | false=>trivial
   | true=>
     have:=nilCheck_ok (he x) hn
     refine OpR.ok_congr (s':=pure (Next.value (e x))) ?_ ?_
     ·exact ⟨ρ,.value (e x),e x,w,Tn.refl ρ H w,rfl,.inl rfl,he x,h⟩
     ·exact congrArg (fun s=>Sem.run cc.P s w) this
 | binOp op t x y t'=>exact symBin_ok hcc h t x y (he x) (he y)
 | unOp op t x=>exact opUn_ok hcc h (he x)
 | convert s d x=>exact opConv_ok hcc h (he x)
 | makeFunc f a c=>
   cases f with
   | func g=>
     refine OpR.ok_pure h (u:=.func (.func g) (a.map e) (c.map e)) rfl ?_
     simp only [SV.Is]
     exact ⟨_,_,evs_is he a,evs_is he c,by rw [Array.toArray_toList,Array.toArray_toList]⟩
   | _=>trivial
 | makeMap t r=>exact opMakeMap_ok hcc h (OIs_map he r)
 | lookup t m x ok=>
   cases ok with
   | true=>trivial
   | false=>exact opLookup_ok hcc h (he m) (he x)
 | mapUpdate t m k x=>exact opMapUp_ok hcc h (he m) (he k) (he x)
 | makeSlice t l c=>exact opMakeS_ok hcc h (he l) (he c)
 | slice t x lo hi mx=>exact opSlice_ok hcc h (he x) (OIs_map he lo) (OIs_map he hi) (OIs_map he mx)
 | fieldAddr t x f=>exact opField_ok h (he x)
 | field t x f=>exact opGetField_ok h (he x)
 | indexAddr t x i=>exact opIndexAddr_ok hcc h (he x) (he i)
 | index t x i=>exact opIndex_ok hcc h (he x) (he i)
 | extract x i=>exact opExtract_ok h (he x)
 | call c=>
   dsimp only
   cases hcl:c.callee with
   | value f=>
     dsimp only
     have:=opCallV_ok (hc:=hc) (w0:=w0) (w:=w) (H:=H) hcc h (he f) (evs_is he c.args)
     refine OpR.ok_congr this ?_
     simp only [resolve,hcl,Array.toArray_toList]
   | builtin b=>
     dsimp only
     unfold opBuiltin
     have hargs:=evs_is he c.args
     split
     ·refine OpR.ok_congr (opLen_ok (ty:=o.type) h hargs) ?_
      simp only [resolve,hcl,invoke,builtin,Array.toArray_toList,Sem.run_bind,Sem.run_pure,Result.andThen_ok]
     ·refine OpR.ok_congr (opCap_ok (ty:=o.type) h hargs) ?_
      simp only [resolve,hcl,invoke,builtin,Array.toArray_toList,Sem.run_bind,Sem.run_pure,Result.andThen_ok]
     ·refine OpR.ok_congr (opMin_ok (ts:=c.argTypes) (ty:=o.type) h hargs) ?_
      simp only [resolve,hcl,invoke,builtin,Array.toArray_toList,Sem.run_bind,Sem.run_pure,Result.andThen_ok]
     ·refine OpR.ok_congr (opMax_ok (ts:=c.argTypes) (ty:=o.type) h hargs) ?_
      simp only [resolve,hcl,invoke,builtin,Array.toArray_toList,Sem.run_bind,Sem.run_pure,Result.andThen_ok]
     ·refine OpR.ok_congr (opAppendC_ok (ts:=c.argTypes) (ty:=o.type) hcc h hargs) ?_
      simp only [resolve,hcl,invoke,builtin,Array.toArray_toList,Sem.run_bind,Sem.run_pure,Result.andThen_ok]
     ·refine OpR.ok_congr (opCopyB_ok (ts:=c.argTypes) (ty:=o.type) hcc h hargs) ?_
      simp only [resolve,hcl,invoke,builtin,Array.toArray_toList,Sem.run_bind,Sem.run_pure,Result.andThen_ok]
     ·refine OpR.ok_congr (opClearB_ok (ts:=c.argTypes) (ty:=o.type) hcc h hargs) ?_
      simp only [resolve,hcl,invoke,builtin,Array.toArray_toList,Sem.run_bind,Sem.run_pure,Result.andThen_ok]
     ·trivial
   | invoke r m=>trivial
 | _=>trivial
end
end
end Go.Sx
namespace Go.Sx
noncomputable section
set_option linter.unusedVariables false
set_option linter.unusedSimpArgs false
open Go.RowKit
inductive It where
 | code (c:Code)
 | inBlock (id:Nat)
 | inLoop (c:Code)
 | inScope (c:Code)
 | inRegion (ops:Array Oper) (todo:List Nat)
 | inRangeFunc (l:Nat)
 | endRangeFunc (l:Nat)
 | beginRound
structure Fr where
 fn:FuncId
 nt:Nat
 tm:List (Nat×SV)
 todo:List It
 df:List Nat
 rd:Option Nat
def It.Is (ρ:Dyn):It→Item→Prop
 | .code c,x=>x=.code c
 | .inBlock id,x=>x=.inBlock id
 | .inLoop c,x=>x=.inLoop c
 | .inScope c,x=>x=.inScope c
 | .inRegion ops l,x=>x=.inRegion ops l
 | .inRangeFunc l,x=>∃ b,ρ.bl l=some b∧x=.inRangeFunc b
 | .endRangeFunc l,x=>∃ b,ρ.bl l=some b∧x=.endRangeFunc b
 | .beginRound,x=>x=.beginRound
def TdRel (ρ:Dyn):List It→List Item→Prop
 | [],k=>k=[]
 | x::l,k=>∃ y r,k=y::r∧x.Is ρ y∧TdRel ρ l r
def DfRel (ρ:Dyn):List Nat→List Deferred→Prop
 | [],k=>k=[]
 | id::l,k=>∃ b r,k={ target:=.collected b,args:=#[] }::r∧ρ.bl id=some b∧DfRel ρ l r
def RdRel (ρ:Dyn):Option Nat→Option Nat→Prop
 | none,r=>r=none
 | some id,r=>∃ b,ρ.bl id=some b∧r=some b
theorem It.is_mono {ρ ρ':Dyn} (h:ρ.Le ρ') {x:It} {y:Item} (hx:x.Is ρ y):x.Is ρ' y:=by
 cases x<;>first | exact hx | (obtain ⟨b,h1,h2⟩:=hx;exact ⟨b,h.bl _ _ h1,h2⟩)
theorem TdRel.mono {ρ ρ':Dyn} (h:ρ.Le ρ'):∀ {l:List It} {k:List Item},TdRel ρ l k→TdRel ρ' l k
 | [],_,e=>e
 | _::_,_,⟨y,r,h1,h2,h3⟩=>⟨y,r,h1,It.is_mono h h2,TdRel.mono h h3⟩
theorem DfRel.mono {ρ ρ':Dyn} (h:ρ.Le ρ'):∀ {l:List Nat} {k:List Deferred},DfRel ρ l k→DfRel ρ' l k
 | [],_,e=>e
 | _::_,_,⟨b,r,h1,h2,h3⟩=>⟨b,r,h1,h.bl _ _ h2,DfRel.mono h h3⟩
theorem RdRel.mono {ρ ρ':Dyn} (h:ρ.Le ρ'):∀ {l:Option Nat} {k:Option Nat},RdRel ρ l k→RdRel ρ' l k
 | none,_,e=>e
 | some _,_,⟨b,h1,h2⟩=>⟨b,h.bl _ _ h1,h2⟩
def bF (fn:FuncId) (ro:Option Nat):Frame:={ (default:Frame) with fn,kind:=.normal,roundOf:=ro }
structure FrRel (σ:Sta) (ρ:Dyn) (s:Fr) (fr:Frame) (tmps:Array Value) (df:List Deferred) (k:List Item) (ro:Option Nat):Prop where
 eq:fr=(bF s.fn ro).atR { tmps:=tmps,defers:=df } k
 tm:TmRel σ ρ s.nt s.tm tmps
 todo:TdRel ρ s.todo k
 df:DfRel ρ s.df df
 rd:RdRel ρ s.rd ro
def FrIs (σ:Sta) (ρ:Dyn) (s:Fr) (fr:Frame):Prop:=∃ tmps df k ro,FrRel σ ρ s fr tmps df k ro
theorem FrIs.mono {σ:Sta} {ρ ρ':Dyn} (h:ρ.Le ρ') {s:Fr} {fr:Frame}:FrIs σ ρ s fr→FrIs σ ρ' s fr:=
 fun ⟨a,b,c,d,e⟩=>⟨a,b,c,d,e.eq,e.tm.mono h,e.todo.mono h,e.df.mono h,e.rd.mono h⟩
def FsRel (σ:Sta) (ρ:Dyn):List Fr→List Frame→Prop
 | [],l=>l=[]
 | s::r,l=>∃ f t,l=f::t∧FrIs σ ρ s f∧FsRel σ ρ r t
theorem FsRel.mono {σ:Sta} {ρ ρ':Dyn} (h:ρ.Le ρ'):∀ {s:List Fr} {l:List Frame},FsRel σ ρ s l→FsRel σ ρ' s l
 | [],_,e=>e
 | _::_,_,⟨f,t,h1,h2,h3⟩=>⟨f,t,h1,h2.mono h,FsRel.mono h h3⟩
def exitS (id:Nat) (k:List It):Option (List It):=
 List.rec (motive:=fun _=>Option (List It)) none (fun x r ih=>match x with
  | .inBlock id'=>bif Nat.beq id' id then some r else ih
  | _=>ih) k
theorem exitS_ok {ρ:Dyn} {id:Nat}:∀ {k:List It} {K:List Item},TdRel ρ k K→
  (∀ k',exitS id k=some k'→∃ K',exitTo id K=some K'∧TdRel ρ k' K')∧(exitS id k=none→exitTo id K=none)
 | [],_,h=>by cases h;exact ⟨(fun _ e=>by cases e),(fun _=>rfl)⟩
 | x::k,_,⟨y,r,h1,h2,h3⟩=>by
   subst h1
   have ih:=exitS_ok (id:=id) h3
   cases x
   case inBlock id'=>
    have h2':y=.inBlock id':=h2
    subst h2'
    have e:exitS id (.inBlock id'::k)=(bif Nat.beq id' id then some k else exitS id k):=rfl
    rw [e]
    cases hb:Nat.beq id' id with
    | true=>
      have:=Nat.eq_of_beq_eq_true hb;subst this
      refine ⟨fun k' hk=>?_,fun hk=>by cases hk⟩
      cases hk
      exact ⟨r,by simp [exitTo],h3⟩
    | false=>
      have hne:id'≠id:=fun e=>by subst e;simp at hb
      simp only [cond_false]
      have e2:exitTo id (.inBlock id'::r)=exitTo id r:=by simp [exitTo,hne]
      rw [e2];exact ih
   all_goals
    first
     | (have h2':y=_:=h2;subst h2';exact ih)
     | (obtain ⟨b,_,h2'⟩:=h2;subst h2';exact ih)
def gotoS (l:Nat) (k:List It):Option (List It):=
 List.rec (motive:=fun _=>Option (List It)) none (fun x r ih=>match x with
  | .inScope body=>match findLabel body l with
    | some c=>some (.code c::.inScope body::r)
    | none=>ih
  | _=>ih) k
theorem gotoS_ok {ρ:Dyn} {l:Nat}:∀ {k:List It} {K:List Item},TdRel ρ k K→
  (∀ k',gotoS l k=some k'→∃ K',gotoIn l K=some K'∧TdRel ρ k' K')∧(gotoS l k=none→gotoIn l K=none)
 | [],_,h=>by cases h;exact ⟨(fun _ e=>by cases e),(fun _=>rfl)⟩
 | x::k,_,⟨y,r,h1,h2,h3⟩=>by
   subst h1
   have ih:=gotoS_ok (l:=l) h3
   cases x
   case inScope body=>
    have h2':y=.inScope body:=h2
    subst h2'
    have e:gotoS l (.inScope body::k)=(match findLabel body l with | some c=>some (.code c::.inScope body::k) | none=>gotoS l k):=rfl
    rw [e]
    cases hf:findLabel body l with
    | some c=>
      refine ⟨fun k' hk=>?_,fun hk=>by cases hk⟩
      cases hk
      exact ⟨_,by simp only [gotoIn,hf],_,_,rfl,rfl,_,_,rfl,rfl,h3⟩
    | none=>
      have e2:gotoIn l (.inScope body::r)=gotoIn l r:=by simp only [gotoIn,hf]
      rw [e2];exact ih
   all_goals
    first
     | (have h2':y=_:=h2;subst h2';exact ih)
     | (obtain ⟨b,_,h2'⟩:=h2;subst h2';exact ih)
inductive Sp where
 | go (f:Fr) (fs:List Fr) (H:Hp)
 | par (x:Fr×List Fr×Hp) (l:List (Fr×List Fr×Hp))
 | done (z:SV) (H:Hp)
 | ask (p:SB)
 | bad (why:Nat)
structure Ends (P:Program) (m:Machine) (cs:List Frame) (fn:FuncId) (plain:Bool) (u:Value) (w':World):Prop where
 ret:plain=true→∃ fr,Steps P m (lone fr cs w')∧fr.fn=fn∧fr.leaving P w' (.returned u)
 fin:∀ c t,cs=c::t→Steps P m (lone (c.finish u) t w')
theorem Ends.of_steps {P:Program} {m m₁:Machine} {cs:List Frame} {fn:FuncId} {plain:Bool} {u:Value} {w':World} (h:Steps P m m₁) (k:Ends P m₁ cs fn plain u w'):Ends P m cs fn plain u w':=
 ⟨fun e=>let ⟨fr,h1,h2⟩:=k.ret e;⟨fr,h.trans h1,h2⟩,fun c t e=>h.trans (k.fin c t e)⟩
def botOf (f:Fr) (fs:List Fr):FuncId×Bool:=match fs.getLast? with | some g=>(g.fn,g.rd.isNone) | none=>(f.fn,f.rd.isNone)
theorem botOf_upd {f f':Fr} (fs:List Fr) (h1:f'.fn=f.fn) (h2:f'.rd=f.rd):botOf f' fs=botOf f fs:=by
 unfold botOf;cases fs.getLast? <;> simp [h1,h2]
theorem botOf_push (f g:Fr) (fs:List Fr):botOf g (f::fs)=botOf f fs:=by
 unfold botOf
 cases fs with
 | nil=>rfl
 | cons a l=>
   rw [List.getLast?_cons_cons]
   cases hx:(a::l).getLast? with
   | some g=>rfl
   | none=>simp at hx
theorem botOf_pop (f g g':Fr) (fs:List Fr) (h1:g'.fn=g.fn) (h2:g'.rd=g.rd):botOf g' fs=botOf f (g::fs):=by
 rw [botOf_push g f fs];exact botOf_upd fs h1 h2
def Sat (C:Ct) (hc:Nat→Option Obj) (w0:World) (cs:List Frame) (ρ:Dyn) (f:Fr) (fs:List Fr) (H:Hp) (m:Machine):Prop:=
 ∃ fr frs w,m=lone fr (frs++cs) w∧FrIs C.σ ρ f fr∧FsRel C.σ ρ fs frs∧HpRel C hc w0 ρ H w
def Sp.Ok (cc:Cc) (C:Ct) (hc:Nat→Option Obj) (w0:World) (cs:List Frame) (ρ:Dyn) (f:Fr) (fs:List Fr) (H:Hp) (m:Machine):Sp→Prop
 | .par x l=>∃ y∈x::l,∃ ρ' m',Tn ρ H m.world ρ' y.2.2 m'.world∧Steps cc.P m m'∧Sat C hc w0 cs ρ' y.1 y.2.1 y.2.2 m'∧botOf y.1 y.2.1=botOf f fs
 | .go f' fs' H'=>∃ ρ' m',Tn ρ H m.world ρ' H' m'.world∧Steps cc.P m m'∧Sat C hc w0 cs ρ' f' fs' H' m'∧botOf f' fs'=botOf f fs
 | .done z H'=>∃ ρ' u w',Tn ρ H m.world ρ' H' w'∧Ends cc.P m cs (botOf f fs).1 (botOf f fs).2 u w'∧z.Is C.σ ρ' u∧HpRel C hc w0 ρ' H' w'
 | .ask p=>∃ b,p.den C.σ ρ=some b
 | .bad _=>True
section
variable {cc:Cc} {C:Ct} {hc:Nat→Option Obj} {w0:World} {cs:List Frame} {ρ ρ':Dyn} {f:Fr} {fs:List Fr} {H:Hp} {w:World}
theorem Sp.ok_todo {fr:Frame} {frs:List Frame} {tmps:Array Value} {df:List Deferred} {k:List Item} {ro:Option Nat} (hf:FrRel C.σ ρ f fr tmps df k ro) (hfs:FsRel C.σ ρ fs frs) (hh:HpRel C hc w0 ρ H w)
  {todo:List It} {k':List Item} (hk:TdRel ρ todo k') (hs:Steps cc.P (lone fr (frs++cs) w) (lone ((bF f.fn ro).atR { tmps:=tmps,defers:=df } k') (frs++cs) w)) :
  (Sp.go { f with todo:=todo } fs H).Ok cc C hc w0 cs ρ f fs H (lone fr (frs++cs) w):=
 ⟨ρ,_,(by exact Tn.refl ρ H w),hs,⟨_,frs,w,rfl,⟨tmps,df,k',ro,rfl,hf.tm,hk,hf.df,hf.rd⟩,hfs,hh⟩,botOf_upd fs rfl rfl⟩
def finS (f:Fr) (z:SV):Option Fr:=
 match f.todo with
 | .inRegion ops (i::rest)::k=>match ops[i]? with
   | some o=>match o.dst with
     | some d=>bif Nat.blt d f.nt then some { f with tm:=(d,z)::f.tm,todo:=.inRegion ops rest::k } else none
     | none=>some { f with todo:=.inRegion ops rest::k }
   | none=>none
 | .inRangeFunc l::k=>some { f with todo:=.endRangeFunc l::k }
 | _=>none
theorem finS_ok {f f':Fr} {z:SV} {u:Value} {fr:Frame} (hf:FrIs C.σ ρ f fr) (hz:z.Is C.σ ρ u) (h:finS f z=some f'):FrIs C.σ ρ f' (fr.finish u)∧f'.fn=f.fn∧f'.rd=f.rd:=by
 obtain ⟨tmps,df,k,ro,he,ht,htd,hd,hr⟩:=hf
 unfold finS at h
 split at h
 ·rename_i ops i rest kk hto
  rw [hto] at htd
  obtain ⟨y,r,rfl,h1,h2⟩:=htd
  have h1':y=.inRegion ops (i::rest):=h1
  subst h1'
  split at h
  ·rename_i o ho
   have hfin:fr.finish u=(bF f.fn ro).atR (({ tmps:=tmps,defers:=df }:Act).put o.dst u) (.inRegion ops rest::r):=by
    rw [he,Frame.finish_atR,ho];rfl
   split at h
   ·rename_i d hdst
    cases hb:Nat.blt d f.nt with
    | false=>rw [hb] at h;cases h
    | true=>
      rw [hb] at h;cases h
      have hlt:d < f.nt:=by simpa using hb
      refine ⟨⟨tmps.setIfInBounds d u,df,.inRegion ops rest::r,ro,?_,ht.set hlt hz,⟨_,_,rfl,rfl,h2⟩,hd,hr⟩,rfl,rfl⟩
      rw [hfin,hdst];rfl
   ·rename_i hdst
    cases h
    refine ⟨⟨tmps,df,.inRegion ops rest::r,ro,?_,ht,⟨_,_,rfl,rfl,h2⟩,hd,hr⟩,rfl,rfl⟩
    rw [hfin,hdst];rfl
  ·cases h
 ·rename_i l kk hto
  cases h
  rw [hto] at htd
  obtain ⟨y,r,rfl,⟨b,hb,rfl⟩,h2⟩:=htd
  refine ⟨⟨tmps,df,.endRangeFunc b::r,ro,?_,ht,⟨_,_,rfl,⟨b,hb,rfl⟩,h2⟩,hd,hr⟩,rfl,rfl⟩
  rw [he,finish_atR_inRangeFunc]
 ·cases h
def popS (fs:List Fr) (z:SV) (H:Hp):Sp:=
 match fs with
 | []=>.done z H
 | c::t=>match finS c z with
   | some c'=>.go c' t H
   | none=>.bad 200
theorem popS_ok {m:Machine} {frs:List Frame} {z:SV} {u:Value} {w':World} {H':Hp} (hh:HpRel C hc w0 ρ H m.world) (ht:Tn ρ H m.world ρ' H' w') (hfs:FsRel C.σ ρ fs frs) (hz:z.Is C.σ ρ' u) (hh':HpRel C hc w0 ρ' H' w')
  (hend:Ends cc.P m (frs++cs) f.fn f.rd.isNone u w'):(popS fs z H').Ok cc C hc w0 cs ρ f fs H m:=by
 unfold popS
 split
 ·cases hfs
  exact ⟨ρ',u,w',ht,hend,hz,hh'⟩
 ·rename_i c t
  obtain ⟨c0,t0,rfl,h1,h2⟩:=hfs
  have hle:=Dyn.Ag.le hh ht.ag
  split
  ·rename_i c' hc'
   obtain ⟨h3,h4,h5⟩:=finS_ok (h1.mono hle) hz hc'
   exact ⟨ρ',_,(by exact ht),hend.fin c0 (t0++cs) rfl,⟨_,t0,w',rfl,h3,h2.mono hle,hh'⟩,botOf_pop f c c' t h4 h5⟩
  ·trivial
theorem HpRel.put' (h:HpRel C hc w0 ρ H w) {id b:Nat} {bk bk':Bk} (hg:get H.heap id=some bk) (hl:bk.live=true) (hb:ρ.bl id=some b) {o o':Obj} (hw:w.heap[b]? = some o) (hl':bk'.live=true) (ho:bk'.Is C.σ ρ o') :
  HpRel C hc w0 ρ (H.put id bk') (w.putObj b o'):=by
 have hlt:b < w.heap.size:=(Array.getElem?_eq_some_iff.1 hw).1
 exact h.put hg hl hb hl' ho (fun i hi=>World.putObj_heap_other hi) (World.putObj_heap_same hlt) (by simp [World.putObj]) rfl rfl rfl
theorem Tn.of_putObj {id b:Nat} {bk:Bk} {o:Obj} (hb:ρ.bl id=some b):Tn ρ H w ρ (H.put id bk) (w.putObj b o):=
 Tn.of_put hb (fun i hi=>World.putObj_heap_other hi) (by simp [World.putObj])
def takeS (l:List Nat):Hp→Option Hp:=
 List.rec (motive:=fun _=>Hp→Option Hp) (fun H=>some H) (fun id _ ih H=>match get H.heap id with
  | some .dfr=>ih (H.put id .dfn)
  | _=>none) l
theorem takeS_ok {fr:Frame} (hm:fr.mode=.returning):∀ {l:List Nat} {ds:List Deferred} {H H':Hp} {w:World} {cs:List Frame},HpRel C hc w0 ρ H w→DfRel ρ l ds→takeS l H=some H'→
  ∃ w',Steps cc.P (lone { fr with defers:=ds } cs w) (lone { fr with defers:=[] } cs w')∧HpRel C hc w0 ρ H' w'∧Tn ρ H w ρ H' w'
 | [],ds,H,H',w,cs,hh,hd,h=>by
   cases hd
   have h':some H=some H':=h
   cases h'
   exact ⟨w,.refl _ _,hh,Tn.refl ρ H w⟩
 | id::l,ds,H,H',w,cs,hh,hd,h=>by
   obtain ⟨b,r,rfl,h1,h2⟩:=hd
   have h':(match get H.heap id with
    | some .dfr=>takeS l (H.put id .dfn)
    | _=>none)=some H':=h
   split at h'
   ·rename_i hg
    obtain ⟨b',o,e1,e2,e3⟩:=hh.blk id _ hg rfl
    rw [h1] at e1;cases e1
    have e3':o=.deferred (some []):=e3
    subst e3'
    have hput:=hh.put' hg rfl h1 e2 (bk':=.dfn) (o':=.deferred none) rfl rfl
    obtain ⟨w',s1,s2,s3⟩:=takeS_ok (cs:=cs) hm hput h2 h'
    refine ⟨w',Steps.head ?_ s1,s2,(Tn.of_putObj h1).trans s3⟩
    exact step_collected (fr:={ fr with defers:={ target:=.collected b,args:=#[] }::r }) (by simp [hm]) rfl rfl (run_takeDeferred e2)
   ·cases h'
def resE (cc:Cc) (H:Hp) (T:List (Nat×SV)) (r:ResultVar):Option SV:=
 match r with
 | .tmp t=>get T t
 | .cell a t=>match get T a with
   | some (.pt r o)=>lodV cc H t r o
   | _=>none
def resS (cc:Cc) (H:Hp) (T:List (Nat×SV)) (l:List ResultVar):Option (List SV):=
 List.rec (motive:=fun _=>Option (List SV)) (some []) (fun r _ ih=>match resE cc H T r,ih with
  | some z,some rest=>some (z::rest)
  | _,_=>none) l
def valS (l:List SV):SV:=match l with | [z]=>z | l=>.tp l
theorem resE_ok (hcc:cc.Ok C) (hh:HpRel C hc w0 ρ H w) {nt:Nat} {T:List (Nat×SV)} {tmps:Array Value} (ht:TmRel C.σ ρ nt T tmps) {r:ResultVar} {z:SV} (h:resE cc H T r=some z) :
  ∃ u,((fun | .tmp t=>pure (tmps.getD t undef) | .cell a t=>do loadVar t (← asAddr (tmps.getD a undef)):ResultVar→Sem Value) r).run cc.P w=.ok u w∧z.Is C.σ ρ u:=by
 cases r with
 | tmp t=>exact ⟨tmps.getD t undef,rfl,ht.get t z h⟩
 | cell a t=>
   simp only [resE] at h
   split at h
   ·rename_i rr o hz
    have h3:=ht.get a _ hz
    simp only [SV.Is] at h3
    obtain ⟨b,k,e3,e4,e5⟩:=h3
    obtain ⟨u,e6,e7⟩:=lodV_ok hcc hh e3 e4 h
    exact ⟨u,by simp only [e5,asAddr,Sem.run_bind,Sem.run_pure,Result.andThen_ok,e6],e7⟩
   ·cases h
theorem resS_ok (hcc:cc.Ok C) (hh:HpRel C hc w0 ρ H w) {nt:Nat} {T:List (Nat×SV)} {tmps:Array Value} (ht:TmRel C.σ ρ nt T tmps):∀ {l:List ResultVar} {zs:List SV},resS cc H T l=some zs→
  ∃ us,(l.mapM (fun | .tmp t=>pure (tmps.getD t undef) | .cell a t=>do loadVar t (← asAddr (tmps.getD a undef)):ResultVar→Sem Value)).run cc.P w=.ok us w∧SV.IsL C.σ ρ zs us:=by
 intro l
 induction l with
 | nil=>
   intro zs h
   have h':some []=some zs:=h
   cases h'
   exact ⟨[],by simp,SV.isL_nil.2 rfl⟩
 | cons r l ih=>
   intro zs h
   have h':(match resE cc H T r,resS cc H T l with
    | some z,some rest=>some (z::rest)
    | _,_=>none)=some zs:=h
   split at h'
   ·rename_i z rest hz hrest
    cases h'
    obtain ⟨us,e1,e2⟩:=ih hrest
    obtain ⟨u,e3,e4⟩:=resE_ok hcc hh ht hz
    exact ⟨u::us,by simp only [List.mapM_cons,Sem.run_bind,e3,Result.andThen_ok,e1,Sem.run_pure],SV.isL_cons.2 ⟨_,_,rfl,e4,e2⟩⟩
   ·cases h'
theorem results_ok (hcc:cc.Ok C) (hh:HpRel C hc w0 ρ H w) {nt:Nat} {T:List (Nat×SV)} {tmps:Array Value} (ht:TmRel C.σ ρ nt T tmps) {fn:Func} {zs:List SV} (h:resS cc H T fn.results.toList=some zs) :
  ∃ u,(results fn tmps).run cc.P w=.ok u w∧(valS zs).Is C.σ ρ u:=by
 obtain ⟨us,e1,e2⟩:=resS_ok hcc hh ht h
 have e3:(fn.results.mapM (fun | .tmp t=>pure (tmps.getD t undef) | .cell a t=>do loadVar t (← asAddr (tmps.getD a undef)):ResultVar→Sem Value)).run cc.P w=.ok us.toArray w:=by
  rw [Array.mapM_eq_mapM_toList]
  simp only [Sem.run_map,e1,Result.andThen_ok]
 have e5:(results fn tmps).run cc.P w=.ok (if h:us.toArray.size=1 then us.toArray[0] else .tuple us.toArray) w:=by
  have e6:results fn tmps=(fn.results.mapM (fun | .tmp t=>pure (tmps.getD t undef) | .cell a t=>do loadVar t (← asAddr (tmps.getD a undef)):ResultVar→Sem Value)) >>= (fun vs=>pure (if h:vs.size=1 then vs[0] else .tuple vs)):=rfl
  rw [e6,Sem.run_bind,e3]
  rfl
 refine ⟨_,e5,?_⟩
 unfold valS
 split
 ·rename_i z
  obtain ⟨u,rfl,hu⟩:=isL_one e2
  simpa using hu
 ·rename_i hne
  have hlen:=SV.isL_length e2
  have:¬ us.toArray.size=1:=by
   intro hs
   simp only [List.size_toArray] at hs
   rw [hlen] at hs
   obtain ⟨z,hz⟩:=List.length_eq_one_iff.1 hs
   exact hne z hz
  rw [dif_neg this]
  simp only [SV.Is]
  exact ⟨us,e2,rfl⟩
def leaveS (cc:Cc) (f:Fr) (fs:List Fr) (H:Hp) (jump:Option Code):Sp:=
 match f.rd with
 | none=>match jump with
   | none | some .ret=>match takeS f.df H,cc.P.funcs[f.fn]? with
     | some H',some fn=>match resS cc H' f.tm fn.results.toList with
       | some zs=>popS fs (valS zs) H'
       | none=>.bad 201
     | _,_=>.bad 202
   | _=>.bad 203
 | some l=>match get H.heap l with
   | some (.loop _ _ fn nt tm ps asg body df)=>match jump with
     | none=>popS fs (.bo (.c true)) (H.put l (.loop .ready none fn nt tm ps asg body df))
     | some j=>popS fs (.bo (.c false)) (H.put l (.loop .done (some j) fn nt tm ps asg body df))
   | _=>.bad 204
def LeavesBy (P:Program) (fr:Frame) (l:Nat) (jump:Option Code):Prop:=
 ∀ (c:Frame) (t:List Frame) (w:World) (v:Value) (w':World),(Instr.endRound l jump).run P w=.ok v w'→step P (lone fr (c::t) w)=.next (lone (c.finish v) t w')
theorem leaveS_ok (hcc:cc.Ok C) {fr:Frame} {frs:List Frame} {tmps:Array Value} {df:List Deferred} {k:List Item} {ro:Option Nat} (hf:FrRel C.σ ρ f fr tmps df k ro) (hfs:FsRel C.σ ρ fs frs) (hh:HpRel C hc w0 ρ H w) {jump:Option Code}
  (hn:f.rd=none→(jump=none∨jump=some .ret)→Steps cc.P (lone fr (frs++cs) w) (lone { fr with mode:=.returning } (frs++cs) w))
  (hr:∀ l b,f.rd=some l→ρ.bl l=some b→LeavesBy cc.P fr b jump) :
  (leaveS cc f fs H jump).Ok cc C hc w0 cs ρ f fs H (lone fr (frs++cs) w):=by
 have normal:f.rd=none→(jump=none∨jump=some .ret)→(match takeS f.df H,cc.P.funcs[f.fn]? with
   | some H',some fn=>match resS cc H' f.tm fn.results.toList with
     | some zs=>popS fs (valS zs) H'
     | none=>.bad 201
   | _,_=>.bad 202:Sp).Ok cc C hc w0 cs ρ f fs H (lone fr (frs++cs) w):=by
  intro hrd hj
  split
  ·rename_i H' fn htk hfn
   split
   ·rename_i zs hzs
    have s0:=hn hrd hj
    have hfr:({ fr with mode:=.returning }:Frame)={ ({ fr with mode:=.returning }:Frame) with defers:=df }:=by rw [hf.eq];rfl
    rw [hfr] at s0
    obtain ⟨w',s1,h1,h2⟩:=takeS_ok (cc:=cc) (fr:={ fr with mode:=.returning }) (cs:=frs++cs) rfl hh hf.df htk
    obtain ⟨u,e1,e2⟩:=results_ok hcc h1 hf.tm hzs
    have hleave:Frame.leaving cc.P ({ ({ fr with mode:=.returning }:Frame) with defers:=[] }) w' (.returned u):=by
     refine ⟨rfl,rfl,?_,fn,?_,?_⟩
     ·rw [hf.eq];rfl
     ·rw [hf.eq];exact hfn
     ·rw [hf.eq];exact e1
    refine popS_ok hh h2 hfs e2 h1 ⟨fun _=>⟨_,s0.trans s1,by rw [hf.eq];rfl,hleave⟩,fun c t hct=>?_⟩
    have s2:=s0.trans s1
    rw [hct] at s2 ⊢
    exact s2.trans (.one (step_leave_returned hleave))
   ·trivial
  ·trivial
 unfold leaveS
 split
 ·rename_i hrd
  split
  ·exact normal hrd (.inl rfl)
  ·exact normal hrd (.inr rfl)
  ·trivial
 ·rename_i l hrd
  split
  ·rename_i st pd fn nt tm ps asg body dfb hg
   obtain ⟨b,o,e1,e2,tmps',d,e3,e4,rfl⟩:=hh.blk l _ hg rfl
   have hl:=hr l b hrd e1
   have ends:∀ v w',(Instr.endRound b jump).run cc.P w=.ok v w'→Ends cc.P (lone fr (frs++cs) w) (frs++cs) f.fn f.rd.isNone v w':=fun v w' he=>
    ⟨fun h=>(by rw [hrd] at h;cases h),fun c t hct=>by rw [hct];exact .one (hl c t w v w' he)⟩
   split
   ·have he:=run_endRound (P:=cc.P) none e2
    have hput:=hh.put' hg rfl e1 e2 (bk':=.loop .ready none fn nt tm ps asg body dfb) (o':=.loop { state:=.ready,pending:=none,fn,tmps:=tmps',params:=ps,assign:=asg,body,defers:=d }) rfl ⟨tmps',d,e3,e4,rfl⟩
    exact popS_ok hh (Tn.of_putObj e1) hfs (by simp only [SV.Is];exact ⟨true,rfl,rfl⟩) hput (ends _ _ he)
   ·rename_i j
    have he:=run_endRound (P:=cc.P) (some j) e2
    have hput:=hh.put' hg rfl e1 e2 (bk':=.loop .done (some j) fn nt tm ps asg body dfb) (o':=.loop { state:=.done,pending:=some j,fn,tmps:=tmps',params:=ps,assign:=asg,body,defers:=d }) rfl ⟨tmps',d,e3,e4,rfl⟩
    exact popS_ok hh (Tn.of_putObj e1) hfs (by simp only [SV.Is];exact ⟨false,rfl,rfl⟩) hput (ends _ _ he)
  ·trivial
end
end
end Go.Sx
namespace Go.Sx
set_option linter.unusedVariables false
set_option linter.unusedSimpArgs false
open Go.RowKit
inductive Ap where
 | no
 | ok (z:SV) (H:Hp)
 | ask (p:SB)
 | bad
abbrev Ents:=List (Nat×(Hp→List SV→Ap))
noncomputable def fent (E:Ents) (H:Hp) (f:FuncId) (args:List SV):Ap:=
 List.rec (motive:=fun _=>Ap) .no (fun e _ ih=>bif Nat.beq e.1 f then (match e.2 H args with | .no=>ih | r=>r) else ih) E
def CallOk (cc:Cc) (C:Ct) (f:FuncId) (app:Hp→List SV→Ap):Prop:=
 ∀ hc w0 ρ H w args us,HpRel C hc w0 ρ H w→SV.IsL C.σ ρ args us→
   (∀ z H',app H args=.ok z H'→Calls cc.P f us.toArray w fun e w'=>∃ ρ' u,e=.returned u∧Tn ρ H w ρ' H' w'∧z.Is C.σ ρ' u∧HpRel C hc w0 ρ' H' w')∧
   (∀ p,app H args=.ask p→∃ b,p.den C.σ ρ=some b)
def EntsOk (cc:Cc) (C:Ct) (E:Ents):Prop:=∀ f app,(f,app)∈E→CallOk cc C f app
theorem fent_mem {E:Ents} {H:Hp} {f:FuncId} {args:List SV} {r:Ap} (h:fent E H f args=r) (hr:r≠.no):∃ app,(f,app)∈E∧app H args=r:=by
 induction E with
 | nil=>exact absurd h.symm hr
 | cons e E ih=>
   have h':(bif Nat.beq e.1 f then (match e.2 H args with | .no=>fent E H f args | r=>r) else fent E H f args)=r:=h
   cases hb:Nat.beq e.1 f with
   | false=>
     rw [hb] at h'
     obtain ⟨app,h1,h2⟩:=ih h'
     exact ⟨app,List.mem_cons_of_mem _ h1,h2⟩
   | true=>
     have he:=Nat.eq_of_beq_eq_true hb
     rw [hb] at h'
     simp only [cond_true] at h'
     split at h'
     ·obtain ⟨app,h1,h2⟩:=ih h'
      exact ⟨app,List.mem_cons_of_mem _ h1,h2⟩
     ·rename_i r' hne
      exact ⟨e.2,by rw [← he];simp,h'⟩
theorem fent_ok {cc:Cc} {C:Ct} {E:Ents} (hE:EntsOk cc C E) {H:Hp} {f:FuncId} {args:List SV} {z:SV} {H':Hp} (h:fent E H f args=.ok z H'):∃ app,CallOk cc C f app∧app H args=.ok z H':=by
 obtain ⟨app,h1,h2⟩:=fent_mem h (by simp)
 exact ⟨app,hE f app h1,h2⟩
theorem fent_ask {cc:Cc} {C:Ct} {E:Ents} (hE:EntsOk cc C E) {H:Hp} {f:FuncId} {args:List SV} {p:SB} (h:fent E H f args=.ask p):∃ app,CallOk cc C f app∧app H args=.ask p:=by
 obtain ⟨app,h1,h2⟩:=fent_mem h (by simp)
 exact ⟨app,hE f app h1,h2⟩
noncomputable def enumS (l:List SV):Nat→List (Nat×SV):=
 List.rec (motive:=fun _=>Nat→List (Nat×SV)) (fun _=>[]) (fun a _ ih n=>(n,a)::ih (Nat.succ n)) l
theorem enumS_get {σ:Sta} {ρ:Dyn}:∀ {l:List SV} {us:List Value} {n t:Nat} {z:SV},SV.IsL σ ρ l us→get (enumS l n) t=some z→n≤t∧∃ u,us[t - n]? = some u∧z.Is σ ρ u
 | [],_,_,_,_,_,h=>by cases h
 | a::l,us,n,t,z,hl,h=>by
   rw [SV.isL_cons] at hl
   obtain ⟨u,r,rfl,h1,h2⟩:=hl
   have h':get ((n,a)::enumS l (Nat.succ n)) t=some z:=h
   rw [get_cons] at h'
   split at h'
   ·rename_i e
    cases h'
    simp only at e
    subst e
    exact ⟨Nat.le_refl _,u,by simp,h1⟩
   ·obtain ⟨h3,v,h4,h5⟩:=enumS_get h2 h'
    refine ⟨by omega,v,?_,h5⟩
    have:t - n=(t - (n+1))+1:=by omega
    rw [this];simpa using h4
noncomputable def enterF (f:FuncId) (fn:Func) (body:Code) (args:List SV):Fr:=
 { fn:=f,nt:=Nat.add (llen args) (Nat.sub fn.ntmps (llen args)),tm:=enumS args 0,todo:=[.code body],df:=[],rd:=none }
theorem enterF_ok {P:Program} {σ:Sta} {ρ:Dyn} {f:FuncId} {fn:Func} {body:Code} {args:List SV} {us:List Value} (hf:P.funcs[f]? = some fn) (hb:fn.body=some body) (ha:SV.IsL σ ρ args us) :
  FrIs σ ρ (enterF f fn body args) (Frame.enter P f us.toArray .normal):=by
 refine ⟨us.toArray++Array.replicate (fn.ntmps - us.toArray.size) undef,[],[.code body],none,⟨?_,⟨?_,?_⟩,⟨_,_,rfl,rfl,rfl⟩,rfl,rfl⟩⟩
 ·simp [Frame.enter,Frame.atR,bF,hf,hb,enterF]
 ·simp only [enterF,llen_eq,← SV.isL_length ha,Array.size_append,Array.size_replicate,List.size_toArray];rfl
 ·intro t z h
  obtain ⟨_,u,h1,h2⟩:=enumS_get ha h
  have hlt:t < us.length:=(List.getElem?_eq_some_iff.1 (by simpa using h1)).1
  have:(us.toArray++Array.replicate (fn.ntmps - us.toArray.size) undef).getD t undef=u:=by
   rw [Array.getD_eq_getD_getElem?,Array.getElem?_append_left (by simpa using hlt)]
   simp at h1
   simp [h1]
  rw [this];exact h2
noncomputable def setsS (nt:Nat) (ps:List Tmp):List SV→List (Nat×SV)→Option (List (Nat×SV)):=
 List.rec (motive:=fun _=>List SV→List (Nat×SV)→Option (List (Nat×SV))) (fun as T=>match as with | []=>some T | _=>none)
  (fun p _ ih as T=>match as with | a::as=>bif Nat.blt p nt then ih as ((p,a)::T) else none | []=>none) ps
theorem setsS_ok {σ:Sta} {ρ:Dyn} {nt:Nat}:∀ {ps:List Tmp} {as:List SV} {us:List Value} {T T':List (Nat×SV)} {tmps:Array Value},SV.IsL σ ρ as us→TmRel σ ρ nt T tmps→setsS nt ps as T=some T'→
  us.length=ps.length∧TmRel σ ρ nt T' ((ps.zip us).foldl (fun tmps (p:Tmp×Value)=>tmps.setIfInBounds p.1 p.2) tmps)
 | [],as,us,T,T',tmps,ha,ht,h=>by
   cases as with
   | nil=>
     rw [SV.isL_nil] at ha;subst ha
     have h':some T=some T':=h
     cases h'
     exact ⟨rfl,ht⟩
   | cons a as=>cases h
 | p::ps,as,us,T,T',tmps,ha,ht,h=>by
   cases as with
   | nil=>cases h
   | cons a as=>
     rw [SV.isL_cons] at ha
     obtain ⟨u,r,rfl,h1,h2⟩:=ha
     have h':(bif Nat.blt p nt then setsS nt ps as ((p,a)::T) else none)=some T':=h
     cases hb:Nat.blt p nt with
     | false=>rw [hb] at h';cases h'
     | true=>
       rw [hb] at h'
       have hlt:p < nt:=by simpa using hb
       obtain ⟨h3,h4⟩:=setsS_ok h2 (ht.set hlt h1) h'
       exact ⟨by simp [h3],by simpa using h4⟩
noncomputable def roundF (H:Hp) (id:Nat) (args:List SV):Option Fr:=
 match get H.heap id with
 | some (.loop _ _ fn nt tm ps asg body _)=>match setsS nt ps.toList args tm with
   | some T=>some { fn,nt,tm:=T,todo:=[.code asg,.beginRound,.code body],df:=[],rd:=some id }
   | none=>none
 | _=>none
theorem roundF_ok {C:Ct} {hc:Nat→Option Obj} {w0:World} {ρ:Dyn} {H:Hp} {w:World} {P:Program} (hh:HpRel C hc w0 ρ H w) {id b:Nat} {args:List SV} {us:List Value} {f':Fr} (hb:ρ.bl id=some b) (ha:SV.IsL C.σ ρ args us) (h:roundF H id args=some f') :
  ∃ g tmps asg body,(Instr.yield b us.toArray).run P w=.ok (.round b g tmps asg body) w∧FrIs C.σ ρ f' (Frame.round b g tmps asg body .normal):=by
 unfold roundF at h
 split at h
 ·rename_i st pd fn nt tm ps asg body df hg
  obtain ⟨b',o,e1,e2,tmps,d,e3,e4,rfl⟩:=hh.blk id _ hg rfl
  rw [hb] at e1;cases e1
  split at h
  ·rename_i T hT
   cases h
   obtain ⟨h3,h4⟩:=setsS_ok ha e3 hT
   refine ⟨fn,_,asg,body,run_yield e2 (by simpa using h3),?_⟩
   refine ⟨(ps.toList.zip us).foldl (fun tmps (p:Tmp×Value)=>tmps.setIfInBounds p.1 p.2) tmps,[],[.code asg,.beginRound,.code body],some b,⟨?_,h4,⟨_,_,rfl,rfl,_,_,rfl,rfl,_,_,rfl,rfl,rfl⟩,rfl,b,hb,rfl⟩⟩
   simp only [Frame.round,Frame.atR,bF]
   congr 1
   rw [← Array.foldl_toList,Array.toList_zip]
  ·cases h
 ·cases h
noncomputable def wantS (cc:Cc) (H:Hp) (T:List (Nat×SV)) (ops:Array Oper) (o:Oper):Option DR:=
 match o.guard with
 | none=>some (.yes true)
 | some (j,b)=>match (ops[j]?).bind (·.dst) with
   | some d=>match get T d with
     | some (.bo p)=>match dec (bdOf cc H) H.facts p with
       | .yes x=>some (.yes (x == b))
       | .ask q=>some (.ask q)
     | some (.tp _)=>some (.yes false)
     | _=>none
   | none=>none
theorem wantS_ok {cc:Cc} {C:Ct} (hcc:cc.Ok C) {hc:Nat→Option Obj} {w0:World} {ρ:Dyn} {H:Hp} {w:World} (hh:HpRel C hc w0 ρ H w) {nt:Nat} {T:List (Nat×SV)} {tmps:Array Value} (ht:TmRel C.σ ρ nt T tmps) {ops:Array Oper} {o:Oper} {r:DR}
  (h:wantS cc H T ops o=some r):(∀ x,r=.yes x→Region.wanted o (yielded ops tmps)=x)∧(∀ q,r=.ask q→∃ b,q.den C.σ ρ=some b):=by
 unfold wantS at h
 split at h
 ·rename_i hg
  cases h
  exact ⟨(fun x e=>by cases e;simp [Region.wanted,hg]),(fun q e=>by cases e)⟩
 ·rename_i j b hg
  split at h
  ·rename_i d hd
   split at h
   ·rename_i p hp
    have h1:=ht.get d _ hp
    simp only [SV.Is] at h1
    obtain ⟨x,e1,e2⟩:=h1
    have hlt:d < tmps.size:=by
     rcases Nat.lt_or_ge d tmps.size with h | h
     ·exact h
     ·simp [Array.getElem?_eq_none h,undef] at e2
    have hget:tmps[d]? = some (.bool x):=by
     rw [Array.getD_eq_getD_getElem?,Array.getElem?_eq_getElem hlt] at e2
     rw [Array.getElem?_eq_getElem hlt];simpa using e2
    have hy:yielded ops tmps j=some x:=by simp [yielded,hd,hget]
    split at h
    ·rename_i y he
     cases h
     have:=dec_ok (bdOf_ok hcc hh) hh.facts e1 he;subst this
     refine ⟨fun z e=>?_,(fun q e=>by cases e)⟩
     cases e
     simp only [Region.wanted,hg,hy]
     cases y<;>cases b<;>rfl
    ·rename_i q he
     cases h
     refine ⟨(fun z e=>by cases e),fun q' e=>?_⟩
     cases e
     exact ask_den (bdOf_ok hcc hh) hh.facts e1 he
   ·rename_i l hp
    cases h
    have h1:=ht.get d _ hp
    simp only [SV.Is] at h1
    obtain ⟨vs,e1,e2⟩:=h1
    have hy:yielded ops tmps j=none:=by
     unfold yielded
     rw [hd]
     simp only [Option.bind_some]
     rcases Nat.lt_or_ge d tmps.size with hlt | h
     ·rw [Array.getD_eq_getD_getElem?,Array.getElem?_eq_getElem hlt] at e2
      rw [Array.getElem?_eq_getElem hlt]
      simp only [Option.getD_some] at e2
      rw [e2]
     ·rw [Array.getElem?_eq_none h]
    refine ⟨fun z e=>?_,(fun q e=>by cases e)⟩
    cases e
    simp only [Region.wanted,hg,hy]
    cases b<;>rfl
   ·cases h
  ·cases h
end Go.Sx
namespace Go.Sx
open Go.RowKit
inductive Dr where
 | ok (T:List (Nat×SV)) (H:Hp)
 | par (x:List (Nat×SV)×Hp) (l:List (List (Nat×SV)×Hp))
 | ask (p:SB)
 | bad (why:Nat)
def DrOk (cc:Cc) (C:Ct) (draw:Nat→List (Nat×SV)→Hp→Array Oper→Dr):Prop:=
 ∀ hc w0 (cs:List Frame) ρ H w nt T tmps df (ro:Option Nat) fn k ops id,HpRel C hc w0 ρ H w→TmRel C.σ ρ nt T tmps→
   match draw nt T H ops with
   | .ok T' H'=>∃ ρ' tmps' w',Tn ρ H w ρ' H' w'∧Steps cc.P (lone ((bF fn ro).atR { tmps:=tmps,defers:=df } (.code (.region id ops true)::k)) cs w) (lone ((bF fn ro).atR { tmps:=tmps',defers:=df } k) cs w')∧
     TmRel C.σ ρ' nt T' tmps'∧HpRel C hc w0 ρ' H' w'
   | .par x l=>∃ y∈x::l,∃ ρ' tmps' w',Tn ρ H w ρ' y.2 w'∧Steps cc.P (lone ((bF fn ro).atR { tmps:=tmps,defers:=df } (.code (.region id ops true)::k)) cs w) (lone ((bF fn ro).atR { tmps:=tmps',defers:=df } k) cs w')∧
     TmRel C.σ ρ' nt y.1 tmps'∧HpRel C hc w0 ρ' y.2 w'
   | .ask p=>∃ b,p.den C.σ ρ=some b
   | .bad _=>True
noncomputable def callS (cc:Cc) (E:Ents) (f:Fr) (fs:List Fr) (H:Hp) (g:FuncId) (args:List SV):Sp:=
 match fent E H g args with
 | .ok z H'=>match finS f z with
   | some f'=>.go f' fs H'
   | none=>.bad 210
 | .ask p=>.ask p
 | .bad=>.bad 213
 | .no=>match cc.P.funcs[g]? with
   | some fn=>match fn.body with
     | some body=>.go (enterF g fn body args) (f::fs) H
     | none=>.bad 211
   | none=>.bad 212
noncomputable def codeS (cc:Cc) (_:Ents) (draw:Nat→List (Nat×SV)→Hp→Array Oper→Dr) (f:Fr) (fs:List Fr) (H:Hp) (c:Code) (k:List It):Sp:=
 match c with
 | .ret=>leaveS cc f fs H (some .ret)
 | .skip=>.go { f with todo:=k } fs H
 | .label _=>.go { f with todo:=k } fs H
 | .seq a b=>.go { f with todo:=.code a::.code b::k } fs H
 | .cond x a b=>match ev f.tm x with
   | .bo p=>match dec (bdOf cc H) H.facts p with
     | .yes true=>.go { f with todo:=.code a::k } fs H
     | .yes false=>.go { f with todo:=.code b::k } fs H
     | .ask q=>.ask q
   | _=>.bad 220
 | .block id b=>.go { f with todo:=.code b::.inBlock id::k } fs H
 | .loop b=>.go { f with todo:=.code b::.inLoop b::k } fs H
 | .scope b=>.go { f with todo:=.code b::.inScope b::k } fs H
 | .exit id=>match exitS id k with
   | some k'=>.go { f with todo:=k' } fs H
   | none=>match f.rd with
     | some _=>leaveS cc f fs H (some (.exit id))
     | none=>.bad 221
 | .goto l=>match gotoS l k with
   | some k'=>.go { f with todo:=k' } fs H
   | none=>match f.rd with
     | some _=>leaveS cc f fs H (some (.goto l))
     | none=>.bad 222
 | .rangeFunc g ps asg body=>match ev f.tm g with
   | .fn gf a cp=>match cc.P.funcs[gf]? with
     | some fn=>match fn.body with
       | some gb=>match f.rd with
         | none=>
           let H1:=H.alloc .dfr
           let H2:=H1.alloc (.loop .ready none f.fn f.nt f.tm ps asg body H.nb)
           .go (enterF gf fn gb (lapp a (.yl (Nat.succ H.nb)::cp))) ({ f with todo:=.inRangeFunc (Nat.succ H.nb)::k,df:=H.nb::f.df }::fs) H2
         | some l=>match get H.heap l with
           | some (.loop _ _ _ _ _ _ _ _ df)=>
             .go (enterF gf fn gb (lapp a (.yl H.nb::cp))) ({ f with todo:=.inRangeFunc H.nb::k }::fs) (H.alloc (.loop .ready none f.fn f.nt f.tm ps asg body df))
           | _=>.bad 223
       | none=>.bad 224
     | none=>.bad 225
   | _=>.bad 226
 | .region _ ops d=>match d with
   | false=>.go { f with todo:=.inRegion ops (List.range ops.size)::k } fs H
   | true=>match draw f.nt f.tm H ops with
     | .ok T' H'=>.go { f with tm:=T',todo:=k } fs H'
     | .par x l=>.par ({ f with tm:=x.1,todo:=k },fs,x.2) (lmap (fun y=>({ f with tm:=y.1,todo:=k },fs,y.2)) l)
     | .ask p=>.ask p
     | .bad n=>.bad n
 | .refuse _=>.bad 227
noncomputable def opS (cc:Cc) (E:Ents) (f:Fr) (fs:List Fr) (H:Hp) (ops:Array Oper) (i:Nat):Sp:=
 match ops[i]? with
 | none=>.bad 230
 | some o=>match wantS cc H f.tm ops o with
   | some (.yes false)=>match finS f (.tp []) with
     | some f'=>.go f' fs H
     | none=>.bad 231
   | some (.yes true)=>match symOp cc H f.tm o.op with
     | .val z H'=>match finS f z with
       | some f'=>.go f' fs H'
       | none=>.bad 232
     | .enter g args=>callS cc E f fs H g args
     | .round id args=>match roundF H id args with
       | some g=>.go g (f::fs) H
       | none=>.bad 233
     | .ask p=>.ask p
     | .bad n=>.bad n
   | some (.ask q)=>.ask q
   | none=>.bad 234
def pdS (pd:Option Code) (k:List It):List It:=match pd with | some c=>.code c::k | none=>k
noncomputable def stp (cc:Cc) (E:Ents) (draw:Nat→List (Nat×SV)→Hp→Array Oper→Dr) (f:Fr) (fs:List Fr) (H:Hp):Sp:=
 match f.todo with
 | []=>leaveS cc f fs H none
 | x::k=>match x with
   | .code c=>codeS cc E draw f fs H c k
   | .inBlock _=>.go { f with todo:=k } fs H
   | .inScope _=>.go { f with todo:=k } fs H
   | .inLoop b=>.go { f with todo:=.code b::.inLoop b::k } fs H
   | .inRegion ops l=>match l with
     | []=>.go { f with todo:=k } fs H
     | i::_=>opS cc E f fs H ops i
   | .inRangeFunc _=>.bad 240
   | .beginRound=>match f.rd with
     | some l=>match get H.heap l with
       | some (.loop .ready pd fn nt tm ps asg body df)=>.go { f with todo:=k } fs (H.put l (.loop .busy pd fn nt tm ps asg body df))
       | _=>.bad 241
     | none=>.bad 242
   | .endRangeFunc l=>match get H.heap l with
     | some (.loop st pd fn nt tm ps asg body df)=>match st with
       | .busy=>.bad 243
       | _=>.go { f with todo:=pdS pd k } fs (H.put l (.loop .exhausted pd fn nt tm ps asg body df))
     | _=>.bad 244
section
variable {cc:Cc} {C:Ct} {hc:Nat→Option Obj} {w0:World} {cs:List Frame} {ρ ρ':Dyn} {f:Fr} {fs:List Fr} {H:Hp} {w:World}
theorem stepR_scope {P:Program} {b:Frame} {a:Act} {k:List Item} {cs:List Frame} {w:World} {c:Code} :
  step P (lone (b.atR a (.code (.scope c)::k)) cs w)=.next (lone (b.atR a (.code c::.inScope c::k)) cs w):=
 step_lone_go (by simp [stepG,stepG.exec,Frame.atR])
theorem stepR_inScope {P:Program} {b:Frame} {a:Act} {k:List Item} {cs:List Frame} {w:World} {c:Code} :
  step P (lone (b.atR a (.inScope c::k)) cs w)=.next (lone (b.atR a k) cs w):=
 step_lone_go (by simp [stepG,stepG.exec,Frame.atR])
theorem step_val {P:Program} {b:Frame} {a:Act} {k:List Item} {cs:List Frame} {w w':World} {ops:Array Oper} {i:Nat} {rest:List Nat} {o:Oper} {n:Next} {u:Value} (ho:ops[i]? = some o)
  (hw:Region.wanted o (yielded ops a.tmps)=true) (hd:∀ c,o.op≠.defer c) (hr:(execOp a.eval o).run P w=.ok n w') (hn:n=.value u∨(n=.skip∧u=undef)) :
  step P (lone (b.atR a (.inRegion ops (i::rest)::k)) cs w)=.next (lone ((b.atR a (.inRegion ops (i::rest)::k)).finish u) cs w'):=by
 refine step_lone_go ?_
 rw [stepGR_op ho hw,Oper.semAt_eq _ _ _ hd]
 rcases hn with rfl | ⟨rfl,rfl⟩<;>simp [stepG.apply,Sem.runT_eq,hr,GStep.bare_after]
theorem step_enter {P:Program} {b:Frame} {a:Act} {k:List Item} {cs:List Frame} {w w':World} {ops:Array Oper} {i:Nat} {rest:List Nat} {o:Oper} {g:FuncId} {args:Array Value} (ho:ops[i]? = some o)
  (hw:Region.wanted o (yielded ops a.tmps)=true) (hd:∀ c,o.op≠.defer c) (hr:(execOp a.eval o).run P w=.ok (.enter g args) w') :
  step P (lone (b.atR a (.inRegion ops (i::rest)::k)) cs w)=.next (lone (Frame.enter P g args .normal) (b.atR a (.inRegion ops (i::rest)::k)::cs) w'):=by
 refine step_lone_go ?_
 rw [stepGR_op ho hw,Oper.semAt_eq _ _ _ hd]
 simp [stepG.apply,Sem.runT_eq,hr,GStep.bare_after,Frame.atR]
theorem step_round {P:Program} {b:Frame} {a:Act} {k:List Item} {cs:List Frame} {w w':World} {ops:Array Oper} {i:Nat} {rest:List Nat} {o:Oper} {l g:Nat} {tmps:Array Value} {asg body:Code} (ho:ops[i]? = some o)
  (hw:Region.wanted o (yielded ops a.tmps)=true) (hd:∀ c,o.op≠.defer c) (hr:(execOp a.eval o).run P w=.ok (.round l g tmps asg body) w') :
  step P (lone (b.atR a (.inRegion ops (i::rest)::k)) cs w)=.next (lone (Frame.round l g tmps asg body .normal) (b.atR a (.inRegion ops (i::rest)::k)::cs) w'):=by
 refine step_lone_go ?_
 rw [stepGR_op ho hw,Oper.semAt_eq _ _ _ hd]
 simp [stepG.apply,Sem.runT_eq,hr,GStep.bare_after,Frame.atR]
theorem symOp_defer (c:Call) (T:List (Nat×SV)):symOp cc H T (.defer c)=.bad 117:=rfl
end
end Go.Sx
