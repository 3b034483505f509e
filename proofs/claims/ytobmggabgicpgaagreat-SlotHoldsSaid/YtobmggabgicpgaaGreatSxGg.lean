/- A symbolic executor: copies into arrays, what is cleared. -/
import Derived.Test.YtobmggabgicpgaaGreatSxGd
import Derived.Laws.MakeOwn
import Derived.Maps.RangeRun
namespace Go.Sx
set_option linter.unusedVariables false
set_option linter.unusedSimpArgs false
open Go.RowKit
inductive StR where
 | ok (H:Hp)
 | ask (p:SB)
 | no
noncomputable def stoB (cc:Cc) (H:Hp) (id:Nat) (j cnt c' j':SI):StR:=
 match get H.heap id with
 | some (.arr lay c n t cp)=>match dec (bdOf cc H) H.facts (.le (SI.add j cnt) cp) with
   | .yes true=>match dec (bdOf cc H) H.facts (.le (SI.add j cnt) n) with
     | .yes true=>.ok (H.put id (.arr lay (.ap 9 c j c' j' cnt (.c 0)) n t cp))
     | .yes false=>match dec (bdOf cc H) H.facts (.le j n) with
       | .yes true=>.ok (H.put id (.arr lay (.ap 9 c j c' j' cnt (.c 0)) (SI.add j cnt) t cp))
       | .yes false=>.no
       | .ask p=>.ask p
     | .ask p=>.ask p
   | .yes false=>.no
   | .ask p=>.ask p
 | _=>.no
section
variable {cc:Cc} {C:Ct} {hc:Nat→Option Obj} {w0:World} {ρ:Dyn} {H:Hp} {w:World}
theorem stoB_ask (hcc:cc.Ok C) (h:HpRel C hc w0 ρ H w) {id:Nat} {j cnt c' j':SI} {jv mv:Nat} (hj:j.den C.σ ρ=some (Int.ofNat jv)) (hm:cnt.den C.σ ρ=some (Int.ofNat mv)) {q:SB} (hs:stoB cc H id j cnt c' j'=.ask q):∃ b,q.den C.σ ρ=some b:=by
 unfold stoB at hs
 split at hs
 ·rename_i lay c n t cp hg
  obtain ⟨b,o,e1,e2,cv,nv,cpv,A,h1,h2,h3,h4⟩:=h.blk id _ hg rfl
  have hadd:=SI.add_den hj hm
  have d1:(SB.le (SI.add j cnt) cp).den C.σ ρ=some (decide (Int.ofNat jv+Int.ofNat mv≤Int.ofNat cpv)):=by simp [SB.den,hadd,h3]
  have d2:(SB.le (SI.add j cnt) n).den C.σ ρ=some (decide (Int.ofNat jv+Int.ofNat mv≤Int.ofNat nv)):=by simp [SB.den,hadd,h2]
  have d3:(SB.le j n).den C.σ ρ=some (decide (Int.ofNat jv≤Int.ofNat nv)):=by simp [SB.den,hj,h2]
  split at hs
  ·split at hs
   ·cases hs
   ·split at hs
    ·cases hs
    ·cases hs
    ·rename_i p hd;cases hs;exact ask_den (bdOf_ok hcc h) h.facts d3 hd
   ·rename_i p hd;cases hs;exact ask_den (bdOf_ok hcc h) h.facts d2 hd
  ·cases hs
  ·rename_i p hd;cases hs;exact ask_den (bdOf_ok hcc h) h.facts d1 hd
 ·cases hs
theorem blit_ar {σ:Sta} (al:ArrLaw σ) {lay:List Kd} {A:List Value} {us:List Value} {cv cv':Int} {jv jv' mv nv n2:Nat} (hlen:us.length=mv * lay.length) (hA:(jv+mv) * lay.length≤A.length)
  (ha:∀ i,i < nv→∀ (f:Nat) (κ:Kd),lay[f]? = some κ→A[i * lay.length+f]? = some (κ.val σ cv i f)) (hu:∀ i,i < mv→∀ (f:Nat) (κ:Kd),lay[f]? = some κ→us[i * lay.length+f]? = some (κ.val σ cv' (jv'+i) f))
  (hn:n2≤nv∨(jv≤nv∧n2=jv+mv)):∀ i,i < n2→∀ (f:Nat) (κ:Kd),lay[f]? = some κ→(A.take (jv * lay.length)++us++A.drop (jv * lay.length+us.length))[i * lay.length+f]? = some (κ.val σ (σ.fi 9 cv jv cv' jv' mv 0) i f):=by
 intro i hi f κ hκ
 have hf:f < lay.length:=(List.getElem?_eq_some_iff.1 hκ).1
 have e1:(jv+mv) * lay.length=jv * lay.length+mv * lay.length:=Nat.add_mul _ _ _
 rw [splice_get _ _ _ _ (by omega),al.b]
 by_cases h1:jv≤i∧i < jv+mv
 ·obtain ⟨q,rfl⟩:∃ q,i=jv+q:=⟨i - jv,by omega⟩
  have e2:(jv+q) * lay.length=jv * lay.length+q * lay.length:=Nat.add_mul _ _ _
  have e3:(q+1) * lay.length≤mv * lay.length:=Nat.mul_le_mul_right _ (by omega)
  rw [Nat.add_mul] at e3
  rw [if_pos (by omega),if_pos h1]
  have:=hu q (by omega) f κ hκ
  have e4:jv+q - jv=q:=by omega
  rw [e4,← this]
  congr 1;omega
 ·rw [if_neg h1]
  have hin:i < nv:=by omega
  have:¬ (jv * lay.length≤i * lay.length+f∧i * lay.length+f < jv * lay.length+us.length):=by
   rintro ⟨g1,g2⟩
   apply h1
   constructor
   ·apply Nat.le_of_not_lt
    intro hlt
    have:(i+1) * lay.length≤jv * lay.length:=Nat.mul_le_mul_right _ hlt
    rw [Nat.add_mul] at this;omega
   ·apply Nat.lt_of_not_le
    intro hle
    have:(jv+mv) * lay.length≤i * lay.length:=Nat.mul_le_mul_right _ hle
    omega
  rw [if_neg this]
  exact ha i hin f κ hκ
theorem stoB_ok (hcc:cc.Ok C) (h:HpRel C hc w0 ρ H w) {id b:Nat} {lay:List Kd} {c n cp:SI} {t:TypeId} (hg:get H.heap id=some (.arr lay c n t cp)) (hb:ρ.bl id=some b) {j cnt c' j':SI} {jv mv jv':Nat} {cv':Int} (hj:j.den C.σ ρ=some (Int.ofNat jv)) (hm:cnt.den C.σ ρ=some (Int.ofNat mv))
  (hc':c'.den C.σ ρ=some cv') (hj':j'.den C.σ ρ=some (Int.ofNat jv')) {us:List Value} (hlen:us.length=mv * lay.length) (hu:∀ i,i < mv→∀ (f:Nat) (κ:Kd),lay[f]? = some κ→us[i * lay.length+f]? = some (κ.val C.σ cv' (jv'+i) f)) (hone:∀ u∈us,u.oneCell'=true)
  {H':Hp} (hs:stoB cc H id j cnt c' j'=.ok H'):∃ w',(storeCells ⟨b,jv * lay.length,none⟩ us 0).run cc.P w=.ok () w'∧Tn ρ H w ρ H' w'∧HpRel C hc w0 ρ H' w':=by
 obtain ⟨b',o,e1,e2,cv,nv,cpv,A,h1,h2,h3,h4,h5,h6,rfl⟩:=h.blk id _ hg rfl
 have:b'=b:=by rw [e1] at hb;exact Option.some.inj hb
 subst this
 have hadd:=SI.add_den hj hm
 have hAl:A.toList.length=A.size:=by simp
 have done:jv+mv≤cpv→∀ (n2:SI) (nv2:Nat),n2.den C.σ ρ=some (Int.ofNat nv2)→nv2≤cpv→(nv2≤nv∨(jv≤nv∧nv2=jv+mv))→
   ∃ w',(storeCells ⟨b',jv * lay.length,none⟩ us 0).run cc.P w=.ok () w'∧Tn ρ H w ρ (H.put id (.arr lay (.ap 9 c j c' j' cnt (.c 0)) n2 t cp)) w'∧HpRel C hc w0 ρ (H.put id (.arr lay (.ap 9 c j c' j' cnt (.c 0)) n2 t cp)) w':=by
  intro hroom n2 nv2 hn2 hc2 hor
  have hmul:(jv+mv) * lay.length≤cpv * lay.length:=Nat.mul_le_mul_right _ hroom
  have hsp:(jv+mv) * lay.length=jv * lay.length+mv * lay.length:=Nat.add_mul _ _ _
  have hst:=run_storeCells_at (P:=cc.P) b' (jv * lay.length) t us 0 A w e2 (by simp;omega) hone
  rw [Nat.add_zero] at hst
  have hbk:(Bk.arr lay (.ap 9 c j c' j' cnt (.c 0)) n2 t cp).Is C.σ ρ (.cells (A.toList.take (jv * lay.length)++us++A.toList.drop (jv * lay.length+us.length)).toArray t (0,0)):=by
   refine ⟨C.σ.fi 9 cv jv cv' jv' mv 0,nv2,cpv,_,?_,hn2,h3,hc2,?_,?_,rfl⟩
   ·simp only [SI.den,h1,hj,hc',hj',hm,Option.bind_some];rfl
   ·simp only [List.size_toArray]
    rw [splice_length _ _ _ (by rw [hAl,h5];omega),hAl,h5]
   ·have:=blit_ar hcc.al (A:=A.toList) (us:=us) (cv:=cv) (cv':=cv') (jv:=jv) (jv':=jv') (mv:=mv) (nv:=nv) (n2:=nv2) hlen (by rw [hAl,h5];omega) (fun i hi f κ hκ=>by
     have:=h6 i hi f κ hκ
     rw [Nat.zero_add] at this
     rw [Array.getElem?_toList];exact this) hu hor
    intro i hi f κ hκ
    have:=this i hi f κ hκ
    rw [Nat.zero_add]
    simpa using this
  refine ⟨_,hst,Tn.of_put e1 (fun i hi=>setRow_other _ _ _ _ hi) (by simp),h.put hg rfl (b:=b') e1 rfl hbk (fun i hi=>setRow_other _ _ _ _ hi) (setRow_heap _ _ _ _ _ _ e2) (by simp) rfl rfl rfl⟩
 unfold stoB at hs
 rw [hg] at hs
 dsimp only at hs
 have d1:(SB.le (SI.add j cnt) cp).den C.σ ρ=some (decide (Int.ofNat jv+Int.ofNat mv≤Int.ofNat cpv)):=by simp [SB.den,hadd,h3]
 have d2:(SB.le (SI.add j cnt) n).den C.σ ρ=some (decide (Int.ofNat jv+Int.ofNat mv≤Int.ofNat nv)):=by simp [SB.den,hadd,h2]
 have d3:(SB.le j n).den C.σ ρ=some (decide (Int.ofNat jv≤Int.ofNat nv)):=by simp [SB.den,hj,h2]
 have nat:∀ {a b:Nat},(Int.ofNat a≤Int.ofNat b)→a≤b:=fun hh=>Int.ofNat_le.1 hh
 split at hs
 ·rename_i q1
  have r1:=dec_ok (bdOf_ok hcc h) h.facts d1 q1
  have r1:jv+mv≤cpv:=nat (by simpa using r1.symm)
  split at hs
  ·cases hs
   exact done r1 n nv h2 h4 (.inl (Nat.le_refl _))
  ·rename_i q2
   split at hs
   ·rename_i q3
    cases hs
    have r3:=dec_ok (bdOf_ok hcc h) h.facts d3 q3
    have r3:jv≤nv:=nat (by simpa using r3.symm)
    exact done r1 _ (jv+mv) hadd r1 (.inr ⟨r3,rfl⟩)
   ·cases hs
   ·cases hs
  ·cases hs
 ·cases hs
 ·cases hs
noncomputable def opCopy (cc:Cc) (H:Hp) (ts:Array TypeId) (xs:List SV):OpR:=
 match lnth ts.toList 0,xs with
 | some t,[.sl (.n id) o dl dc,s]=>match cc.P.underlying t,get H.heap id with
   | some (.slice e),some (.arr lay _ _ _ _)=>match cc.P.info? e,splitA none (llen lay) o,viewA cc H lay s with
     | some i,some (j,f),.ok c' j' m=>bif Nat.beq f 0 && (Nat.blt 0 (llen lay) && Nat.beq (llen lay) i.size) then
       (match dec (bdOf cc H) H.facts (.le m dl) with
       | .yes true=>(match stoB cc H id j m c' j' with | .ok H'=>.val (.it .i64 m) H' | .ask p=>.ask p | .no=>.bad 351)
       | .yes false=>(match stoB cc H id j dl c' j' with | .ok H'=>.val (.it .i64 dl) H' | .ask p=>.ask p | .no=>.bad 352)
       | .ask p=>.ask p) else .bad 353
     | some _,some _,.ask p=>bif Nat.blt 0 (llen lay) then .ask p else .bad 357
     | _,_,_=>.bad 354
   | _,_=>.bad 355
 | _,_=>.bad 356
theorem run_copy {P:Program} {w w':World} {ts:Array TypeId} (t ty e:TypeId) (h0:ts[0]? = some t) (i:TypeInfo) (ht:P.underlying t=some (.slice e)) (hi:P.info? e=some i) (b k n cap:Nat) (a:Option Addr) (m c q:Nat) (us:List Value) (hq:q=min m n)
  (hf:(Builtin.firstCells i.size q (.slice a m c)).run P w=.ok us.toArray w) (hst:(storeCells ⟨b,k,none⟩ us 0).run P w=.ok () w') :
  (Builtin.copy_ ts ty #[.slice (some ⟨b,k,none⟩) n cap,.slice a m c]).run P w=.ok (.int .i64 q) w':=by
 subst hq
 simp [Builtin.copy_,h0,run_underlying ht,sizeOf,typeInfo,hi,Builtin.lenOf,hf,hst,goInt]
theorem opCopy_ok (hcc:cc.Ok C) (h:HpRel C hc w0 ρ H w) {ts:Array TypeId} {ty:TypeId} {xs:List SV} {us:List Value} (hx:SV.IsL C.σ ρ xs us):(opCopy cc H ts xs).Ok cc C hc w0 ρ H w (do pure (.value (← Builtin.copy_ ts ty us.toArray))):=by
 unfold opCopy
 split
 ·rename_i t id o dl dc s ht
  rw [lnth_eq] at ht
  have h0:ts[0]? = some t:=by simpa using ht
  rw [SV.isL_cons] at hx
  obtain ⟨u,r,rfl,hd,h2⟩:=hx
  rw [SV.isL_cons] at h2
  obtain ⟨v,r',rfl,hs,h3⟩:=h2
  rw [SV.isL_nil] at h3
  subst h3
  simp only [SV.Is] at hd
  obtain ⟨b,k,len,cap,e1,e2,e3,e4,rfl⟩:=hd
  simp only [SR.den] at e1
  split
  ·rename_i e lay c n t' cp hu hg
   split
   ·rename_i i j f c' j' m hi hsp hv
    cases hck:(Nat.beq f 0 && (Nat.blt 0 (llen lay) && Nat.beq (llen lay) i.size)) with
    | false=>trivial
    | true=>
      simp only [Bool.and_eq_true] at hck
      obtain ⟨q1,q2,q3⟩:=hck
      rw [llen_eq] at q2 q3
      have q1:=Nat.eq_of_beq_eq_true q1
      subst q1
      have hlay:0 < lay.length:=by simpa [Nat.blt_eq] using q2
      have hli:=Nat.eq_of_beq_eq_true q3
      rw [llen_eq] at hsp
      obtain ⟨y,hy,hk⟩:=splitA_ok (bn:=0) rfl hsp e2
      have hy0:0≤y:=by
       have h1:(0:Int)≤y * lay.length:=by
        have:(Int.ofNat k)=(k:Int):=rfl
        omega
       rcases Int.lt_or_le y 0 with hlt | hge
       ·have:=Int.mul_neg_of_neg_of_pos hlt (show (0:Int) < lay.length by omega);omega
       ·exact hge
      obtain ⟨jv,rfl⟩:∃ jv:Nat,y=Int.ofNat jv:=⟨y.toNat,by show y=(y.toNat:Int);omega⟩
      have hk':k=jv * lay.length:=by
       have:(k:Int)=(jv:Int) * lay.length:=by
        have e:(Int.ofNat k)=(k:Int):=rfl
        have e':(Int.ofNat jv)=(jv:Int):=rfl
        rw [e,e'] at hk;omega
       exact_mod_cast this
      have hvw:=viewA_ok hcc h hlay hs
      rw [hv] at hvw
      obtain ⟨aS,capS,mv,cv',jv',vs,rfl,g1,g2,g3,g4,g5,g6,g7⟩:=hvw
      have hone:=VwOk.one g4 g5 hlay
      have hle:(SB.le m dl).den C.σ ρ=some (decide (Int.ofNat mv≤Int.ofNat len)):=by simp [SB.den,g3,e3]
      have main:∀ (cnt:SI) (qv:Nat),cnt.den C.σ ρ=some (Int.ofNat qv)→qv=min mv len→∀ H',stoB cc H id j cnt c' j'=.ok H'→(OpR.val (.it .i64 cnt) H').Ok cc C hc w0 ρ H w (do pure (.value (← Builtin.copy_ ts ty [.slice (some ⟨b,k,none⟩) len cap,.slice aS mv capS].toArray))):=by
       intro cnt qv hcnt hq H' hst
       have hqm:qv≤mv:=by omega
       have hmul:qv * lay.length≤mv * lay.length:=Nat.mul_le_mul_right _ hqm
       have hl1:(vs.take (qv * lay.length)).length=qv * lay.length:=by rw [List.length_take];omega
       obtain ⟨w',s1,s2,s3⟩:=stoB_ok hcc h hg e1 hy hcnt g1 g2 (us:=vs.take (qv * lay.length)) hl1 (fun i' hi' f κ hκ=>by
        have hf:=(List.getElem?_eq_some_iff.1 hκ).1
        have:(i'+1) * lay.length≤qv * lay.length:=Nat.mul_le_mul_right _ hi'
        rw [Nat.add_mul] at this
        rw [List.getElem?_take,if_pos (by omega)]
        exact g5 i' (by omega) f κ hκ) (fun u hu=>hone u (List.mem_of_mem_take hu)) hst
       have hf:(Builtin.firstCells i.size qv (.slice aS mv capS)).run cc.P w=.ok (vs.take (qv * lay.length)).toArray w:=by
        cases aS with
        | none=>
          by_cases hq0:qv=0
          ·subst hq0;simp [Builtin.firstCells]
          ·exfalso
           have:=g7 w rfl
           simp [Builtin.firstCells] at this
           have hv0:vs=[]:=this
           rw [hv0] at g4
           have:0 < mv * lay.length:=Nat.mul_pos (by omega) hlay
           simp at g4;omega
        | some aa=>
          rw [← hli]
          exact run_firstCells_some w lay.length qv aa mv capS _ hl1 fun p v hp=>by
           rw [List.getElem?_take] at hp
           split at hp
           ·exact g6 aa rfl p v hp
           ·cases hp
       rw [hk']
       refine ⟨ρ,.value (.int .i64 qv),.int .i64 qv,w',s2,?_,.inl rfl,?_,s3⟩
       ·have:=run_copy (ty:=ty) t e h0 i hu hi b (jv * lay.length) len cap aS mv capS qv _ hq hf s1
        simp [this]
       ·simp only [SV.Is];exact ⟨_,hcnt,rfl⟩
      dsimp only [cond_true]
      split
      ·rename_i hd
       have:=dec_ok (bdOf_ok hcc h) h.facts hle hd
       have hml:mv≤len:=Int.ofNat_le.1 (by simpa using this.symm)
       split
       ·rename_i H' hst;exact main m mv g3 (by omega) H' hst
       ·rename_i p hst;exact stoB_ask hcc h hy g3 hst
       ·trivial
      ·rename_i hd
       have:=dec_ok (bdOf_ok hcc h) h.facts hle hd
       have hml:¬ mv≤len:=fun hh=>by
        have:¬ (Int.ofNat mv≤Int.ofNat len):=by simpa using this.symm
        exact this (Int.ofNat_le.2 hh)
       split
       ·rename_i H' hst;exact main dl len e3 (by omega) H' hst
       ·rename_i p hst;exact stoB_ask hcc h hy e3 hst
       ·trivial
      ·rename_i p hd
       exact ask_den (bdOf_ok hcc h) h.facts hle hd
   ·rename_i i j f p hi hsp hv
    cases hb:Nat.blt 0 (llen lay) with
    | false=>trivial
    | true=>
      rw [llen_eq] at hb
      have hvw:=viewA_ok hcc h (lay:=lay) (by simpa [Nat.blt_eq] using hb) hs
      rw [hv] at hvw;exact hvw
   ·trivial
  ·trivial
 ·trivial
def zc1 (κ:Kd) (v:Value):Bool:=match κ,v with
 | .nt k,.int k' n=>keq k k' && ieq n 0
 | .tv,.bool b=>!b
 | _,_=>false
theorem zc1_ok {κ:Kd} {v:Value} (h:zc1 κ v=true):v=κ.of 0:=by
 unfold zc1 at h
 split at h
 ·rename_i k k' n
  rw [Bool.and_eq_true] at h
  have:=keq_eq h.1;subst this
  have:=ieq_iff.1 h.2;subst this
  have hw:k.wrap 0=0:=wrap_in k 0 (by cases k<;>decide) (by cases k<;>decide)
  show _=Value.int k (k.wrap 0)
  rw [hw]
 ·rename_i b
  cases b with
  | true=>cases h
  | false=>rfl
 ·cases h
noncomputable def zcs (lay:List Kd):List Value→Bool:=
 List.rec (motive:=fun _=>List Value→Bool) (fun l=>match l with | []=>true | _=>false) (fun κ _ ih l=>match l with | v::r=>bif zc1 κ v then ih r else false | []=>false) lay
theorem zcs_ok:∀ {lay:List Kd} {l:List Value},zcs lay l=true→l.length=lay.length∧∀ (f:Nat) (κ:Kd),lay[f]? = some κ→l[f]? = some (κ.of 0)
 | [],[],_=>⟨rfl,fun f κ h=>by simp at h⟩
 | [],_::_,h=>by cases h
 | _::_,[],h=>by cases h
 | κ0::lay,v::l,h=>by
   have h':(bif zc1 κ0 v then zcs lay l else false)=true:=h
   rw [cond_true_iff] at h'
   obtain ⟨e1,e2⟩:=zcs_ok h'.2
   refine ⟨by simp [e1],fun f κ hf=>?_⟩
   cases f with
   | zero=>simp at hf;subst hf;rw [zc1_ok h'.1];rfl
   | succ f=>simpa using e2 f κ (by simpa using hf)
theorem zero_cells {lay:List Kd} {z:Array Value} {n:Nat} (h:zcs lay z.toList=true) (hlay:0 < lay.length) :
  (Builtin.zeroCells z n).toList.length=n * lay.length∧(∀ i,i < n→∀ (f:Nat) (κ:Kd),lay[f]? = some κ→(Builtin.zeroCells z n).toList[i * lay.length+f]? = some (κ.of 0))∧∀ u∈(Builtin.zeroCells z n).toList,u.oneCell'=true:=by
 obtain ⟨e1,e2⟩:=zcs_ok h
 have hs:z.size=lay.length:=by simpa using e1
 have hget:∀ i,i < n→∀ (f:Nat) (κ:Kd),lay[f]? = some κ→(Builtin.zeroCells z n).toList[i * lay.length+f]? = some (κ.of 0):=by
  intro i hi f κ hκ
  have hf:=(List.getElem?_eq_some_iff.1 hκ).1
  have hb:(i+1) * lay.length≤n * lay.length:=Nat.mul_le_mul_right _ hi
  rw [Nat.add_mul] at hb
  obtain ⟨h1,h2⟩:=row_split (i:=i) hf
  have:=e2 f κ hκ
  rw [Array.getElem?_toList] at this ⊢
  simp only [Builtin.zeroCells,hs,Array.getElem?_map]
  rw [Array.getElem?_range,if_pos (by omega)]
  simp only [Option.map_some,h2]
  rw [getElem!_def,this]
 refine ⟨by simp [size_zeroCells,hs],hget,fun u hu=>?_⟩
 obtain ⟨p,hp⟩:=List.getElem?_of_mem hu
 have hlt:p < n * lay.length:=by
  have:=(List.getElem?_eq_some_iff.1 hp).1
  simpa [size_zeroCells,hs] using this
 have hm:=Nat.mod_lt p hlay
 have hκ:=List.getElem?_eq_getElem hm
 have:=hget (p / lay.length) (Nat.div_lt_of_lt_mul (by rw [Nat.mul_comm];exact hlt)) _ _ hκ
 have hd:=Nat.div_add_mod p lay.length
 rw [Nat.mul_comm,hd,hp] at this
 cases this
 generalize lay[p % lay.length]=κ
 cases κ<;>rfl
noncomputable def opClear (cc:Cc) (H:Hp) (ts:Array TypeId) (xs:List SV):OpR:=
 match lnth ts.toList 0,xs with
 | some t,[.sl (.n id) o l dc]=>match cc.P.underlying t,get H.heap id with
   | some (.slice e),some (.arr lay _ _ _ _)=>match cc.P.info? e,splitA none (llen lay) o with
     | some i,some (j,f)=>match i.zero with
       | some z=>bif Nat.beq f 0 && (Nat.blt 0 (llen lay) && (Nat.beq (llen lay) i.size && zcs lay z.cells.toList)) then
         (match stoB cc H id j l (.c 0) (.c 0) with | .ok H'=>.val (.tp []) H' | .ask p=>.ask p | .no=>.bad 361)
         else .bad 362
       | none=>.bad 363
     | _,_=>.bad 364
   | _,_=>.bad 365
 | _,_=>.bad 366
theorem run_clear {P:Program} {w w':World} {ts:Array TypeId} (t ty e:TypeId) (h0:ts[0]? = some t) (i:TypeInfo) (z:Value) (ht:P.underlying t=some (.slice e)) (hi:P.info? e=some i) (hz:i.zero=some z) (b k n cap:Nat)
  (hst:(storeCells ⟨b,k,none⟩ (Builtin.zeroCells z.cells n).toList 0).run P w=.ok () w') :
  (Builtin.clear_ ts ty #[.slice (some ⟨b,k,none⟩) n cap]).run P w=.ok (.tuple #[]) w':=by
 cases n with
 | zero=>
   have e:(Builtin.zeroCells z.cells 0).toList=[]:=by simp [Builtin.zeroCells]
   rw [e] at hst
   have hw:w'=w:=by simp [storeCells] at hst;exact hst.symm
   subst hw
   simp [Builtin.clear_,h0,run_underlying ht]
 | succ n=>
   simp [Builtin.clear_,h0,run_underlying ht,zeroValue,typeInfo,hi,hz,hst]
theorem opClear_ok (hcc:cc.Ok C) (h:HpRel C hc w0 ρ H w) {ts:Array TypeId} {ty:TypeId} {xs:List SV} {us:List Value} (hx:SV.IsL C.σ ρ xs us):(opClear cc H ts xs).Ok cc C hc w0 ρ H w (do pure (.value (← Builtin.clear_ ts ty us.toArray))):=by
 unfold opClear
 split
 ·rename_i t id o l dc ht
  rw [lnth_eq] at ht
  have h0:ts[0]? = some t:=by simpa using ht
  rw [SV.isL_cons] at hx
  obtain ⟨u,r,rfl,hd,h2⟩:=hx
  rw [SV.isL_nil] at h2
  subst h2
  simp only [SV.Is] at hd
  obtain ⟨b,k,len,cap,e1,e2,e3,e4,rfl⟩:=hd
  simp only [SR.den] at e1
  split
  ·rename_i e lay c n t' cp hu hg
   split
   ·rename_i i j f hi hsp
    split
    ·rename_i z hz
     cases hck:(Nat.beq f 0 && (Nat.blt 0 (llen lay) && (Nat.beq (llen lay) i.size && zcs lay z.cells.toList))) with
     | false=>trivial
     | true=>
       simp only [Bool.and_eq_true] at hck
       obtain ⟨q1,q2,q3,q4⟩:=hck
       rw [llen_eq] at q2 q3
       have q1:=Nat.eq_of_beq_eq_true q1
       subst q1
       have hlay:0 < lay.length:=by simpa [Nat.blt_eq] using q2
       rw [llen_eq] at hsp
       obtain ⟨y,hy,hk⟩:=splitA_ok (bn:=0) rfl hsp e2
       have hy0:0≤y:=by
        have h1:(0:Int)≤y * lay.length:=by
         have:(Int.ofNat k)=(k:Int):=rfl
         omega
        rcases Int.lt_or_le y 0 with hlt | hge
        ·have:=Int.mul_neg_of_neg_of_pos hlt (show (0:Int) < lay.length by omega);omega
        ·exact hge
       obtain ⟨jv,rfl⟩:∃ jv:Nat,y=Int.ofNat jv:=⟨y.toNat,by show y=(y.toNat:Int);omega⟩
       have hk':k=jv * lay.length:=by
        have:(k:Int)=(jv:Int) * lay.length:=by
         have e:(Int.ofNat k)=(k:Int):=rfl
         have e':(Int.ofNat jv)=(jv:Int):=rfl
         rw [e,e'] at hk;omega
        exact_mod_cast this
       obtain ⟨z1,z2,z3⟩:=zero_cells (z:=z.cells) (n:=len) q4 hlay
       dsimp only [cond_true]
       split
       ·rename_i H' hst
        obtain ⟨w',s1,s2,s3⟩:=stoB_ok hcc h hg e1 hy e3 (c':=.c 0) (j':=.c 0) (cv':=0) (jv':=0) rfl rfl z1 (fun i' hi' f κ hκ=>by rw [hcc.al.z];exact z2 i' hi' f κ hκ) z3 hst
        rw [hk']
        refine ⟨ρ,.value (.tuple #[]),.tuple #[],w',s2,?_,.inl rfl,?_,s3⟩
        ·have:=run_clear (ty:=ty) t e h0 i z hu hi hz b (jv * lay.length) len cap s1
         simp [this]
        ·simp only [SV.Is];exact ⟨[],by simp [SV.IsL],rfl⟩
       ·rename_i p hst;exact stoB_ask hcc h hy e3 hst
       ·trivial
    ·trivial
   ·trivial
  ·trivial
 ·trivial
end
end Go.Sx
namespace Go.Sx
noncomputable section
set_option linter.unusedVariables false
set_option linter.unusedSimpArgs false
open Go.RowKit
section
variable {cc:Cc} {C:Ct} {hc:Nat→Option Obj} {w0:World} {ρ:Dyn} {H:Hp} {w:World}
def opMakeS (cc:Cc) (H:Hp) (t:TypeId) (l c:SV):OpR:=
 match l,c with
 | .it _ n,.it _ m=>bif n.beq m then
   (match cc.P.underlying t with
   | some (.slice e)=>match cc.P.info? e,layT cc.P 6 e with
     | some i,some lay=>match i.zero with
       | some z=>bif Nat.blt 0 (llen lay) && (Nat.beq (llen lay) i.size && (zcs lay z.cells.toList && fitsB cc H n i.bytes)) then
         (match dec (bdOf cc H) H.facts (.le (.c 0) n) with
         | .yes true=>.val (.sl (.n H.nb) (.c 0) n n) (H.alloc (.arr lay (.c 0) n e n))
         | .yes false=>.bad 370
         | .ask p=>.ask p) else .bad 371
       | none=>.bad 372
     | _,_=>.bad 373
   | _=>.bad 374)
   else .bad 375
 | _,_=>.bad 376
theorem opMakeS_ok (hcc:cc.Ok C) (h:HpRel C hc w0 ρ H w) {t:TypeId} {l c:SV} {u v:Value} (hl:l.Is C.σ ρ u) (hcv:c.Is C.σ ρ v):(opMakeS cc H t l c).Ok cc C hc w0 ρ H w (do pure (.value (← Instr.makeSlice t u v))):=by
 unfold opMakeS
 split
 ·rename_i kl n kc m
  cases hnm:n.beq m with
  | false=>trivial
  | true=>
    have:=SI.beq_eq hnm
    subst this
    simp only [cond_true]
    simp only [SV.Is] at hl hcv
    obtain ⟨x,e1,rfl⟩:=hl
    obtain ⟨y,e2,rfl⟩:=hcv
    rw [e1] at e2
    cases e2
    split
    ·rename_i e hu
     split
     ·rename_i i lay hi hlay
      split
      ·rename_i z hz
       cases hck:(Nat.blt 0 (llen lay) && (Nat.beq (llen lay) i.size && (zcs lay z.cells.toList && fitsB cc H n i.bytes))) with
       | false=>trivial
       | true=>
         simp only [Bool.and_eq_true] at hck
         obtain ⟨q1,q2,q3,q4⟩:=hck
         rw [llen_eq] at q1 q2
         have hl0:0 < lay.length:=by simpa [Nat.blt_eq] using q1
         have hli:=Nat.eq_of_beq_eq_true q2
         have hle:(SB.le (.c 0) n).den C.σ ρ=some (decide ((0:Int)≤x)):=by simp [SB.den,SI.den,e1]
         simp only [cond_true]
         split
         ·rename_i hd
          have hx0:(0:Int)≤x:=by simpa using (dec_ok (bdOf_ok hcc h) h.facts hle hd).symm
          obtain ⟨k,rfl⟩:∃ k:Nat,x=Int.ofNat k:=⟨x.toNat,by show x=(x.toNat:Int);omega⟩
          obtain ⟨f1,f2⟩:=fitsB_ok hcc h e1 q4
          have hb:(i.bytes:Int) * (k:Int)≤281474976710656:=by
           have:((k * i.bytes:Nat):Int)≤140737488355328:=Int.ofNat_le.2 f2
           rw [Int.natCast_mul,Int.mul_comm] at this;omega
          have hr:=run_make (P:=cc.P) w t e i z hu hi hz kl kc k k hx0 (Int.le_refl _) hb (by omega)
          simp only [Int.toNat_natCast] at hr
          obtain ⟨z1,z2,z3⟩:=zero_cells (z:=z.cells) (n:=k) q3 hl0
          have hzs:z.cells.size=i.size:=by
           have:=(zcs_ok q3).1
           rw [← hli];simpa using this
          have hmz:madeCells z.cells (k * i.size)=Builtin.zeroCells z.cells k:=by unfold madeCells Builtin.zeroCells;rw [hzs]
          rw [hmz] at hr
          have hle2:=h.le_alloc w.heap.size
          refine ⟨ρ.setBl H.nb w.heap.size,.value (.slice (some ⟨w.heap.size,0,none⟩) k k),.slice (some ⟨w.heap.size,0,none⟩) k k,w.alloc (.cells (Builtin.zeroCells z.cells k) e),Tn.of_alloc ρ H w _ _,?_,.inl rfl,?_,?_⟩
          ·have hr':Sem.run cc.P (Instr.makeSlice t (.int kl (Int.ofNat k)) (.int kc (Int.ofNat k))) w=_:=hr
           simp only [Sem.run_bind,hr',Result.andThen_ok,Sem.run_pure]
          ·simp only [SV.Is,SR.den];exact ⟨_,0,k,k,Dyn.setBl_same _ _ _,rfl,SI.den_mono hle2 _ _ e1,SI.den_mono hle2 _ _ e1,rfl⟩
          ·refine h.alloc' ⟨0,k,k,_,rfl,SI.den_mono hle2 _ _ e1,SI.den_mono hle2 _ _ e1,Nat.le_refl _,?_,fun j hj f κ hκ=>?_,rfl⟩
           ·rw [← Array.length_toList,z1]
           ·have:=z2 j hj f κ hκ
            rw [hcc.al.z,Nat.zero_add]
            rw [Array.getElem?_toList] at this
            exact this
         ·trivial
         ·rename_i p hd
          exact ask_den (bdOf_ok hcc h) h.facts hle hd
      ·trivial
     ·trivial
    ·trivial
 ·trivial
theorem run_append_zeros {P:Program} {w:World} (t t' ty e:TypeId) {ki:IntKind} (i:TypeInfo) (z:Value) (ht:P.underlying t=some (.slice e)) (ht':P.underlying t'=some (.int ki)) (hi:P.info? e=some i) (hz:i.zero=some z) (hzs:z.cells.size=i.size) (s:Option Addr) (n cap:Nat) (k:IntKind) (m:Nat) (olds:List Value)
  (hfo:(Builtin.firstCells i.size n (.slice s n cap)).run P w.drew=.ok olds.toArray w.drew) (hg:cap < n+m) (h63:n+m≤9223372036854775807) (hfit:(n+m) * i.bytes≤140737488355328) :
  (Builtin.append_ #[t,t'] ty #[.slice s n cap,.int k (m:Int)]).run P w =
   .ok (.slice (some ⟨w.heap.size,0,none⟩) (n+m) (grownCap w (n+m) cap e)) (w.drew.alloc (.cells (olds.toArray++Builtin.zeroCells z.cells m++Builtin.zeroCells z.cells (grownCap w (n+m) cap e - (n+m))) e)):=by
 have hn:¬ (n+m≤cap):=by omega
 have h63':¬ (9223372036854775807 < ((n:Int)+(m:Int))):=by omega
 have hfit':=growslice_fits (old:=cap) (need:=n+m) hg hfit
 have h48':¬ (281474976710656 < Builtin.nextslicecap (n+m) cap * i.bytes):=by omega
 have hw:IntKind.i64.wrap (m:Int)=(m:Int):=wrap_in .i64 _ (by show (-9223372036854775808:Int)≤m;omega) (by show (m:Int)≤9223372036854775807;omega)
 have hm0:¬ ((m:Int) < 0):=by omega
 have hmb:¬ (281474976710656 < (m:Int) * (i.bytes:Int)):=by
  have h1:m * i.bytes≤(n+m) * i.bytes:=Nat.mul_le_mul_right _ (by omega)
  have h2:((m * i.bytes:Nat):Int)≤281474976710656:=by omega
  rw [Int.natCast_mul] at h2;omega
 by_cases hz0:m * i.size=0
 ·have e0:Builtin.zeroCells z.cells m=#[]:=by
   unfold Builtin.zeroCells
   rw [hzs,hz0];simp
  simp [Builtin.append_,run_underlying ht,run_underlying ht',sizeOf,typeInfo,zeroValue,hi,hz,asInt,asIntOf,hw,hm0,hmb,hn,h63',h48',Question.forced,hfo,newRow,grownCap,hz0,e0]
 ·have hz1:¬ (m=0∨i.size=0):=fun h=>hz0 (Nat.mul_eq_zero.2 h)
  simp [Builtin.append_,run_underlying ht,run_underlying ht',sizeOf,typeInfo,zeroValue,hi,hz,asInt,asIntOf,hw,hm0,hmb,hn,h63',h48',Question.forced,hfo,newRow,grownCap,hz0,hz1]
def appZ (cc:Cc) (H:Hp) (e:TypeId) (lay:List Kd) (bytes:Nat) (s:SV) (n:SI):OpR:=
 match s with
 | .sl _ _ len cap=>bif fitsB cc H (SI.add len n) bytes then
   (match dec (bdOf cc H) H.facts (.le (.c 0) n) with
   | .yes true=>(match dec (bdOf cc H) H.facts (.le (SI.add len n) cap) with
     | .yes false=>catV cc H lay s (.vw (.c 0) (.c 0) n) fun c=>growB H e lay c (SI.add len n)
     | .yes true=>.bad 390
     | .ask p=>.ask p)
   | .yes false=>.bad 391
   | .ask p=>.ask p) else .bad 392
 | _=>.bad 393
theorem appZ_ok (hcc:cc.Ok C) (h:HpRel C hc w0 ρ H w) {t t' ty e:TypeId} {ki:IntKind} {i:TypeInfo} {z:Value} (ht:cc.P.underlying t=some (.slice e)) (ht':cc.P.underlying t'=some (.int ki)) (hi:cc.P.info? e=some i) (hz:i.zero=some z) (hzs:z.cells.size=i.size) {lay:List Kd} (hlay:0 < lay.length) (hli:lay.length=i.size) (hzc:zcs lay z.cells.toList=true)
  {s:SV} {us:Value} {n:SI} {k:IntKind} {nx:Int} (hs:s.Is C.σ ρ us) (hx:n.den C.σ ρ=some nx):(appZ cc H e lay i.bytes s n).Ok cc C hc w0 ρ H w (do pure (.value (← Builtin.append_ #[t,t'] ty #[us,.int k nx]))):=by
 unfold appZ
 split
 ·rename_i sx r o len cap
  obtain ⟨tot,htt⟩:∃ tot,tot=SI.add len n:=⟨_,rfl⟩
  rw [← htt]
  cases hfit:fitsB cc H tot i.bytes with
  | false=>trivial
  | true=>
    simp only [cond_true]
    have hle0:(SB.le (.c 0) n).den C.σ ρ=some (decide ((0:Int)≤nx)):=by simp [SB.den,SI.den,hx]
    split
    ·rename_i hd0
     have hx0:(0:Int)≤nx:=by simpa using (dec_ok (bdOf_ok hcc h) h.facts hle0 hd0).symm
     obtain ⟨mv,rfl⟩:∃ k:Nat,nx=Int.ofNat k:=⟨nx.toNat,by show nx=(nx.toNat:Int);omega⟩
     have hs0:=hs
     simp only [SV.Is] at hs0
     obtain ⟨b,kk,nv0,capv,e1,e2,e3,e4,hu0⟩:=hs0
     have htot:tot.den C.σ ρ=some (Int.ofNat (nv0+mv)):=by rw [htt,SI.add_den e3 hx];rfl
     have hle:(SB.le tot cap).den C.σ ρ=some (decide (Int.ofNat (nv0+mv)≤Int.ofNat capv)):=by simp [SB.den,htot,e4]
     obtain ⟨f1,f2⟩:=fitsB_ok hcc h htot hfit
     split
     ·rename_i hd
      have:=dec_ok (bdOf_ok hcc h) h.facts hle hd
      have hlt:capv < nv0+mv:=by
       have:¬ (Int.ofNat (nv0+mv)≤Int.ofNat capv):=by simpa using this.symm
       have:¬ (nv0+mv≤capv):=fun hh=>this (Int.ofNat_le.2 hh)
       omega
      unfold catV
      have hvw:=viewA_ok hcc h hlay hs
      cases hvS:viewA cc H lay (.sl r o len cap) with
      | no=>trivial
      | ask p=>rw [hvS] at hvw;exact hvw
      | ok c j nn=>
        rw [hvS] at hvw
        obtain ⟨aS,capS,nv,sv,jv,os,hus,g1,g2,g3,g4,g5,_,g6⟩:=hvw
        rw [hus] at hu0
        injection hu0 with hu1 hu2 hu3
        subst hu1 hu2 hu3
        obtain ⟨bv,b1,b2⟩:=baseC_ok hcc g1 g2 g3
        dsimp only
        obtain ⟨z1,z2,z3⟩:=zero_cells (z:=z.cells) (n:=mv) hzc hlay
        have hsi:(Src.vw (.c 0) (.c 0) n).Is cc C ρ lay (Builtin.zeroCells z.cells mv).toList mv:=
         ⟨0,0,rfl,rfl,hx,fun i' hi' f κ hκ=>by rw [hcc.al.z];exact z2 i' hi' f κ hκ⟩
        cases hcb:catB cc H lay (baseC c j nn) nn (.vw (.c 0) (.c 0) n) with
        | no=>trivial
        | ask p=>exact catB_ask hcc h hsi hcb
        | ok c'=>
          obtain ⟨cv',k1,k2⟩:=catB_ok hcc h hlay b1 g3 hsi z1 hcb
          have hrun:=run_append_zeros (P:=cc.P) (w:=w) t t' ty e i z ht ht' hi hz hzs (some ⟨b,kk,none⟩) nv capS k mv os (by rw [← hli];exact g6 w.drew rfl) hlt f1 f2
          rw [hus]
          refine growB_ok (cap:=grownCap w (nv+mv) capS e) h k1 htot (grownCap_ge w (nv+mv) capS e) ?_ ?_ hrun
          ·have hge:=grownCap_ge w (nv+mv) capS e
           simp only [Array.size_append,List.size_toArray,size_zeroCells,hzs,← hli,g4]
           rw [← Nat.add_mul,← Nat.add_mul]
           congr 1;omega
          ·have:=cat_ar (rest:=(Builtin.zeroCells z.cells (grownCap w (nv+mv) capS e - (nv+mv))).toList) g4 z1 g5 b2 k2
           intro j hj f κ hκ
           have:=this j hj f κ hκ
           dsimp only at this ⊢
           rw [← this,← Array.getElem?_toList]
           simp
     ·trivial
     ·rename_i p hd
      exact ask_den (bdOf_ok hcc h) h.facts hle hd
    ·trivial
    ·rename_i p hd
     exact ask_den (bdOf_ok hcc h) h.facts hle0 hd
 ·trivial
def rowFits (cc:Cc) (H:Hp) (lay:List Kd) (s x:SV):Bool:=
 match s with
 | .sl (.n id) (.c (.ofNat 0)) n (.d d)=>match get H.heap id with
   | some (.row none _ _ _ _)=>match dec (bdOf cc H) H.facts (.le (SI.add n (srcB cc H lay x).len) (.d d)) with
     | .yes b=>b
     | .ask _=>false
   | _=>false
 | _=>false
def opAppendC (cc:Cc) (H:Hp) (ts:Array TypeId) (xs:List SV):OpR:=
 match ts.toList,xs with
 | [t,t'],[s,.it _ n]=>match cc.P.underlying t,cc.P.underlying t' with
   | some (.slice e),some (.int _)=>match cc.P.info? e,layT cc.P 6 e with
     | some i,some lay=>match i.zero with
       | some z=>bif Nat.beq z.cells.size i.size && (Nat.blt 0 (llen lay) && (Nat.beq (llen lay) i.size && zcs lay z.cells.toList)) then appZ cc H e lay i.bytes s n else .bad 394
       | none=>.bad 395
     | _,_=>.bad 396
   | _,_=>.bad 397
 | [t,t'],[s,x]=>bif Nat.beq t t' then
   (match cc.P.underlying t with
   | some (.slice e)=>match cc.P.info? e,layT cc.P 6 e with
     | some i,some lay=>match i.zero with
       | some z=>bif Nat.beq z.cells.size i.size && (Nat.blt 0 (llen lay) && (Nat.beq (llen lay) i.size && rowFits cc H lay s x)) then appA cc H e lay i.bytes s x else opAppendB cc H ts xs
       | none=>opAppendB cc H ts xs
     | _,_=>opAppendB cc H ts xs
   | _=>opAppendB cc H ts xs) else opAppendB cc H ts xs
 | _,_=>opAppendB cc H ts xs
theorem opAppendC_ok (hcc:cc.Ok C) (h:HpRel C hc w0 ρ H w) {ts:Array TypeId} {ty:TypeId} {xs:List SV} {us:List Value} (hx:SV.IsL C.σ ρ xs us):(opAppendC cc H ts xs).Ok cc C hc w0 ρ H w (do pure (.value (← Builtin.append_ ts ty us.toArray))):=by
 unfold opAppendC
 split
 ·rename_i t t' s k n hts
  rw [SV.isL_cons] at hx
  obtain ⟨u,r,rfl,h1,h2⟩:=hx
  rw [SV.isL_cons] at h2
  obtain ⟨v,r',rfl,h2,h3⟩:=h2
  rw [SV.isL_nil] at h3
  subst h3
  simp only [SV.Is] at h2
  obtain ⟨nx,e1,rfl⟩:=h2
  have hts':ts=#[t,t']:=by apply Array.ext';exact hts
  subst hts'
  split
  ·rename_i e ki he he'
   split
   ·rename_i i lay hi hl
    split
    ·rename_i z hz
     cases hck:(Nat.beq z.cells.size i.size && (Nat.blt 0 (llen lay) && (Nat.beq (llen lay) i.size && zcs lay z.cells.toList))) with
     | false=>trivial
     | true=>
       simp only [Bool.and_eq_true] at hck
       obtain ⟨q1,q2,q3,q4⟩:=hck
       rw [llen_eq] at q2 q3
       exact appZ_ok hcc h he he' hi hz (Nat.eq_of_beq_eq_true q1) (by simpa [Nat.blt_eq] using q2) (Nat.eq_of_beq_eq_true q3) q4 h1 e1
    ·trivial
   ·trivial
  ·trivial
 ·rename_i t t' s x hns hts
  have hB:=opAppendB_ok (ts:=ts) (ty:=ty) hcc h hx
  cases hb:Nat.beq t t' with
  | false=>exact hB
  | true=>
    have:=Nat.eq_of_beq_eq_true hb
    subst this
    have hts':ts=#[t,t]:=by apply Array.ext';exact hts
    subst hts'
    simp only [cond_true]
    split
    ·rename_i e he
     split
     ·rename_i i lay hi hl
      split
      ·rename_i z hz
       cases hck:(Nat.beq z.cells.size i.size && (Nat.blt 0 (llen lay) && (Nat.beq (llen lay) i.size && rowFits cc H lay s x))) with
       | false=>exact hB
       | true=>
         simp only [Bool.and_eq_true] at hck
         obtain ⟨q1,q2,q3,q4⟩:=hck
         rw [llen_eq] at q2 q3
         rw [SV.isL_cons] at hx
         obtain ⟨u,r,rfl,h1,h2⟩:=hx
         rw [SV.isL_cons] at h2
         obtain ⟨v,r',rfl,h2,h3⟩:=h2
         rw [SV.isL_nil] at h3
         subst h3
         exact appA_ok hcc h he hi hz (Nat.eq_of_beq_eq_true q1) (by simpa [Nat.blt_eq] using q2) (Nat.eq_of_beq_eq_true q3) h1 h2
      ·exact hB
     ·exact hB
    ·exact hB
 ·exact opAppendB_ok hcc h hx
def arrfy (cc:Cc) (H:Hp) (id:Nat) (lay:List Kd):Option Hp:=
 match get H.heap id with
 | some (.row none l t cp sz)=>bif Nat.beq sz (llen lay) && (Nat.blt 0 (llen lay) && Nat.beq (Nat.mul (Nat.div (llen l) sz) sz) (llen l)) then
   (match setsA cc H lay l (.c 0) (.c 0) 0 with | .ok c=>some (H.put id (.arr lay c (.c (.ofNat (Nat.div (llen l) sz))) t cp)) | _=>none) else none
 | _=>none
theorem arrfy_ok (hcc:cc.Ok C) (h:HpRel C hc w0 ρ H w) {id:Nat} {lay:List Kd} {H1:Hp} (ha:arrfy cc H id lay=some H1):HpRel C hc w0 ρ H1 w∧Tn ρ H w ρ H1 w:=by
 unfold arrfy at ha
 split at ha
 ·rename_i l t cp sz hg
  cases hck:(Nat.beq sz (llen lay) && (Nat.blt 0 (llen lay) && Nat.beq (Nat.mul (Nat.div (llen l) sz) sz) (llen l))) with
  | false=>rw [hck] at ha;cases ha
  | true=>
    rw [hck,cond_true] at ha
    simp only [Bool.and_eq_true] at hck
    obtain ⟨q1,q2,q3⟩:=hck
    rw [llen_eq] at q1 q2
    have q1:=Nat.eq_of_beq_eq_true q1
    subst q1
    have hl0:0 < lay.length:=by simpa [Nat.blt_eq] using q2
    have q3:=Nat.eq_of_beq_eq_true q3
    rw [llen_eq] at q3
    split at ha
    ·rename_i c hc'
     cases ha
     obtain ⟨b,o,e1,e2,us,sp,n,e3,e4,e5,rfl⟩:=h.blk id _ hg rfl
     obtain ⟨cv,g1,g2⟩:=setsA_ok hcc h (cv:=0) (jv:=0) e3 rfl rfl hl0 hc'
     have hul:us.length=l.length:=SV.isL_length e3
     have hdv:l.length / lay.length * lay.length=l.length:=q3
     have hbk:(Bk.arr lay c (.c (.ofNat (Nat.div (llen l) lay.length))) t cp).Is C.σ ρ (.cells (preL C.σ none++us++sp).toArray t (0,0)):=by
      refine ⟨cv,l.length / lay.length,n,_,g1,by rw [llen_eq];rfl,e4,?_,?_,?_,rfl⟩
      ·have:l.length / lay.length * lay.length≤n * lay.length:=by simp [preL] at e5;omega
       exact Nat.le_of_mul_le_mul_right this (by omega)
      ·simp [preL] at e5 ⊢;omega
      ·intro j hj f κ hκ
       have hf:f < lay.length:=(List.getElem?_eq_some_iff.1 hκ).1
       have:=g2 j f κ hκ
       have hb:(j+1) * lay.length≤l.length / lay.length * lay.length:=Nat.mul_le_mul_right _ hj
       rw [Nat.add_mul,hdv] at hb
       have hlt:j * lay.length+f < us.length:=by omega
       rw [if_pos (by omega)] at this
       rw [this]
       simp only [preL,List.nil_append,Nat.zero_add,Nat.zero_mul,Nat.sub_zero]
       rw [List.getElem?_toArray,List.getElem?_append_left hlt,List.getElem?_eq_getElem hlt,List.getD_eq_getElem?_getD,List.getElem?_eq_getElem hlt]
       rfl
     exact ⟨h.put hg rfl (b:=b) e1 rfl hbk (fun _ _=>rfl) e2 rfl rfl rfl rfl,Tn.of_put e1 (fun _ _=>rfl) rfl⟩
    ·cases ha
 ·cases ha
theorem OpR.ok_pre {H1:Hp} {s:Sem Next} (ht:Tn ρ H w ρ H1 w) {r:OpR} (hr:r.Ok cc C hc w0 ρ H1 w s):r.Ok cc C hc w0 ρ H w s:=by
 cases r with
 | val z H'=>
   obtain ⟨ρ',n,u,w',h1,h2,h3,h4,h5⟩:=hr
   exact ⟨ρ',n,u,w',ht.trans h1,h2,h3,h4,h5⟩
 | enter f args=>exact hr
 | round id args=>exact hr
 | ask p=>exact hr
 | bad n=>trivial
def opCopyT (cc:Cc) (H:Hp) (ts:Array TypeId) (xs:List SV):OpR:=
 match opCopy cc H ts xs with
 | .bad n=>match xs with
   | [.sl rd od dl dc,.sl r o m c]=>match dec (bdOf cc H) H.facts (.le dl m) with
     | .yes true=>opCopy cc H ts [.sl rd od dl dc,.sl r o dl c]
     | _=>.bad n
   | _=>.bad n
 | r=>r
theorem run_copy_cut {P:Program} {w:World} {ts:Array TypeId} {ty:TypeId} (ad:Option Addr) (n cap:Nat) (a:Addr) (m c:Nat) (h:n≤m) :
  (Builtin.copy_ ts ty #[.slice ad n cap,.slice (some a) m c]).run P w=(Builtin.copy_ ts ty #[.slice ad n cap,.slice (some a) n c]).run P w:=by
 have e1:Nat.min m n=n:=Nat.min_eq_right h
 have e2:Nat.min n n=n:=Nat.min_eq_right (Nat.le_refl n)
 cases h0:ts[0]? with
 | none=>simp [Builtin.copy_,h0]
 | some t=>
   cases hu:P.underlying t with
   | none=>simp [Builtin.copy_,Builtin.lenOf,Builtin.firstCells,h0,underlying,hu,e1,e2]
   | some d=>cases d<;>simp [Builtin.copy_,Builtin.lenOf,Builtin.firstCells,h0,underlying,hu,e1,e2]
theorem opCopyT_ok (hcc:cc.Ok C) (h:HpRel C hc w0 ρ H w) {ts:Array TypeId} {ty:TypeId} {xs:List SV} {us:List Value} (hx:SV.IsL C.σ ρ xs us):(opCopyT cc H ts xs).Ok cc C hc w0 ρ H w (do pure (.value (← Builtin.copy_ ts ty us.toArray))):=by
 have h0:=opCopy_ok (ts:=ts) (ty:=ty) hcc h hx
 unfold opCopyT
 split
 ·split
  ·rename_i rd od dl dc r o m c _
   split
   ·rename_i hd
    rw [SV.isL_cons] at hx
    obtain ⟨u,r',rfl,h1,h2⟩:=hx
    rw [SV.isL_cons] at h2
    obtain ⟨v,r'',rfl,h2,h3⟩:=h2
    rw [SV.isL_nil] at h3
    subst h3
    have h1':=h1
    simp only [SV.Is] at h1 h2
    obtain ⟨b,k,len,cap,e1,e2,e3,e4,rfl⟩:=h1
    obtain ⟨b2,k2,len2,cap2,g1,g2,g3,g4,rfl⟩:=h2
    have hle:(SB.le dl m).den C.σ ρ=some (decide (Int.ofNat len≤Int.ofNat len2)):=by simp [SB.den,e3,g3]
    have hlen:len≤len2:=Int.ofNat_le.1 (by simpa using (dec_ok (bdOf_ok hcc h) h.facts hle hd).symm)
    refine OpR.ok_congr (opCopy_ok (ts:=ts) (ty:=ty) hcc h (us:=[.slice (some ⟨b,k,none⟩) len cap,.slice (some ⟨b2,k2,none⟩) len cap2]) ?_) ?_
    ·rw [SV.isL_cons_cons,SV.isL_cons_cons]
     exact ⟨h1',by simp only [SV.Is];exact ⟨b2,k2,len,cap2,g1,g2,e3,g4,rfl⟩,SV.isL_nil.2 rfl⟩
    ·simp only [Sem.run_bind,run_copy_cut _ _ _ _ _ _ hlen]
   ·trivial
  ·trivial
 ·exact h0
def opCopyB (cc:Cc) (H:Hp) (ts:Array TypeId) (xs:List SV):OpR:=
 match opCopyT cc H ts xs with
 | .bad n=>match lnth ts.toList 0,xs with
   | some t,[.sl (.n id) _ _ _,_]=>match cc.P.underlying t with
     | some (.slice e)=>match layT cc.P 6 e with
       | some lay=>match arrfy cc H id lay with
         | some H1=>opCopyT cc H1 ts xs
         | none=>.bad n
       | none=>.bad n
     | _=>.bad n
   | _,_=>.bad n
 | r=>r
theorem opCopyB_ok (hcc:cc.Ok C) (h:HpRel C hc w0 ρ H w) {ts:Array TypeId} {ty:TypeId} {xs:List SV} {us:List Value} (hx:SV.IsL C.σ ρ xs us):(opCopyB cc H ts xs).Ok cc C hc w0 ρ H w (do pure (.value (← Builtin.copy_ ts ty us.toArray))):=by
 have h0:=opCopyT_ok (ts:=ts) (ty:=ty) hcc h hx
 unfold opCopyB
 split
 ·split
  ·split
   ·split
    ·split
     ·rename_i H1 ha
      obtain ⟨h1,h2⟩:=arrfy_ok hcc h ha
      exact OpR.ok_pre h2 (opCopyT_ok hcc h1 hx)
     ·trivial
    ·trivial
   ·trivial
  ·trivial
 ·exact h0
def opClearB (cc:Cc) (H:Hp) (ts:Array TypeId) (xs:List SV):OpR:=
 match opClear cc H ts xs with
 | .bad n=>match lnth ts.toList 0,xs with
   | some t,[.sl (.n id) _ _ _]=>match cc.P.underlying t with
     | some (.slice e)=>match layT cc.P 6 e with
       | some lay=>match arrfy cc H id lay with
         | some H1=>opClear cc H1 ts xs
         | none=>.bad n
       | none=>.bad n
     | _=>.bad n
   | _,_=>.bad n
 | r=>r
theorem opClearB_ok (hcc:cc.Ok C) (h:HpRel C hc w0 ρ H w) {ts:Array TypeId} {ty:TypeId} {xs:List SV} {us:List Value} (hx:SV.IsL C.σ ρ xs us):(opClearB cc H ts xs).Ok cc C hc w0 ρ H w (do pure (.value (← Builtin.clear_ ts ty us.toArray))):=by
 have h0:=opClear_ok (ts:=ts) (ty:=ty) hcc h hx
 unfold opClearB
 split
 ·split
  ·split
   ·split
    ·split
     ·rename_i H1 ha
      obtain ⟨h1,h2⟩:=arrfy_ok hcc h ha
      exact OpR.ok_pre h2 (opClear_ok hcc h1 hx)
     ·trivial
    ·trivial
   ·trivial
  ·trivial
 ·exact h0
def ownCs (bk:Bk):Bool:=match bk with | .arr _ _ _ _ _=>true | .cells _ _=>true | .row _ _ _ _ _=>true | _=>false
theorem ownCs_ok {bk:Bk} {o:Obj} (h:bk.Is C.σ ρ o) (hb:ownCs bk=true):∃ A t,o=.cells A t (0,0):=by
 cases bk<;>first | cases hb | skip
 ·obtain ⟨_,_,_,_,_,_,_,_,_,_,rfl⟩:=h;exact ⟨_,_,rfl⟩
 ·obtain ⟨_,_,rfl⟩:=h;exact ⟨_,_,rfl⟩
 ·obtain ⟨_,_,_,_,_,_,rfl⟩:=h;exact ⟨_,_,rfl⟩
def opOv (cc:Cc) (H:Hp) (fn:Func) (args:List SV):OpR:=
 match args with
 | [.sl (.n i) _ _ _,.sl (.n j) _ _ _]=>bif Nat.beq i j then .bad 380 else
   (match get H.heap i,get H.heap j with
   | some x,some y=>bif ownCs x && ownCs y then
     (match fn.params[0]? with
     | some t=>match cc.P.underlying t with
       | some (.slice e)=>match cc.P.info? e with
         | some _=>.val (.bo (.c false)) H
         | none=>.bad 381
       | _=>.bad 382
     | none=>.bad 383) else .bad 384
   | _,_=>.bad 385)
 | _=>.bad 386
theorem run_overlaps_no {P:Program} {w:World} {ps rs:Array TypeId} {t e:TypeId} {i:TypeInfo} (hp:ps[0]? = some t) (hu:P.underlying t=some (.slice e)) (hi:P.info? e=some i) {a b:Nat} (hab:a≠b) {A B:Array Value} {ta tb:TypeId}
  (ha:w.heap[a]? = some (.cells A ta (0,0))) (hb:w.heap[b]? = some (.cells B tb (0,0))) (x y la ca lb cb:Nat) :
  (Extern.SlicesOverlaps.overlaps ps rs #[.slice (some ⟨a,x,none⟩) la ca,.slice (some ⟨b,y,none⟩) lb cb]).run P w=.ok (.bool false) w:=by
 have e0:Extern.SlicesOverlaps.overlaps ps rs #[.slice (some ⟨a,x,none⟩) la ca,.slice (some ⟨b,y,none⟩) lb cb]=(do
  let some t:=ps[0]? | stuck "slices.overlaps: no parameter types"
  let .slice elem ← underlying t | stuck "slices.overlaps: slice type expected"
  let size ← sizeOf elem
  if la=0∨lb=0∨size=0 then pure (.bool false)
  else if (⟨a,x,none⟩:Addr).block != (⟨b,y,none⟩:Addr).block && (← frozen ⟨a,x,none⟩) && (← frozen ⟨b,y,none⟩) then unsupported .addressObserved
  else do
   if (⟨a,x,none⟩:Addr).block != (⟨b,y,none⟩:Addr).block then do
    noView ⟨a,x,none⟩;noView ⟨b,y,none⟩
    if ← mayBeOne ⟨a,x,none⟩ ⟨b,y,none⟩ then return .bool ((← choose (.extern "sameAddr.stringBytes" 2)) == 1)
   pure (.bool ((⟨a,x,none⟩:Addr).block == (⟨b,y,none⟩:Addr).block && (⟨a,x,none⟩:Addr).off < (⟨b,y,none⟩:Addr).off+lb * size && (⟨b,y,none⟩:Addr).off < (⟨a,x,none⟩:Addr).off+la * size))):=rfl
 rw [e0]
 by_cases h0:la=0∨lb=0∨i.size=0
 ·simp [hp,run_underlying hu,sizeOf,typeInfo,hi,h0]
 ·simp [hp,run_underlying hu,sizeOf,typeInfo,hi,h0,hab,World.frozen?,ha,hb,noView,viewAt,World.shape?,mayBeOne,stringish]
theorem opOv_ok (hcc:cc.Ok C) (h:HpRel C hc w0 ρ H w) {g:FuncId} {fn:Func} (hfn:cc.P.funcs[g]? = some fn) (hov:isOv fn=true) {args:List SV} {us:List Value} (ha:SV.IsL C.σ ρ args us) :
  (opOv cc H fn args).Ok cc C hc w0 ρ H w (callFunc g us.toArray):=by
 obtain ⟨hb,hn,hf⟩:=ovOk_ok hov (hcc.ov g fn hfn)
 have hnm:=hcc.names g fn hfn
 unfold opOv
 split
 ·rename_i i o l c j o' l' c'
  cases hij:Nat.beq i j with
  | true=>trivial
  | false=>
    have hne:i≠j:=fun e=>by subst e;simp at hij
    simp only [cond_false]
    split
    ·rename_i bx bz gx gz
     cases hck:(ownCs bx && ownCs bz) with
     | false=>trivial
     | true=>
       rw [Bool.and_eq_true] at hck
       simp only [cond_true]
       split
       ·rename_i t ht
        split
        ·rename_i e hu
         split
         ·rename_i ti hi
          rw [SV.isL_cons] at ha
          obtain ⟨u,r,rfl,h1,h2⟩:=ha
          rw [SV.isL_cons] at h2
          obtain ⟨v,r',rfl,h2,h3⟩:=h2
          rw [SV.isL_nil] at h3
          subst h3
          simp only [SV.Is,SR.den] at h1 h2
          obtain ⟨a,x,la,ca,a1,_,_,_,rfl⟩:=h1
          obtain ⟨b,y,lb,cb,b1,_,_,_,rfl⟩:=h2
          have lx:bx.live=true:=by cases bx<;>first | rfl | cases hck.1
          have lz:bz.live=true:=by cases bz<;>first | rfl | cases hck.2
          obtain ⟨a',oa,a2,a3,a4⟩:=h.blk i bx gx lx
          obtain ⟨b',ob,b2,b3,b4⟩:=h.blk j bz gz lz
          rw [a1] at a2;cases a2
          rw [b1] at b2;cases b2
          obtain ⟨A,ta,rfl⟩:=ownCs_ok a4 hck.1
          obtain ⟨B,tb,rfl⟩:=ownCs_ok b4 hck.2
          have hab:a≠b:=fun e=>by subst e;exact hne (h.inj i j bx bz a gx lx gz lz a1 b1)
          have hr:=run_overlaps_no (rs:=fn.resultTypes) ht hu hi hab a3 b3 x y la ca lb cb
          refine ⟨ρ,.value (.bool false),.bool false,w,Tn.refl ρ H w,?_,.inl rfl,by simp only [SV.Is];exact ⟨false,rfl,rfl⟩,h⟩
          have hnm':¬ fn.name = "runtime.NumGoroutine" := by simpa using hnm
          simp [callFunc,hfn,hnm',hb,hn,hf,hr]
         ·trivial
        ·trivial
       ·trivial
    ·trivial
 ·trivial
end
end
end Go.Sx
namespace Go.Sx
set_option linter.unusedSectionVars false
noncomputable section
set_option linter.unusedVariables false
set_option linter.unusedSimpArgs false
open Go.RowKit
section
variable {cc:Cc} {C:Ct} {hc:Nat→Option Obj} {w0:World} {ρ ρ':Dyn} {H:Hp} {w:World}
def zeroCs (cc:Cc) (t:TypeId):Option (List SV):=
 match cc.P.info? t with
 | some i=>match i.zero with
   | some z=>(ofVal z).cells
   | none=>none
 | none=>none
theorem zeroCs_ok {t:TypeId} {l:List SV} (h:zeroCs cc t=some l) (w:World):∃ z,(zeroValue t).run cc.P w=.ok z w∧SV.IsL C.σ ρ l z.cells.toList:=by
 unfold zeroCs at h
 split at h
 ·rename_i i hi
  split at h
  ·rename_i z hz
   exact ⟨z,by simp [zeroValue,typeInfo,hi,hz],SV.cells_is (ofVal_is z) h⟩
  ·cases h
 ·cases h
theorem Tn.learn {H':Hp} {w':World} (h:Tn ρ H w ρ' H' w') (p:SB) (b:Bool):Tn ρ H w ρ' (H'.learn p b) w':=
 ⟨h.ag,⟨h.ext.heap,h.ext.nb,h.ext.nd,h.ext.nv,by obtain ⟨l,e⟩:=h.ext.facts;exact ⟨(p,b)::l,by simp [Hp.learn,e]⟩,h.ext.phis⟩,h.size,h.new,h.same⟩
def mapK (cc:Cc) (t:TypeId):Option (IntKind×IntKind):=
 match cc.P.underlying t with
 | some (.map kt et)=>match cc.P.underlying kt,cc.P.info? et with
   | some (.int kk),some i=>match i.zero with
     | some (.int vk z)=>bif ieq z 0 then some (kk,vk) else none
     | _=>none
   | _,_=>none
 | _=>none
theorem mapK_ok {t:TypeId} {kk vk:IntKind} (h:mapK cc t=some (kk,vk)):∃ kt et,cc.P.underlying t=some (.map kt et)∧cc.P.underlying kt=some (.int kk)∧∀ w,(zeroValue et).run cc.P w=.ok (.int vk 0) w:=by
 unfold mapK at h
 split at h
 ·rename_i kt et hu
  split at h
  ·rename_i kk' i hk hi
   split at h
   ·rename_i vk' z hz
    cases hb:ieq z 0 with
    | false=>rw [hb] at h;cases h
    | true=>
      rw [hb] at h;cases h
      have:=ieq_iff.1 hb;subst this
      exact ⟨kt,et,hu,hk,fun w=>by simp [zeroValue,typeInfo,hi,hz]⟩
   ·cases h
  ·cases h
 ·cases h
theorem mpIs_nil {σ:Sta} (al:ArrLaw σ) {kk vk:IntKind}:MpIs σ kk vk 0 [] 0:=
 ⟨by simp,MapKept.stamped_empty 0,fun k=>by rw [al.hz];simp,fun k _=>al.mz vk k,by rw [al.lz];rfl,by rw [al.tz];rfl,fun k hk=>by rw [al.hz] at hk;cases hk⟩
def opMakeMap (cc:Cc) (H:Hp) (t:TypeId) (r:Option SV):OpR:=
 match mapK cc t,r with
 | some (kk,vk),none=>.val (.mp (.n H.nb)) (H.alloc (.mapc kk vk (.c 0)))
 | some (kk,vk),some (.it _ _)=>.val (.mp (.n H.nb)) (H.alloc (.mapc kk vk (.c 0)))
 | _,_=>.bad 97
theorem opMakeMap_ok (hcc:cc.Ok C) (h:HpRel C hc w0 ρ H w) {t:TypeId} {r:Option SV} {u:Option Value} (hr:OIs C.σ ρ r u):(opMakeMap cc H t r).Ok cc C hc w0 ρ H w (do pure (.value (← Instr.makeMap t u))):=by
 have done:∀ (kk vk:IntKind) (s:Sem Value),s.run cc.P w=.ok (.map (some w.heap.size)) (w.alloc (.map #[] 0))→(OpR.val (.mp (.n H.nb)) (H.alloc (.mapc kk vk (.c 0)))).Ok cc C hc w0 ρ H w (do pure (.value (← s))):=fun kk vk s hs=>
  ⟨ρ.setBl H.nb w.heap.size,.value (.map (some w.heap.size)),.map (some w.heap.size),w.alloc (.map #[] 0),Tn.of_alloc ρ H w _ _,by simp [hs],.inl rfl,by simp only [SV.Is,SR.den];exact ⟨_,Dyn.setBl_same _ _ _,rfl⟩,
   h.alloc' ⟨0,[],0,rfl,mpIs_nil hcc.al,rfl⟩⟩
 unfold opMakeMap
 split
 ·cases u with
  | none=>exact done _ _ _ rfl
  | some v=>exact hr.elim
 ·rename_i kk vk k e hm
  obtain ⟨kt,et,hu,_,_⟩:=mapK_ok hm
  cases u with
  | none=>exact hr.elim
  | some v=>
    simp only [OIs,SV.Is] at hr
    obtain ⟨n,e1,rfl⟩:=hr
    exact done _ _ _ (by simp [Instr.makeMap,underlying,hu,asInt,asIntOf])
 ·trivial
def gmD (vk:IntKind) (c x:SI):SI:=.ap vk.ctorIdx c x (.c 0) (.c 1) (.c 0) (.c 0)
def hmD (c x:SI):SB:=.ap 1 c x (.c 0) (.c 0) (.c 0) (.c 0)
def lmD (c:SI):SI:=.ap 8 c (.c 0) (.c 0) (.c 0) (.c 2) (.c 0)
def smD (c x y:SI):SI:=.ap 8 c x (.c 0) y (.c 1) (.c 0)
def dmD (c x:SI):SI:=.ap 8 c x (.c 0) (.c 0) (.c 3) (.c 0)
def kmD (k:IntKind) (c i:SI):SI:=.ap k.ctorIdx c i (.c 0) (.c 2) (.c 0) (.c 0)
def amD (c s:SI):SB:=.ap 1 c s (.c 1) (.c 0) (.c 0) (.c 0)
inductive Mk where
 | set (c x y:SI)
 | del (c x:SI)
 | nil
 | no
def mkS (f:Nat) (a0 a1 a2 a3 a4 a5:SI):Mk:=
 bif Nat.beq f 8 && (a2.beq (.c 0) && a5.beq (.c 0)) then (bif a4.beq (.c 1) then .set a0 a1 a3 else (bif a4.beq (.c 3) && a3.beq (.c 0) then .del a0 a1 else .no)) else .no
theorem mkS_ok {f:Nat} {a0 a1 a2 a3 a4 a5:SI} {cv:Int} (hc:(SI.ap f a0 a1 a2 a3 a4 a5).den C.σ ρ=some cv) :
  (∀ c x y,mkS f a0 a1 a2 a3 a4 a5=.set c x y→c=a0∧x=a1∧y=a3∧∃ c0 k0 y0,a0.den C.σ ρ=some c0∧a1.den C.σ ρ=some k0∧a3.den C.σ ρ=some y0∧cv=sm C.σ c0 k0 y0)∧
  (∀ c x,mkS f a0 a1 a2 a3 a4 a5=.del c x→c=a0∧x=a1∧∃ c0 k0,a0.den C.σ ρ=some c0∧a1.den C.σ ρ=some k0∧cv=dm C.σ c0 k0)∧mkS f a0 a1 a2 a3 a4 a5≠.nil:=by
 unfold mkS
 cases h1:Nat.beq f 8 && (a2.beq (.c 0) && a5.beq (.c 0)) with
 | false=>exact ⟨(fun c x y h=>by cases h),(fun c x h=>by cases h),by simp⟩
 | true=>
   simp only [Bool.and_eq_true] at h1
   obtain ⟨e1,e2,e3⟩:=h1
   have:=Nat.eq_of_beq_eq_true e1;subst this
   have:=SI.beq_eq e2;subst this
   have:=SI.beq_eq e3;subst this
   simp only [SI.den,Option.bind_eq_some_iff,Option.some.injEq] at hc
   obtain ⟨c0,q0,k0,q1,z0,rfl,y0,q3,o0,q4,z1,rfl,rfl⟩:=hc
   simp only [cond_true]
   cases h2:a4.beq (.c 1) with
   | true=>
     have:=SI.beq_eq h2;subst this
     cases q4
     refine ⟨(fun c x y h=>?_),(fun c x h=>by cases h),by simp⟩
     cases h
     exact ⟨rfl,rfl,rfl,c0,k0,y0,q0,q1,q3,rfl⟩
   | false=>
     simp only [cond_false]
     cases h3:a4.beq (.c 3) && a3.beq (.c 0) with
     | false=>exact ⟨(fun c x y h=>by cases h),(fun c x h=>by cases h),by simp⟩
     | true=>
       simp only [Bool.and_eq_true] at h3
       have:=SI.beq_eq h3.1;subst this
       have:=SI.beq_eq h3.2;subst this
       cases q3;cases q4
       refine ⟨(fun c x y h=>by cases h),(fun c x h=>?_),by simp⟩
       cases h
       exact ⟨rfl,rfl,c0,k0,q0,q1,rfl⟩
def gmS (cc:Cc) (H:Hp) (vk:IntKind) (x:SI) (c:SI):SI:=
 SI.rec (motive:=fun _=>SI) (fun n=>bif ieq n 0 then .c 0 else gmD vk (.c n) x) (fun i=>gmD vk (.v i) x) (fun i=>gmD vk (.d i) x) (fun f a b _ _=>gmD vk (.op f a b) x) (fun k a _=>gmD vk (.wk k a) x)
  (fun f a0 a1 a2 a3 a4 a5 ih0 _ _ _ _ _=>match mkS f a0 a1 a2 a3 a4 a5 with
   | .set _ _ _=>bif a1.beq x then SI.wr (bdOf cc H) vk a3 else (match dec (bdOf cc H) H.facts (.eq x a1) with
     | .yes true=>SI.wr (bdOf cc H) vk a3
     | .yes false=>ih0
     | _=>gmD vk (.ap f a0 a1 a2 a3 a4 a5) x)
   | .del _ _=>bif a1.beq x then .c 0 else (match dec (bdOf cc H) H.facts (.eq x a1) with
     | .yes true=>.c 0
     | .yes false=>ih0
     | _=>gmD vk (.ap f a0 a1 a2 a3 a4 a5) x)
   | _=>gmD vk (.ap f a0 a1 a2 a3 a4 a5) x) c
def hmS (cc:Cc) (H:Hp) (x:SI) (c:SI):SB:=
 SI.rec (motive:=fun _=>SB) (fun n=>bif ieq n 0 then .c false else hmD (.c n) x) (fun i=>hmD (.v i) x) (fun i=>hmD (.d i) x) (fun f a b _ _=>hmD (.op f a b) x) (fun k a _=>hmD (.wk k a) x)
  (fun f a0 a1 a2 a3 a4 a5 ih0 _ _ _ _ _=>match mkS f a0 a1 a2 a3 a4 a5 with
   | .set _ _ _=>bif a1.beq x then .c true else (match dec (bdOf cc H) H.facts (.eq x a1) with
     | .yes true=>.c true
     | .yes false=>ih0
     | _=>hmD (.ap f a0 a1 a2 a3 a4 a5) x)
   | .del _ _=>bif a1.beq x then .c false else (match dec (bdOf cc H) H.facts (.eq x a1) with
     | .yes true=>.c false
     | .yes false=>ih0
     | _=>hmD (.ap f a0 a1 a2 a3 a4 a5) x)
   | _=>hmD (.ap f a0 a1 a2 a3 a4 a5) x) c
def lmS (cc:Cc) (H:Hp) (c:SI):SI:=
 SI.rec (motive:=fun _=>SI) (fun n=>bif ieq n 0 then .c 0 else lmD (.c n)) (fun i=>lmD (.v i)) (fun i=>lmD (.d i)) (fun f a b _ _=>lmD (.op f a b)) (fun k a _=>lmD (.wk k a))
  (fun f a0 a1 a2 a3 a4 a5 ih0 _ _ _ _ _=>match mkS f a0 a1 a2 a3 a4 a5 with
   | .set _ _ _=>(match nrm cc H (hmS cc H a1 a0) with | .c true=>ih0 | .c false=>SI.addc ih0 1 | _=>lmD (.ap f a0 a1 a2 a3 a4 a5))
   | .del _ _=>(match nrm cc H (hmS cc H a1 a0) with | .c true=>SI.addc ih0 (-1) | .c false=>ih0 | _=>lmD (.ap f a0 a1 a2 a3 a4 a5))
   | _=>lmD (.ap f a0 a1 a2 a3 a4 a5)) c
theorem gmD_den {vk:IntKind} {c x:SI} {cv xv:Int} (hc:c.den C.σ ρ=some cv) (hx:x.den C.σ ρ=some xv):(gmD vk c x).den C.σ ρ=some (gm C.σ vk cv xv):=by
 simp [gmD,SI.den,hc,hx,gm]
theorem hmD_den {c x:SI} {cv xv:Int} (hc:c.den C.σ ρ=some cv) (hx:x.den C.σ ρ=some xv):(hmD c x).den C.σ ρ=some (hm C.σ cv xv):=by
 simp [hmD,SB.den,SI.den,hc,hx,hm]
theorem lmD_den {c:SI} {cv:Int} (hc:c.den C.σ ρ=some cv):(lmD c).den C.σ ρ=some (lm C.σ cv):=by
 simp [lmD,SI.den,hc,lm]
theorem smD_den {c x y:SI} {cv xv yv:Int} (hc:c.den C.σ ρ=some cv) (hx:x.den C.σ ρ=some xv) (hy:y.den C.σ ρ=some yv):(smD c x y).den C.σ ρ=some (sm C.σ cv xv yv):=by
 simp [smD,SI.den,hc,hx,hy,sm]
theorem dmD_den {c x:SI} {cv xv:Int} (hc:c.den C.σ ρ=some cv) (hx:x.den C.σ ρ=some xv):(dmD c x).den C.σ ρ=some (dm C.σ cv xv):=by
 simp [dmD,SI.den,hc,hx,dm]
theorem kmD_den {k:IntKind} {c x:SI} {cv xv:Int} (hc:c.den C.σ ρ=some cv) (hx:x.den C.σ ρ=some xv):(kmD k c x).den C.σ ρ=some (km C.σ k cv xv):=by
 simp [kmD,SI.den,hc,hx,km]
theorem amD_den {c x:SI} {cv xv:Int} (hc:c.den C.σ ρ=some cv) (hx:x.den C.σ ρ=some xv):(amD c x).den C.σ ρ=some (am C.σ cv xv):=by
 simp [amD,SB.den,SI.den,hc,hx,am]
section
variable (hcc:cc.Ok C) (h:HpRel C hc w0 ρ H w)
include hcc h
theorem gmS_den {vk:IntKind} {x:SI} {xv:Int} (hx:x.den C.σ ρ=some xv):∀ {c:SI} {cv:Int},c.den C.σ ρ=some cv→(gmS cc H vk x c).den C.σ ρ=some (gm C.σ vk cv xv):=by
 intro c
 induction c with
 | c n=>
   intro cv hc
   show (bif ieq n 0 then SI.c 0 else gmD vk (.c n) x).den C.σ ρ=_
   cases hb:ieq n 0 with
   | true=>
     have:=ieq_iff.1 hb;subst this
     cases hc
     rw [hcc.al.mz];rfl
   | false=>exact gmD_den hc hx
 | v i=>intro cv hc;exact gmD_den hc hx
 | d i=>intro cv hc;exact gmD_den hc hx
 | op f a b _ _=>intro cv hc;exact gmD_den hc hx
 | wk k a _=>intro cv hc;exact gmD_den hc hx
 | ap f a0 a1 a2 a3 a4 a5 ih0 _ _ _ _ _=>
   intro cv hc
   show (match mkS f a0 a1 a2 a3 a4 a5 with
    | .set _ _ _=>bif a1.beq x then SI.wr (bdOf cc H) vk a3 else (match dec (bdOf cc H) H.facts (.eq x a1) with
      | .yes true=>SI.wr (bdOf cc H) vk a3
      | .yes false=>gmS cc H vk x a0
      | _=>gmD vk (.ap f a0 a1 a2 a3 a4 a5) x)
    | .del _ _=>bif a1.beq x then .c 0 else (match dec (bdOf cc H) H.facts (.eq x a1) with
      | .yes true=>.c 0
      | .yes false=>gmS cc H vk x a0
      | _=>gmD vk (.ap f a0 a1 a2 a3 a4 a5) x)
    | _=>gmD vk (.ap f a0 a1 a2 a3 a4 a5) x).den C.σ ρ=_
   obtain ⟨m1,m2,m3⟩:=mkS_ok hc
   have hD:=gmD_den (vk:=vk) hc hx
   split
   ·rename_i c' x' y' e
    obtain ⟨rfl,rfl,rfl,c0,k0,y0,e0,e1,e3,rfl⟩:=m1 _ _ _ e
    have hset:=hcc.al.ms vk c0 k0 y0 xv
    have hwr:(SI.wr (bdOf cc H) vk y').den C.σ ρ=some (vk.wrap y0):=SI.wr_den (bdOf_ok hcc h) e3
    have heq:(SB.eq x x').den C.σ ρ=some (decide (xv=k0)):=by simp [SB.den,hx,e1]
    cases hb:x'.beq x with
    | true=>
      have:=SI.beq_eq hb;subst this
      rw [e1] at hx;cases hx
      rw [hset,if_pos rfl];exact hwr
    | false=>
      simp only [cond_false]
      split
      ·rename_i hd
       have hk:xv=k0:=by simpa using (dec_ok (bdOf_ok hcc h) h.facts heq hd).symm
       rw [hset,if_pos hk];exact hwr
      ·rename_i hd
       have hk:¬ xv=k0:=by simpa using (dec_ok (bdOf_ok hcc h) h.facts heq hd).symm
       rw [hset,if_neg hk];exact ih0 e0
      ·exact hD
   ·rename_i c' x' e
    obtain ⟨rfl,rfl,c0,k0,e0,e1,rfl⟩:=m2 _ _ e
    have hset:=hcc.al.md vk c0 k0 xv
    have heq:(SB.eq x x').den C.σ ρ=some (decide (xv=k0)):=by simp [SB.den,hx,e1]
    cases hb:x'.beq x with
    | true=>
      have:=SI.beq_eq hb;subst this
      rw [e1] at hx;cases hx
      rw [hset,if_pos rfl];rfl
    | false=>
      simp only [cond_false]
      split
      ·rename_i hd
       have hk:xv=k0:=by simpa using (dec_ok (bdOf_ok hcc h) h.facts heq hd).symm
       rw [hset,if_pos hk];rfl
      ·rename_i hd
       have hk:¬ xv=k0:=by simpa using (dec_ok (bdOf_ok hcc h) h.facts heq hd).symm
       rw [hset,if_neg hk];exact ih0 e0
      ·exact hD
   ·exact hD
theorem hmS_den {x:SI} {xv:Int} (hx:x.den C.σ ρ=some xv):∀ {c:SI} {cv:Int},c.den C.σ ρ=some cv→(hmS cc H x c).den C.σ ρ=some (hm C.σ cv xv):=by
 intro c
 induction c with
 | c n=>
   intro cv hc
   show (bif ieq n 0 then SB.c false else hmD (.c n) x).den C.σ ρ=_
   cases hb:ieq n 0 with
   | true=>
     have:=ieq_iff.1 hb;subst this
     cases hc
     rw [hcc.al.hz];rfl
   | false=>exact hmD_den hc hx
 | v i=>intro cv hc;exact hmD_den hc hx
 | d i=>intro cv hc;exact hmD_den hc hx
 | op f a b _ _=>intro cv hc;exact hmD_den hc hx
 | wk k a _=>intro cv hc;exact hmD_den hc hx
 | ap f a0 a1 a2 a3 a4 a5 ih0 _ _ _ _ _=>
   intro cv hc
   show (match mkS f a0 a1 a2 a3 a4 a5 with
    | .set _ _ _=>bif a1.beq x then SB.c true else (match dec (bdOf cc H) H.facts (.eq x a1) with
      | .yes true=>.c true
      | .yes false=>hmS cc H x a0
      | _=>hmD (.ap f a0 a1 a2 a3 a4 a5) x)
    | .del _ _=>bif a1.beq x then .c false else (match dec (bdOf cc H) H.facts (.eq x a1) with
      | .yes true=>.c false
      | .yes false=>hmS cc H x a0
      | _=>hmD (.ap f a0 a1 a2 a3 a4 a5) x)
    | _=>hmD (.ap f a0 a1 a2 a3 a4 a5) x).den C.σ ρ=_
   obtain ⟨m1,m2,m3⟩:=mkS_ok hc
   have hD:=hmD_den hc hx
   split
   ·rename_i c' x' y' e
    obtain ⟨rfl,rfl,rfl,c0,k0,y0,e0,e1,e3,rfl⟩:=m1 _ _ _ e
    have hset:=hcc.al.hs c0 k0 y0 xv
    have heq:(SB.eq x x').den C.σ ρ=some (decide (xv=k0)):=by simp [SB.den,hx,e1]
    cases hb:x'.beq x with
    | true=>
      have:=SI.beq_eq hb;subst this
      rw [e1] at hx;cases hx
      rw [hset,if_pos rfl];rfl
    | false=>
      simp only [cond_false]
      split
      ·rename_i hd
       have hk:xv=k0:=by simpa using (dec_ok (bdOf_ok hcc h) h.facts heq hd).symm
       rw [hset,if_pos hk];rfl
      ·rename_i hd
       have hk:¬ xv=k0:=by simpa using (dec_ok (bdOf_ok hcc h) h.facts heq hd).symm
       rw [hset,if_neg hk];exact ih0 e0
      ·exact hD
   ·rename_i c' x' e
    obtain ⟨rfl,rfl,c0,k0,e0,e1,rfl⟩:=m2 _ _ e
    have hset:=hcc.al.hd c0 k0 xv
    have heq:(SB.eq x x').den C.σ ρ=some (decide (xv=k0)):=by simp [SB.den,hx,e1]
    cases hb:x'.beq x with
    | true=>
      have:=SI.beq_eq hb;subst this
      rw [e1] at hx;cases hx
      rw [hset,if_pos rfl];rfl
    | false=>
      simp only [cond_false]
      split
      ·rename_i hd
       have hk:xv=k0:=by simpa using (dec_ok (bdOf_ok hcc h) h.facts heq hd).symm
       rw [hset,if_pos hk];rfl
      ·rename_i hd
       have hk:¬ xv=k0:=by simpa using (dec_ok (bdOf_ok hcc h) h.facts heq hd).symm
       rw [hset,if_neg hk];exact ih0 e0
      ·exact hD
   ·exact hD
theorem lmS_den:∀ {c:SI} {cv:Int},c.den C.σ ρ=some cv→(lmS cc H c).den C.σ ρ=some (lm C.σ cv):=by
 intro c
 induction c with
 | c n=>
   intro cv hc
   show (bif ieq n 0 then SI.c 0 else lmD (.c n)).den C.σ ρ=_
   cases hb:ieq n 0 with
   | true=>
     have:=ieq_iff.1 hb;subst this
     cases hc
     rw [hcc.al.lz];rfl
   | false=>exact lmD_den hc
 | v i=>intro cv hc;exact lmD_den hc
 | d i=>intro cv hc;exact lmD_den hc
 | op f a b _ _=>intro cv hc;exact lmD_den hc
 | wk k a _=>intro cv hc;exact lmD_den hc
 | ap f a0 a1 a2 a3 a4 a5 ih0 _ _ _ _ _=>
   intro cv hc
   show (match mkS f a0 a1 a2 a3 a4 a5 with
    | .set _ _ _=>(match nrm cc H (hmS cc H a1 a0) with | .c true=>lmS cc H a0 | .c false=>SI.addc (lmS cc H a0) 1 | _=>lmD (.ap f a0 a1 a2 a3 a4 a5))
    | .del _ _=>(match nrm cc H (hmS cc H a1 a0) with | .c true=>SI.addc (lmS cc H a0) (-1) | .c false=>lmS cc H a0 | _=>lmD (.ap f a0 a1 a2 a3 a4 a5))
    | _=>lmD (.ap f a0 a1 a2 a3 a4 a5)).den C.σ ρ=_
   obtain ⟨m1,m2,m3⟩:=mkS_ok hc
   have hD:=lmD_den hc
   split
   ·rename_i c' x' y' e
    obtain ⟨rfl,rfl,rfl,c0,k0,y0,e0,e1,e3,rfl⟩:=m1 _ _ _ e
    have hn:=nrm_den hcc h (hmS_den hcc h e1 e0)
    split
    ·rename_i he
     rw [he] at hn
     simp only [SB.den,Option.some.injEq] at hn
     rw [hcc.al.ls,if_pos hn.symm];exact ih0 e0
    ·rename_i he
     rw [he] at hn
     simp only [SB.den,Option.some.injEq] at hn
     rw [hcc.al.ls,if_neg (by rw [← hn];simp)];exact SI.addc_den (ih0 e0)
    ·exact hD
   ·rename_i c' x' e
    obtain ⟨rfl,rfl,c0,k0,e0,e1,rfl⟩:=m2 _ _ e
    have hn:=nrm_den hcc h (hmS_den hcc h e1 e0)
    split
    ·rename_i he
     rw [he] at hn
     simp only [SB.den,Option.some.injEq] at hn
     rw [hcc.al.ld,if_pos hn.symm];exact SI.addc_den (ih0 e0)
    ·rename_i he
     rw [he] at hn
     simp only [SB.den,Option.some.injEq] at hn
     rw [hcc.al.ld,if_neg (by rw [← hn];simp)];exact ih0 e0
    ·exact hD
   ·exact hD
end
def opLookup (cc:Cc) (H:Hp) (t:TypeId) (m x:SV) (ok:Bool):OpR:=
 match mapK cc t,m,x with
 | some (kk,vk),.mp (.n id),.it k e=>match get H.heap id with
   | some (.mapc kk' vk' c)=>bif keq k kk then (bif keq kk kk' then (bif keq vk vk' then .val (bif ok then .tp [.it vk (gmS cc H vk e c),.bo (nrm cc H (hmS cc H e c))] else .it vk (gmS cc H vk e c)) H else .bad 400) else .bad 401) else .bad 402
   | _=>.bad 403
 | some (kk,vk),.mn,.it k e=>bif keq k kk then .val (bif ok then .tp [.it vk (.c 0),.bo (.c false)] else .it vk (.c 0)) H else .bad 408
 | _,_,_=>.bad 404
theorem opLookup_ok (hcc:cc.Ok C) (h:HpRel C hc w0 ρ H w) {t:TypeId} {m x:SV} {um ux:Value} (ok:Bool) (hm:m.Is C.σ ρ um) (hx:x.Is C.σ ρ ux):(opLookup cc H t m x ok).Ok cc C hc w0 ρ H w (do pure (.value (← Instr.lookup t um ux ok))):=by
 unfold opLookup
 split
 ·rename_i kk vk id k e hmk
  obtain ⟨kt,et,hu,hk,hz⟩:=mapK_ok hmk
  split
  ·rename_i kk' vk' c hg
   cases h1:keq k kk with
   | false=>trivial
   | true=>
   cases h2:keq kk kk' with
   | false=>trivial
   | true=>
   cases h3:keq vk vk' with
   | false=>trivial
   | true=>
   have:=keq_eq h1;subst this
   have:=keq_eq h2;subst this
   have:=keq_eq h3;subst this
   simp only [SV.Is] at hm hx
   obtain ⟨b,e1,rfl⟩:=hm
   obtain ⟨xv,e2,rfl⟩:=hx
   obtain ⟨b2,o,e3,e4,cv,l,clock,e5,hmp,rfl⟩:=h.blk id _ hg rfl
   have:b2=b:=by simp only [SR.den] at e1;rw [e3] at e1;exact Option.some.inj e1
   subst this
   have hval:(Instr.lookup t (.map (some b2)) (.int k xv) ok).run cc.P w=.ok (if ok then .tuple #[.int vk (gm C.σ vk cv xv),.bool (Sx.hm C.σ cv xv)] else .int vk (gm C.σ vk cv xv)) w:=by
    have hkey:MapKept.IsKey (.int k) (.int k xv):=rfl
    have hks:∀ y∈l,MapKept.IsKey (.int k) y.key:=fun y hy=>by obtain ⟨q,hq,_⟩:=hmp.ent y hy;rw [hq];rfl
    rcases MapKept.findNow_spec hkey l 0 hks with ⟨f1,f2⟩ | ⟨j,e',f1,f2,f3⟩
    ·have hf:Sx.hm C.σ cv xv=false:=by
      cases hh:Sx.hm C.σ cv xv with
      | false=>rfl
      | true=>obtain ⟨y,y1,y2⟩:=(hmp.has xv).1 hh;exact absurd y2 (f2 y y1)
     simp [Instr.lookup,underlying,hu,MapKept.run_getObj_map e4,MapKept.run_checkKey hk hkey,MapKept.run_findKey hk f1,hz,Result.andThen]
     rw [hmp.no xv hf,hf]
    ·obtain ⟨q,q1,q2,q3⟩:=hmp.ent e' (List.mem_of_getElem? f2)
     have hf:Sx.hm C.σ cv xv=true:=(hmp.has xv).2 ⟨e',List.mem_of_getElem? f2,f3⟩
     rw [f3] at q1
     simp only [Value.int.injEq,true_and] at q1
     simp [Instr.lookup,underlying,hu,MapKept.run_getObj_map e4,MapKept.run_checkKey hk hkey,MapKept.run_findKey hk f1,Result.andThen]
     rw [q2,q1,← q1,hf]
   cases ok with
   | false=>exact OpR.ok_pure h hval (by simp only [cond_false,SV.Is];exact ⟨_,gmS_den hcc h e2 e5,rfl⟩)
   | true=>exact OpR.ok_pure h hval (by simp only [cond_true,SV.Is];exact ⟨_,SV.isL_cons.2 ⟨_,_,rfl,by simp only [SV.Is];exact ⟨_,gmS_den hcc h e2 e5,rfl⟩,SV.isL_cons.2 ⟨_,_,rfl,by simp only [SV.Is];exact ⟨_,nrm_den hcc h (hmS_den hcc h e2 e5),rfl⟩,SV.isL_nil.2 rfl⟩⟩,rfl⟩)
  ·trivial
 ·rename_i kk vk k e hmk
  obtain ⟨kt,et,hu,hk,hz⟩:=mapK_ok hmk
  cases h1:keq k kk with
  | false=>trivial
  | true=>
  have:=keq_eq h1;subst this
  simp only [SV.Is] at hm hx
  subst hm
  obtain ⟨xv,e2,rfl⟩:=hx
  have hkey:MapKept.IsKey (.int k) (.int k xv):=rfl
  have hval:(Instr.lookup t (.map none) (.int k xv) ok).run cc.P w=.ok (if ok then .tuple #[.int vk 0,.bool false] else .int vk 0) w:=by
   rcases MapKept.findNow_spec hkey [] 0 (fun y hy=>by cases hy) with ⟨f1,f2⟩ | ⟨j,e',f1,f2,f3⟩
   ·simp [Instr.lookup,underlying,hu,MapKept.run_checkKey hk hkey,MapKept.run_findKey hk f1,hz,Result.andThen]
   ·simp at f2
  cases ok with
  | false=>exact OpR.ok_pure h hval (by simp only [cond_false,SV.Is];exact ⟨_,rfl,rfl⟩)
  | true=>exact OpR.ok_pure h hval (by simp only [cond_true,SV.Is];exact ⟨_,SV.isL_cons.2 ⟨_,_,rfl,by simp only [SV.Is];exact ⟨_,rfl,rfl⟩,SV.isL_cons.2 ⟨_,_,rfl,by simp only [SV.Is];exact ⟨_,rfl,rfl⟩,SV.isL_nil.2 rfl⟩⟩,rfl⟩)
 ·trivial
theorem int_key_inj {kk:IntKind} {a b:Int} (h:Value.int kk a=Value.int kk b):a=b:=by simpa using h
theorem mpIs_push {σ:Sta} (al:ArrLaw σ) {kk vk:IntKind} {c x y:Int} {l:List MapEntry} {clock:Nat} (h:MpIs σ kk vk c l clock) (hn:∀ e∈l,e.key≠.int kk x) (hy:vk.wrap y=y) (hkx0:kk.wrap x=x) :
  MpIs σ kk vk (sm σ c x y) (l++[{ key:=.int kk x,val:=.int vk y,born:=clock }]) (clock+1):=by
 have hx:hm σ c x=false:=by
  cases hh:hm σ c x with
  | false=>rfl
  | true=>obtain ⟨e,e1,e2⟩:=(h.has x).1 hh;exact absurd e2 (hn e e1)
 refine ⟨fun e he=>?_,?_,fun k=>?_,fun k hk=>?_,?_,?_,fun k hk=>?_⟩
 ·rcases List.mem_append.1 he with he | he
  ·obtain ⟨k,q1,q2,q3⟩:=h.ent e he
   have hkx:¬ k=x:=fun e'=>hn e he (by rw [q1,e'])
   exact ⟨k,q1,by rw [q2,al.ms,if_neg hkx],by rw [q3,al.bs,if_neg hkx]⟩
  ·simp only [List.mem_singleton] at he
   subst he
   exact ⟨x,rfl,by rw [al.ms,if_pos rfl,hy],by rw [al.bs,if_pos rfl,if_neg (by rw [hx];simp),h.clk]⟩
 ·have:=MapKept.stamped_push h.st (key:=.int kk x) (val:=.int vk y) (fun e he=>hn e (by simpa using he))
  simpa using this
 ·rw [al.hs]
  by_cases hkx:k=x
  ·subst hkx;simp
  ·rw [if_neg hkx,h.has k]
   constructor
   ·rintro ⟨e,e1,e2⟩;exact ⟨e,List.mem_append_left _ e1,e2⟩
   ·rintro ⟨e,e1,e2⟩
    rcases List.mem_append.1 e1 with e1 | e1
    ·exact ⟨e,e1,e2⟩
    ·simp only [List.mem_singleton] at e1
     subst e1
     exact absurd (int_key_inj e2).symm hkx
 ·rw [al.hs] at hk
  have hkx:¬ k=x:=fun e=>by rw [if_pos e] at hk;cases hk
  rw [if_neg hkx] at hk
  rw [al.ms,if_neg hkx];exact h.no k hk
 ·rw [al.ls,if_neg (by rw [hx];simp),h.len];simp
 ·rw [al.ts,if_neg (by rw [hx];simp),h.clk];simp
 ·rw [al.hs] at hk
  by_cases hkx:k=x
  ·rw [hkx];exact hkx0
  ·rw [if_neg hkx] at hk;exact h.rng k hk
theorem mpIs_modify {σ:Sta} (al:ArrLaw σ) {kk vk:IntKind} {c x y:Int} {l:List MapEntry} {clock:Nat} (h:MpIs σ kk vk c l clock) {j:Nat} {e0:MapEntry} (hj:l[j]? = some e0) (hk0:e0.key=.int kk x) (hy:vk.wrap y=y) :
  MpIs σ kk vk (sm σ c x y) (l.modify j fun e=>{ e with key:=.int kk x,val:=.int vk y }) clock:=by
 have hx:hm σ c x=true:=(h.has x).2 ⟨e0,List.mem_of_getElem? hj,hk0⟩
 have hmem:∀ e,e∈(l.modify j fun e=>{ e with key:=.int kk x,val:=.int vk y })→(e.key=.int kk x∧e.val=.int vk y∧e.born=e0.born)∨(e∈l∧∃ i,i≠j∧l[i]? = some e):=by
  intro e he
  obtain ⟨i,hi⟩:=List.mem_iff_getElem?.1 he
  rw [List.getElem?_modify] at hi
  by_cases hij:j=i
  ·subst hij
   rw [hj] at hi
   simp only [if_true,Option.map_eq_map,Option.map_some,Option.some.injEq] at hi
   subst hi
   exact .inl ⟨rfl,rfl,rfl⟩
  ·have hi':l[i]? = some e:=by
    cases hq:l[i]? with
    | none=>rw [hq] at hi;cases hi
    | some q=>rw [hq] at hi;simp [hij] at hi;rw [hi]
   exact .inr ⟨List.mem_of_getElem? hi',i,fun e=>hij e.symm,hi'⟩
 have hpw:=((MapKept.stamped_iff _ _).1 h.st).2.2
 have hne:∀ i e,i≠j→l[i]? = some e→e.key≠.int kk x:=by
  intro i e hi he hek
  have hpw':l.Pairwise (fun x y=>x.key≠y.key):=by simpa using hpw
  rw [List.pairwise_iff_getElem] at hpw'
  obtain ⟨i1,i2⟩:=List.getElem?_eq_some_iff.1 he
  obtain ⟨j1,j2⟩:=List.getElem?_eq_some_iff.1 hj
  rcases Nat.lt_or_gt_of_ne hi with hlt | hlt
  ·exact hpw' i j i1 j1 hlt (by rw [i2,j2,hek,hk0])
  ·exact hpw' j i j1 i1 hlt (by rw [i2,j2,hek,hk0])
 have hkeys:(l.modify j fun e=>{ e with key:=.int kk x,val:=.int vk y }).map (·.key)=l.map (·.key):=by
  apply List.ext_getElem?
  intro i
  simp only [List.getElem?_map,List.getElem?_modify]
  by_cases hi:j=i
  ·subst hi;rw [hj];simp [hk0]
  ·simp [hi]
 refine ⟨fun e he=>?_,?_,fun k=>?_,fun k hk=>?_,?_,?_,fun k hk=>?_⟩
 ·rcases hmem e he with ⟨e1,e2,e3⟩ | ⟨e1,i,i1,i2⟩
  ·refine ⟨x,e1,by rw [e2,al.ms,if_pos rfl,hy],?_⟩
   obtain ⟨k,q1,q2,q3⟩:=h.ent e0 (List.mem_of_getElem? hj)
   rw [hk0] at q1
   have:=int_key_inj q1;subst this
   rw [e3,q3,al.bs,if_pos rfl,if_pos hx]
  ·obtain ⟨k,q1,q2,q3⟩:=h.ent e e1
   have hkx:¬ k=x:=fun e'=>hne i e i1 i2 (by rw [q1,e'])
   exact ⟨k,q1,by rw [q2,al.ms,if_neg hkx],by rw [q3,al.bs,if_neg hkx]⟩
 ·have:=MapKept.stamped_modify h.st j (fun e=>{ e with key:=.int kk x,val:=.int vk y }) (fun e _=>rfl) (fun e he hej=>by
   have:l[j]? = some e:=by simpa using hej
   rw [hj] at this;cases this;exact hk0.symm)
  simpa using this
 ·rw [al.hs]
  have e1:(∃ e∈(l.modify j fun e=>{ e with key:=.int kk x,val:=.int vk y }),e.key=.int kk k)↔∃ e∈l,e.key=.int kk k:=by
   have a1:∀ L:List MapEntry,(∃ e∈L,e.key=.int kk k)↔Value.int kk k∈L.map (·.key):=fun L=>by simp [List.mem_map]
   rw [a1,a1,hkeys]
  rw [e1,← h.has k]
  by_cases hkx:k=x
  ·subst hkx;rw [if_pos rfl,hx]
  ·rw [if_neg hkx]
 ·rw [al.hs] at hk
  have hkx:¬ k=x:=fun e=>by rw [if_pos e] at hk;cases hk
  rw [if_neg hkx] at hk
  rw [al.ms,if_neg hkx];exact h.no k hk
 ·rw [al.ls,if_pos hx,h.len];simp
 ·rw [al.ts,if_pos hx,h.clk]
 ·rw [al.hs] at hk
  by_cases hkx:k=x
  ·rw [hkx];exact h.rng x hx
  ·rw [if_neg hkx] at hk;exact h.rng k hk
theorem mpIs_erase {σ:Sta} (al:ArrLaw σ) {kk vk:IntKind} {c x:Int} {l:List MapEntry} {clock:Nat} (h:MpIs σ kk vk c l clock) {j:Nat} {e0:MapEntry} (hj:l[j]? = some e0) (hk0:e0.key=.int kk x) :
  MpIs σ kk vk (dm σ c x) (l.eraseIdx j) clock:=by
 have hx:hm σ c x=true:=(h.has x).2 ⟨e0,List.mem_of_getElem? hj,hk0⟩
 obtain ⟨j1,j2⟩:=List.getElem?_eq_some_iff.1 hj
 have hmem:∀ e,e∈l.eraseIdx j↔e∈l∧e.key≠.int kk x:=by
  intro e
  rw [List.mem_eraseIdx_iff_getElem?]
  have hpw:=((MapKept.stamped_iff _ _).1 h.st).2.2
  have hpw':l.Pairwise (fun x y=>x.key≠y.key):=by simpa using hpw
  rw [List.pairwise_iff_getElem] at hpw'
  constructor
  ·rintro ⟨i,hi,he⟩
   refine ⟨List.mem_of_getElem? he,fun hek=>?_⟩
   obtain ⟨i1,i2⟩:=List.getElem?_eq_some_iff.1 he
   rcases Nat.lt_or_gt_of_ne hi with hlt | hlt
   ·exact hpw' i j i1 j1 hlt (by rw [i2,j2,hek,hk0])
   ·exact hpw' j i j1 i1 hlt (by rw [i2,j2,hek,hk0])
  ·rintro ⟨he,hek⟩
   obtain ⟨i,hi⟩:=List.mem_iff_getElem?.1 he
   refine ⟨i,fun e'=>hek ?_,hi⟩
   subst e'
   rw [hj] at hi;cases hi;exact hk0
 refine ⟨fun e he=>?_,?_,fun k=>?_,fun k hk=>?_,?_,?_,fun k hk=>?_⟩
 ·obtain ⟨e1,e2⟩:=(hmem e).1 he
  obtain ⟨k,q1,q2,q3⟩:=h.ent e e1
  have hkx:¬ k=x:=fun e'=>e2 (by rw [q1,e'])
  exact ⟨k,q1,by rw [q2,al.md,if_neg hkx],by rw [q3,al.bd]⟩
 ·have:=MapKept.stamped_erase h.st j
  have e:(l.toArray.eraseIdxIfInBounds j)=(l.eraseIdx j).toArray:=by simp [Array.eraseIdxIfInBounds,j1]
  rwa [e] at this
 ·rw [al.hd]
  by_cases hkx:k=x
  ·subst hkx
   rw [if_pos rfl]
   simp only [Bool.false_eq_true,false_iff,not_exists,not_and]
   exact fun e he=>((hmem e).1 he).2
  ·rw [if_neg hkx,h.has k]
   constructor
   ·rintro ⟨e,e1,e2⟩;exact ⟨e,(hmem e).2 ⟨e1,by rw [e2];exact fun e'=>hkx (int_key_inj e')⟩,e2⟩
   ·rintro ⟨e,e1,e2⟩;exact ⟨e,((hmem e).1 e1).1,e2⟩
 ·rw [al.hd] at hk
  rw [al.md]
  by_cases hkx:k=x
  ·rw [if_pos hkx]
  ·rw [if_neg hkx] at hk ⊢;exact h.no k hk
 ·rw [al.ld,if_pos hx,h.len,List.length_eraseIdx_of_lt j1];omega
 ·rw [al.td,h.clk]
 ·rw [al.hd] at hk
  by_cases hkx:k=x
  ·rw [if_pos hkx] at hk;cases hk
  ·rw [if_neg hkx] at hk;exact h.rng k hk
theorem mpIs_stay {σ:Sta} (al:ArrLaw σ) {kk vk:IntKind} {c x:Int} {l:List MapEntry} {clock:Nat} (h:MpIs σ kk vk c l clock) (hn:∀ e∈l,e.key≠.int kk x):MpIs σ kk vk (dm σ c x) l clock:=by
 have hx:hm σ c x=false:=by
  cases hh:hm σ c x with
  | false=>rfl
  | true=>obtain ⟨e,e1,e2⟩:=(h.has x).1 hh;exact absurd e2 (hn e e1)
 have hk':∀ k,hm σ (dm σ c x) k=hm σ c k:=fun k=>by
  rw [al.hd];split
  ·rename_i e;rw [e,hx]
  ·rfl
 refine ⟨fun e he=>?_,h.st,fun k=>by rw [hk',h.has k],fun k hk=>?_,by rw [al.ld,if_neg (by rw [hx];simp),h.len],by rw [al.td,h.clk],fun k hk=>h.rng k (by rw [← hk'];exact hk)⟩
 ·obtain ⟨k,q1,q2,q3⟩:=h.ent e he
  have hkx:¬ k=x:=fun e'=>hn e he (by rw [q1,e'])
  exact ⟨k,q1,by rw [q2,al.md,if_neg hkx],by rw [q3,al.bd]⟩
 ·rw [hk'] at hk
  rw [al.md];split
  ·rfl
  ·exact h.no k hk
theorem map_put (h:HpRel C hc w0 ρ H w) {id b:Nat} {kk vk:IntKind} {c:SI} (hg:get H.heap id=some (.mapc kk vk c)) (e3:ρ.bl id=some b) {es:Array MapEntry} {ck0:Nat} (e4:w.heap[b]? = some (.map es ck0))
  {c':SI} {cv':Int} (hc':c'.den C.σ ρ=some cv') {l':List MapEntry} {ck:Nat} (hl':MpIs C.σ kk vk cv' l' ck) :
  Tn ρ H w ρ (H.put id (.mapc kk vk c')) { w with heap:=w.heap.setIfInBounds b (.map l'.toArray ck) }∧HpRel C hc w0 ρ (H.put id (.mapc kk vk c')) { w with heap:=w.heap.setIfInBounds b (.map l'.toArray ck) }:=by
 obtain ⟨s1,s2⟩:=MapKept.heap_set (o':=.map l'.toArray ck) e4
 refine ⟨Tn.of_put e3 (fun i hi=>s2 i hi) (by simp),?_⟩
 refine h.put hg rfl e3 (o:=.map l'.toArray ck) (w':={ w with heap:=w.heap.setIfInBounds b (.map l'.toArray ck) }) rfl ?_ (fun i hi=>s2 i hi) s1 (by simp) rfl rfl rfl
 exact ⟨cv',l',ck,hc',hl',rfl⟩
def opMapUp (cc:Cc) (H:Hp) (t:TypeId) (m x y:SV):OpR:=
 match mapK cc t,m,x,y with
 | some (kk,vk),.mp (.n id),.it k e,.it k2 a=>match get H.heap id,rg (bdOf cc H) a,rg (bdOf cc H) e with
   | some (.mapc kk' vk' c),(some lo,some hi),(some lo2,some hi2)=>bif keq k kk && (keq kk kk' && (keq vk vk' && (keq k2 vk && ((ile (kmin vk) lo && ile hi (kmax vk)) && (ile (kmin kk) lo2 && ile hi2 (kmax kk)))))) then .val (.tp []) (H.put id (.mapc kk vk (smD c e a))) else .bad 405
   | _,_,_=>.bad 406
 | _,_,_,_=>.bad 407
theorem opMapUp_ok (hcc:cc.Ok C) (h:HpRel C hc w0 ρ H w) {t:TypeId} {m x y:SV} {um ux uy:Value} (hm:m.Is C.σ ρ um) (hx:x.Is C.σ ρ ux) (hy:y.Is C.σ ρ uy):(opMapUp cc H t m x y).Ok cc C hc w0 ρ H w (do Instr.mapUpdate t um ux uy;pure .skip):=by
 unfold opMapUp
 split
 ·rename_i kk vk id k e k2 a hmk
  obtain ⟨kt,et,hu,hk,hz⟩:=mapK_ok hmk
  split
  ·rename_i kk' vk' c lo hi lo2 hi2 hg hrg hrg2
   cases hck:(keq k kk && (keq kk kk' && (keq vk vk' && (keq k2 vk && ((ile (kmin vk) lo && ile hi (kmax vk)) && (ile (kmin kk) lo2 && ile hi2 (kmax kk))))))) with
   | false=>trivial
   | true=>
   simp only [Bool.and_eq_true] at hck
   obtain ⟨h1,h2,h3,h4,⟨h5,h6⟩,h7,h8⟩:=hck
   have:=keq_eq h1;subst this
   have:=keq_eq h2;subst this
   have:=keq_eq h3;subst this
   have:=keq_eq h4;subst this
   have h5:=ile_iff.1 h5
   have h6:=ile_iff.1 h6
   have h7:=ile_iff.1 h7
   have h8:=ile_iff.1 h8
   simp only [SV.Is] at hm hx hy
   obtain ⟨b,e1,rfl⟩:=hm
   obtain ⟨xv,e2,rfl⟩:=hx
   obtain ⟨yv,e2',rfl⟩:=hy
   obtain ⟨b2,o,e3,e4,cv,l,clock,e5,hmp,rfl⟩:=h.blk id _ hg rfl
   have:b2=b:=by simp only [SR.den] at e1;rw [e3] at e1;exact Option.some.inj e1
   subst this
   have hin:=rg_ok (bdOf_ok hcc h) a yv e2'
   rw [hrg] at hin
   have hin2:=rg_ok (bdOf_ok hcc h) e xv e2
   rw [hrg2] at hin2
   have hw2:k.wrap xv=xv:=wrap_in k xv (by have:=hin2.1 lo2 rfl;omega) (by have:=hin2.2 hi2 rfl;omega)
   have hw:k2.wrap yv=yv:=wrap_in k2 yv (by have:=hin.1 lo rfl;omega) (by have:=hin.2 hi rfl;omega)
   have hkey:MapKept.IsKey (.int k) (.int k xv):=rfl
   have hks:∀ y∈l,MapKept.IsKey (.int k) y.key:=fun y hy=>by obtain ⟨q,hq,_⟩:=hmp.ent y hy;rw [hq];rfl
   have hset:∀ (l':List MapEntry) (ck:Nat),MpIs C.σ k k2 (sm C.σ cv xv yv) l' ck→(Instr.mapUpdate t (.map (some b2)) (.int k xv) (.int k2 yv)).run cc.P w=.ok () { w with heap:=w.heap.setIfInBounds b2 (.map l'.toArray ck) }→
     (OpR.val (.tp []) (H.put id (.mapc k k2 (smD c e a)))).Ok cc C hc w0 ρ H w (do Instr.mapUpdate t (.map (some b2)) (.int k xv) (.int k2 yv);pure .skip):=by
    intro l' ck hl' hrun
    obtain ⟨p1,p2⟩:=map_put h hg e3 e4 (smD_den e5 e2 e2') hl'
    refine ⟨ρ,.skip,undef,_,p1,by simp [hrun],.inr ⟨rfl,rfl⟩,?_,p2⟩
    simp only [SV.Is];exact ⟨[],SV.isL_nil.2 rfl,rfl⟩
   rcases MapKept.findNow_spec hkey l 0 hks with ⟨f1,f2⟩ | ⟨j,e',f1,f2,f3⟩
   ·refine hset (l++[{ key:=.int k xv,val:=.int k2 yv,born:=clock }]) (clock+1) (mpIs_push hcc.al hmp f2 hw hw2) ?_
    simp [Instr.mapUpdate,underlying,hu,MapKept.run_getObj_map e4,MapKept.run_checkKey hk hkey,MapKept.run_findKey hk f1,MapKept.run_setObj_map _ e4,Result.andThen]
   ·refine hset (l.modify j fun e=>{ e with key:=.int k xv,val:=.int k2 yv }) clock (mpIs_modify hcc.al hmp f2 f3 hw) ?_
    simp [Instr.mapUpdate,underlying,hu,MapKept.run_getObj_map e4,MapKept.run_checkKey hk hkey,MapKept.run_findKey hk f1,MapKept.run_setObj_map _ e4,Result.andThen,f2,f3,MapKept.run_keyThatStays hkey]
  ·trivial
 ·trivial
def opDelM (cc:Cc) (H:Hp) (ts:Array TypeId) (xs:List SV):OpR:=
 match lnth ts.toList 0,xs with
 | some t,[.mp (.n id),.it k e]=>match mapK cc t,get H.heap id with
   | some (kk,vk),some (.mapc kk' vk' c)=>bif keq k kk && (keq kk kk' && keq vk vk') then .val (.tp []) (H.put id (.mapc kk vk (dmD c e))) else .bad 410
   | _,_=>.bad 411
 | _,_=>.bad 412
theorem opDelM_ok (hcc:cc.Ok C) (h:HpRel C hc w0 ρ H w) {ts:Array TypeId} {ty:TypeId} {xs:List SV} {us:List Value} (hx:SV.IsL C.σ ρ xs us):(opDelM cc H ts xs).Ok cc C hc w0 ρ H w (do pure (.value (← Builtin.delete_ ts ty us.toArray))):=by
 unfold opDelM
 split
 ·rename_i t id k e ht
  split
  ·rename_i kk vk kk' vk' c hmk hg
   obtain ⟨kt,et,hu,hk,hz⟩:=mapK_ok hmk
   cases hck:(keq k kk && (keq kk kk' && keq vk vk')) with
   | false=>trivial
   | true=>
   simp only [Bool.and_eq_true] at hck
   obtain ⟨h1,h2,h3⟩:=hck
   have:=keq_eq h1;subst this
   have:=keq_eq h2;subst this
   have:=keq_eq h3;subst this
   rw [lnth_eq] at ht
   have ht':ts[0]? = some t:=by simpa using ht
   simp only [SV.isL_cons,SV.isL_nil] at hx
   obtain ⟨u,r,rfl,hm,u2,r2,rfl,hx2,rfl⟩:=hx
   simp only [SV.Is] at hm hx2
   obtain ⟨b,e1,rfl⟩:=hm
   obtain ⟨xv,e2,rfl⟩:=hx2
   obtain ⟨b2,o,e3,e4,cv,l,clock,e5,hmp,rfl⟩:=h.blk id _ hg rfl
   have:b2=b:=by simp only [SR.den] at e1;rw [e3] at e1;exact Option.some.inj e1
   subst this
   have hkey:MapKept.IsKey (.int k) (.int k xv):=rfl
   have hks:∀ y∈l,MapKept.IsKey (.int k) y.key:=fun y hy=>by obtain ⟨q,hq,_⟩:=hmp.ent y hy;rw [hq];rfl
   have hset:∀ (l':List MapEntry),MpIs C.σ k vk (dm C.σ cv xv) l' clock→(Builtin.delete_ ts ty #[.map (some b2),.int k xv]).run cc.P w=.ok (.tuple #[]) { w with heap:=w.heap.setIfInBounds b2 (.map l'.toArray clock) }→
     (OpR.val (.tp []) (H.put id (.mapc k vk (dmD c e)))).Ok cc C hc w0 ρ H w (do pure (.value (← Builtin.delete_ ts ty #[.map (some b2),.int k xv]))):=by
    intro l' hl' hrun
    obtain ⟨p1,p2⟩:=map_put h hg e3 e4 (dmD_den e5 e2) hl'
    refine ⟨ρ,.value (.tuple #[]),.tuple #[],_,p1,by simp [hrun],.inl rfl,?_,p2⟩
    simp only [SV.Is];exact ⟨[],SV.isL_nil.2 rfl,rfl⟩
   rcases MapKept.findNow_spec hkey l 0 hks with ⟨f1,f2⟩ | ⟨j,e',f1,f2,f3⟩
   ·refine hset l (mpIs_stay hcc.al hmp f2) ?_
    simp [Builtin.delete_,ht',underlying,hu,MapKept.run_getObj_map e4,MapKept.run_checkKey hk hkey,MapKept.run_findKey hk f1,MapKept.run_setObj_map _ e4,Result.andThen]
   ·have hj1:=(List.getElem?_eq_some_iff.1 f2).1
    refine hset (l.eraseIdx j) (mpIs_erase hcc.al hmp f2 f3) ?_
    simp [Builtin.delete_,ht',underlying,hu,MapKept.run_getObj_map e4,MapKept.run_checkKey hk hkey,MapKept.run_findKey hk f1,MapKept.run_setObj_map _ e4,Result.andThen,Array.eraseIdxIfInBounds,hj1]
  ·trivial
 ·trivial
def opRange (cc:Cc) (H:Hp) (t:TypeId) (m:SV):OpR:=
 match mapK cc t,m with
 | some _,.mn=>.val (.pt (.n H.nb) (.c 0)) (H.alloc .mitn)
 | some (kk,vk),.mp (.n id)=>match get H.heap id with
   | some (.mapc kk' vk' c)=>.val (.pt (.n H.nb) (.c 0)) (H.alloc (.miter id c (.c 0) none))
   | _=>.bad 413
 | _,_=>.bad 414
theorem opRange_ok (hcc:cc.Ok C) (h:HpRel C hc w0 ρ H w) {t:TypeId} {m:SV} {um:Value} (hm:m.Is C.σ ρ um):(opRange cc H t m).Ok cc C hc w0 ρ H w (do pure (.value (← Instr.range t um))):=by
 have done:∀ (bk:Bk) (o:Obj),(Instr.range t um).run cc.P w=.ok (.pointer (some ⟨w.heap.size,0,none⟩)) (w.alloc o)→bk.Is C.σ (ρ.setBl H.nb w.heap.size) o→(OpR.val (.pt (.n H.nb) (.c 0)) (H.alloc bk)).Ok cc C hc w0 ρ H w (do pure (.value (← Instr.range t um))):=fun bk o hs hb=>
  ⟨ρ.setBl H.nb w.heap.size,.value (.pointer (some ⟨w.heap.size,0,none⟩)),.pointer (some ⟨w.heap.size,0,none⟩),w.alloc o,Tn.of_alloc ρ H w _ _,by simp [hs],.inl rfl,by simp only [SV.Is,SR.den];exact ⟨_,0,Dyn.setBl_same _ _ _,rfl,rfl⟩,h.alloc' hb⟩
 unfold opRange
 split
 ·rename_i kv hmk
  obtain ⟨kk,vk⟩:=kv
  obtain ⟨kt,et,hu,hk,hz⟩:=mapK_ok hmk
  simp only [SV.Is] at hm;subst hm
  exact done .mitn (.mapIter none 0 #[] 0) (by simp [Instr.range,underlying,hu]) rfl
 ·rename_i kk vk id hmk
  obtain ⟨kt,et,hu,hk,hz⟩:=mapK_ok hmk
  split
  ·rename_i kk' vk' c hg
   simp only [SV.Is] at hm
   obtain ⟨b,e1,rfl⟩:=hm
   obtain ⟨b2,o,e3,e4,cv,l,clock,e5,hmp,rfl⟩:=h.blk id _ hg rfl
   have:b2=b:=by simp only [SR.den] at e1;rw [e3] at e1;exact Option.some.inj e1
   subst this
   have hle:=h.le_alloc w.heap.size
   refine done (.miter id c (.c 0) none) (.mapIter (some b2) clock #[] clock) ?_ ⟨b2,cv,0,hle.bl _ _ e3,SI.den_mono hle _ _ e5,rfl,none,rfl,⟨clock,#[],clock,rfl,hmp.clk.symm,hmp.clk.symm,fun n=>?_,fun k hk=>by cases hk⟩⟩
   ·simp [Instr.range,underlying,hu,MapKept.run_getObj_map e4,Result.andThen]
   ·simp [hcc.al.hz]
  ·trivial
 ·trivial
def opNext (cc:Cc) (H:Hp) (it:SV) (isS:Bool):OpR:=
 bif isS then .bad 415 else match it with
 | .pt (.n r) (.c (.ofNat 0))=>match get H.heap r with
   | some .mitn=>.val (.tp [.bo (.c false)]) H
   | some (.miter id c s lk)=>match get H.heap id with
     | some (.mapc kk vk c')=>bif c.beq c' && !(Nat.beq r id) then (match dec (bdOf cc H) H.facts (amD c s) with
       | .yes true=>.val (.tp [.bo (.c false)]) H
       | .yes false=>.val (.tp [.bo (.c true),.it kk (kmD kk c (.d H.nd)),.it vk (gmS cc (H.num (.c 0)) vk (kmD kk c (.d H.nd)) c)])
         ((((H.num (.c 0)).put r (.miter id c (smD s (kmD kk c (.d H.nd)) (.c 0)) (some (kmD kk c (.d H.nd))))).learn (hmD c (kmD kk c (.d H.nd))) true).learn (hmD s (kmD kk c (.d H.nd))) false)
       | .ask p=>.ask p) else .bad 416
     | _=>.bad 417
   | _=>.bad 418
 | _=>.bad 419
theorem left_mem {es:Array MapEntry} {seen:Array Nat} {e:MapEntry}:e∈(leftOf es seen).toList↔e∈es.toList∧e.born ∉ seen.toList:=by
 unfold leftOf
 simp
theorem opNext_ok (hcc:cc.Ok C) (h:HpRel C hc w0 ρ H w) {it:SV} {u:Value} (isS:Bool) (ty:TypeId) (hi:it.Is C.σ ρ u):(opNext cc H it isS).Ok cc C hc w0 ρ H w (do pure (.value (← Instr.next u isS ty))):=by
 unfold opNext
 cases isS with
 | true=>trivial
 | false=>
 simp only [cond_false]
 split
 ·rename_i r
  simp only [SV.Is,SI.den,Option.some.injEq] at hi
  obtain ⟨rb,n0,e1,e0,rfl⟩:=hi
  have hn0:n0=0:=by
   have:(Int.ofNat 0)=Int.ofNat n0:=e0
   injection this with this;exact this.symm
  subst hn0
  split
  ·rename_i hg
   obtain ⟨b2,o,e3,e4,e5⟩:=h.blk r _ hg rfl
   have:b2=rb:=by simp only [SR.den] at e1;rw [e3] at e1;exact Option.some.inj e1
   subst this
   have e5':o=.mapIter none 0 #[] 0:=e5
   subst e5'
   refine OpR.ok_pure h (u:=.tuple #[.bool false]) ?_ (by simp only [SV.Is];exact ⟨_,SV.isL_cons.2 ⟨_,_,rfl,by simp [SV.Is,SB.den],SV.isL_nil.2 rfl⟩,rfl⟩)
   simp [Instr.next,getObj,Sem.run,e4]
  ·rename_i id c s lk hg
   split
   ·rename_i kk vk c' hgm
    cases hck:(c.beq c' && !(Nat.beq r id)) with
    | false=>trivial
    | true=>
    simp only [Bool.and_eq_true] at hck
    have:=SI.beq_eq hck.1;subst this
    have hrid:r≠id:=fun e=>by subst e;simp at hck
    simp only [cond_true]
    obtain ⟨rb2,o,e3,e4,b,cv,sv,e5,e6,e7,lv,e8,hit⟩:=h.blk r _ hg rfl
    have:rb2=rb:=by simp only [SR.den] at e1;rw [e3] at e1;exact Option.some.inj e1
    subst this
    obtain ⟨since,seen,last,rfl,i1,i2,i3,i4⟩:=hit.it
    obtain ⟨b2,o2,f3,f4,cv2,l,clock,f5,hmp,rfl⟩:=h.blk id _ hgm rfl
    have:b2=b:=by rw [f3] at e5;exact Option.some.inj e5
    subst this
    have:cv2=cv:=by rw [f5] at e6;exact Option.some.inj e6
    subst this
    have hcl:clock=since:=by have:=hmp.clk;omega
    have hcl2:clock=last:=by have:=hmp.clk;omega
    have hst:=(MapKept.stamped_iff _ _).1 hmp.st
    have hrun:=run_next_at (P:=cc.P) w ty rb2 b2 since last seen l.toArray clock e4 f4 (fun x hx=>by have:=hst.1 x hx;omega) (by omega)
    have hleft:∀ e∈l,∀ k,e.key=.int kk k→(e.born∈seen.toList↔hm C.σ sv k=true):=by
     intro e he k hk
     obtain ⟨k',q1,q2,q3⟩:=hmp.ent e he
     rw [hk] at q1
     have:=int_key_inj q1;subst this
     rw [i3]
     constructor
     ·rintro ⟨k2,a1,a2,a3⟩
      obtain ⟨e2,b1,b2'⟩:=(hmp.has k2).1 a2
      obtain ⟨k3,c1,c2,c3⟩:=hmp.ent e2 b1
      rw [b2'] at c1
      have:=int_key_inj c1;subst this
      have hbb:e2.born=e.born:=by omega
      have hnd:=hst.2.1
      have:e2=e:=by
       obtain ⟨i,hi'⟩:=List.mem_iff_getElem?.1 b1
       obtain ⟨j,hj'⟩:=List.mem_iff_getElem?.1 he
       have h1:(l.map (·.born))[i]? = some e2.born:=by rw [List.getElem?_map,hi'];rfl
       have h2:(l.map (·.born))[j]? = some e.born:=by rw [List.getElem?_map,hj'];rfl
       rw [hbb] at h1
       have hlt:=(List.getElem?_eq_some_iff.1 h1).1
       have hij:i=j:=(List.getElem?_inj hlt (by simpa using hnd)).1 (h1.trans h2.symm)
       rw [hij,hj'] at hi';exact (Option.some.inj hi').symm
      subst this
      rw [hk] at b2'
      have:=int_key_inj b2';subst this
      exact a1
     ·intro hs
      exact ⟨k,hs,(hmp.has k).2 ⟨e,he,hk⟩,q3.symm⟩
    have hall:(amD c s).den C.σ ρ=some (am C.σ cv2 sv):=amD_den e6 e7
    have hno:(leftOf l.toArray seen).size=0↔am C.σ cv2 sv=true:=by
     rw [hcc.al.al]
     constructor
     ·intro hz x hx
      obtain ⟨e,he,hk⟩:=(hmp.has x).1 hx
      refine (hleft e he x hk).1 (Classical.byContradiction fun hn=>?_)
      have:e∈(leftOf l.toArray seen).toList:=left_mem.2 ⟨by simpa using he,hn⟩
      have hp:=List.length_pos_of_mem this
      simp at hp;omega
     ·intro ha
      refine Classical.byContradiction fun hz=>?_
      have hp:0 < (leftOf l.toArray seen).toList.length:=by simp;omega
      obtain ⟨e,he⟩:=List.exists_mem_of_length_pos hp
      obtain ⟨h1,h2⟩:=left_mem.1 he
      have h1':e∈l:=by simpa using h1
      obtain ⟨k,q1,_⟩:=hmp.ent e h1'
      exact h2 ((hleft e h1' k q1).2 (ha k ((hmp.has k).2 ⟨e,h1',q1⟩)))
    split
    ·rename_i hd
     have ha:=(dec_ok (bdOf_ok hcc h) h.facts hall hd).symm
     have hz:=hno.2 ha
     rcases hrun with ⟨_,hr⟩ | ⟨e,he,_⟩
     ·exact OpR.ok_pure h hr (by simp only [SV.Is];exact ⟨_,SV.isL_cons.2 ⟨_,_,rfl,by simp [SV.Is,SB.den],SV.isL_nil.2 rfl⟩,rfl⟩)
     ·have hp:=List.length_pos_of_mem he
      simp at hp;omega
    ·rename_i hd
     have ha:=(dec_ok (bdOf_ok hcc h) h.facts hall hd).symm
     have hz:¬ (leftOf l.toArray seen).size=0:=fun hz=>by have:=hno.1 hz;rw [ha] at this;cases this
     rcases hrun with ⟨hz',_⟩ | ⟨e,he,w1,hw1,hr⟩
     ·exact absurd hz' hz
     obtain ⟨h1,h2⟩:=left_mem.1 he
     have h1':e∈l:=by simpa using h1
     obtain ⟨k,q1,q2,q3⟩:=hmp.ent e h1'
     have hk1:hm C.σ cv2 k=true:=(hmp.has k).2 ⟨e,h1',q1⟩
     have hk2:hm C.σ sv k=false:=by
      cases hh:hm C.σ sv k with
      | false=>rfl
      | true=>exact absurd ((hleft e h1' k q1).2 hh) h2
     obtain ⟨i,hi1,hi2⟩:=hcc.al.kn kk cv2 k hk1 (hmp.rng k hk1)
     have hB:Below w.heap.size w w1:=by
      rcases hw1 with rfl | rfl
      ·exact Below.refl _ _
      ·exact (Below.refl _ w).drew
     have h':HpRel C hc w0 ρ H w1:=h.below hB
     have hT1:Tn ρ H w ρ H w1:=Tn.of_below hB
     have h3:=h'.num (lo:=.c 0) (n:=i) (k:=0) rfl (Nat.zero_le _)
     have hle:ρ.Le (ρ.setDi H.nd i):=Dyn.Ag.le h (Tn.of_num ρ H w (.c 0) i).ag
     have d1:(kmD kk c (.d H.nd)).den C.σ (ρ.setDi H.nd i)=some k:=by
      rw [kmD_den (SI.den_mono hle _ _ e6) (xv:=(i:Int)) (by simp only [SI.den];rw [Dyn.setDi_same];rfl),hi2]
     have d2:(smD s (kmD kk c (.d H.nd)) (.c 0)).den C.σ (ρ.setDi H.nd i)=some (sm C.σ sv k 0):=smD_den (SI.den_mono hle _ _ e7) d1 rfl
     have hsz:w1.heap.size=w.heap.size:=by rcases hw1 with rfl | rfl<;>rfl
     have hrb:w1.heap[rb2]? = some (.mapIter (some b2) since seen last):=by rcases hw1 with rfl | rfl<;>exact e4
     obtain ⟨s1,s2⟩:=MapKept.heap_set (o':=.mapIter (some b2) since (seen.push e.born) clock) hrb
     have h4:=h3.put (bk':=.miter id c (smD s (kmD kk c (.d H.nd)) (.c 0)) (some (kmD kk c (.d H.nd)))) (id:=r) (b:=rb2) (o:=.mapIter (some b2) since (seen.push e.born) clock)
      (w':={ w1 with heap:=w1.heap.setIfInBounds rb2 (.mapIter (some b2) since (seen.push e.born) clock) }) (by show get H.heap r=_;exact hg) rfl (hle.bl _ _ e3) rfl
      ⟨b2,cv2,sm C.σ sv k 0,hle.bl _ _ f3,SI.den_mono hle _ _ e6,d2,some k,⟨k,d1,rfl⟩,⟨since,seen.push e.born,clock,rfl,i1,by rw [hmp.clk],fun n=>?_,fun k' hk'=>?_⟩⟩
      (fun i hi=>s2 i hi) s1 (by simp) rfl rfl rfl
     ·have f1:=h4.fact (p:=hmD c (kmD kk c (.d H.nd))) (b:=true) (by rw [hmD_den (SI.den_mono hle _ _ e6) d1,hk1])
      have f2:=f1.fact (p:=hmD s (kmD kk c (.d H.nd))) (b:=false) (by rw [hmD_den (SI.den_mono hle _ _ e7) d1,hk2])
      have hT2:=Tn.of_num ρ H w1 (.c 0) i
      have hT3:Tn (ρ.setDi H.nd i) (H.num (.c 0)) w1 (ρ.setDi H.nd i) ((H.num (.c 0)).put r (.miter id c (smD s (kmD kk c (.d H.nd)) (.c 0)) (some (kmD kk c (.d H.nd))))) { w1 with heap:=w1.heap.setIfInBounds rb2 (.mapIter (some b2) since (seen.push e.born) clock) }:=
       Tn.of_put (hle.bl _ _ e3) (fun i hi=>s2 i hi) (by simp)
      refine ⟨ρ.setDi H.nd i,.value (.tuple #[.bool true,e.key,e.val]),.tuple #[.bool true,e.key,e.val],_,(((hT1.trans hT2).trans hT3).learn _ _).learn _ _,?_,.inl rfl,?_,f2⟩
      ·simp only [Sem.run_bind,hr,Result.andThen_ok,Sem.run_pure];rfl
      ·simp only [SV.Is]
       refine ⟨_,SV.isL_cons.2 ⟨_,_,rfl,by simp [SV.Is,SB.den],SV.isL_cons.2 ⟨_,_,rfl,by simp only [SV.Is];exact ⟨k,d1,q1⟩,SV.isL_cons.2 ⟨_,_,rfl,by simp only [SV.Is];exact ⟨_,gmS_den hcc h3 d1 (SI.den_mono hle _ _ e6),q2⟩,SV.isL_nil.2 rfl⟩⟩⟩,rfl⟩
     ·simp only [Array.toList_push,List.mem_append,List.mem_singleton,i3 n]
      constructor
      ·rintro (⟨k',a1,a2,a3⟩ | hn)
       ·exact ⟨k',by rw [hcc.al.hs];split<;>first | rfl | exact a1,a2,a3⟩
       ·exact ⟨k,by rw [hcc.al.hs,if_pos rfl],hk1,by rw [hn,q3]⟩
      ·rintro ⟨k',a1,a2,a3⟩
       rw [hcc.al.hs] at a1
       by_cases hkk:k'=k
       ·subst hkk;right;omega
       ·rw [if_neg hkk] at a1;exact .inl ⟨k',a1,a2,a3⟩
     ·cases hk'
      exact ⟨hk1,e.born,by simp,q3.symm⟩
    ·rename_i p hd
     exact ask_den (bdOf_ok hcc h) h.facts hall hd
   ·trivial
  ·trivial
 ·trivial
def opEntry (cc:Cc) (H:Hp) (it:SV):OpR:=
 match it with
 | .pt (.n r) (.c (.ofNat 0))=>match get H.heap r with
   | some (.miter id c s (some k))=>match get H.heap id with
     | some (.mapc kk vk c')=>bif c.beq c' then .val (.tp [.it kk k,.it vk (gmS cc H vk k c)]) H else .bad 420
     | _=>.bad 421
   | _=>.bad 422
 | _=>.bad 423
theorem opEntry_ok (hcc:cc.Ok C) (h:HpRel C hc w0 ρ H w) {it:SV} {u:Value} (hi:it.Is C.σ ρ u):(opEntry cc H it).Ok cc C hc w0 ρ H w (do pure (.value (← Instr.entry u))):=by
 unfold opEntry
 split
 ·rename_i r
  simp only [SV.Is,SI.den,Option.some.injEq] at hi
  obtain ⟨rb,n0,e1,e0,rfl⟩:=hi
  have hn0:n0=0:=by
   have:(Int.ofNat 0)=Int.ofNat n0:=e0
   injection this with this;exact this.symm
  subst hn0
  split
  ·rename_i id c s k hg
   split
   ·rename_i kk vk c' hgm
    cases hck:c.beq c' with
    | false=>trivial
    | true=>
    have:=SI.beq_eq hck;subst this
    simp only [cond_true]
    obtain ⟨rb2,o,e3,e4,b,cv,sv,e5,e6,e7,lv,⟨kv,k1,rfl⟩,hit⟩:=h.blk r _ hg rfl
    have:rb2=rb:=by simp only [SR.den] at e1;rw [e3] at e1;exact Option.some.inj e1
    subst this
    obtain ⟨since,seen,last,rfl,i1,i2,i3,i4⟩:=hit.it
    obtain ⟨b2,o2,f3,f4,cv2,l,clock,f5,hmp,rfl⟩:=h.blk id _ hgm rfl
    have:b2=b:=by rw [f3] at e5;exact Option.some.inj e5
    subst this
    have:cv2=cv:=by rw [f5] at e6;exact Option.some.inj e6
    subst this
    have hcl2:last=clock:=by have:=hmp.clk;omega
    subst hcl2
    obtain ⟨j1,n,j2,j3⟩:=i4 kv rfl
    obtain ⟨e,he,hk⟩:=(hmp.has kv).1 j1
    obtain ⟨k',q1,q2,q3⟩:=hmp.ent e he
    rw [hk] at q1
    have:=int_key_inj q1;subst this
    have hn:n=e.born:=by omega
    subst hn
    have hst:=(MapKept.stamped_iff _ _).1 hmp.st
    have hsp:seen=seen.pop.push e.born:=by
     have hne:seen.size≠0:=fun h0=>by
      have:seen=#[]:=Array.eq_empty_of_size_eq_zero h0
      rw [this] at j2;cases j2
     have hb:seen.back? = some (seen[seen.size - 1]'(by omega)):=by simp [Array.back?]
     rw [hb] at j2
     have j2':=Option.some.inj j2
     apply Array.ext
     ·simp;omega
     ·intro i h1 h2
      simp only [Array.getElem_push]
      split
      ·simp
      ·rename_i hh
       simp at hh
       have:i=seen.size - 1:=by omega
       subst this;exact j2'
    rw [hsp] at e4
    have hrun:=run_entry_at (P:=cc.P) w rb2 b2 since seen.pop l.toArray last e e4 f4 (by simpa using he) hst.2.1
    refine OpR.ok_pure h hrun ?_
    simp only [SV.Is]
    exact ⟨_,SV.isL_cons.2 ⟨_,_,rfl,by simp only [SV.Is];exact ⟨_,k1,hk⟩,SV.isL_cons.2 ⟨_,_,rfl,by simp only [SV.Is];exact ⟨_,gmS_den hcc h k1 e6,q2⟩,SV.isL_nil.2 rfl⟩⟩,rfl⟩
   ·trivial
  ·trivial
 ·trivial
end
end
end Go.Sx
