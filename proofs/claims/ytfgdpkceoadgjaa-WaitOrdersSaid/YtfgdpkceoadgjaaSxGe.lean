/- A symbolic executor: copies into arrays, what is cleared. -/
import Derived.Test.YtfgdpkceoadgjaaSxGd
namespace Go.Sx
set_option linter.unusedSectionVars false
set_option linter.unusedVariables false
set_option linter.unusedSimpArgs false
open Go.RowKit
inductive StR where
 | ok (H:Hp)
 | ask (p:SB)
 | no
noncomputable def stoB (cc:Cc) (H:Hp) (id:Nat) (j cnt c' j':SI):StR:=
 match get H.heap id with
 | some (.arr lay c n t cp)=>match dec (bdOf cc H) H.facts (.le (SI.add j cnt) cp) with
   | .yes true=>match dec (bdOf cc H) H.facts (.le (SI.add j cnt) n) with
     | .yes true=>.ok (H.put id (.arr lay (.ap 9 c j c' j' cnt (.c 0)) n t cp))
     | .yes false=>match dec (bdOf cc H) H.facts (.le j n) with
       | .yes true=>.ok (H.put id (.arr lay (.ap 9 c j c' j' cnt (.c 0)) (SI.add j cnt) t cp))
       | .yes false=>.no
       | .ask p=>.ask p
     | .ask p=>.ask p
   | .yes false=>.no
   | .ask p=>.ask p
 | _=>.no
section
variable {cc:Cc} {C:Ct} {hc:Nat→Option Obj} {w0:World} {ρ:Dyn} {H:Hp} {w:World}
theorem stoB_ask (hcc:cc.Ok C) (h:HpRel C hc w0 ρ H w) {id:Nat} {j cnt c' j':SI} {jv mv:Nat} (hj:j.den C.σ ρ=some (Int.ofNat jv)) (hm:cnt.den C.σ ρ=some (Int.ofNat mv)) {q:SB} (hs:stoB cc H id j cnt c' j'=.ask q):∃ b,q.den C.σ ρ=some b:=by
 unfold stoB at hs
 split at hs
 ·rename_i lay c n t cp hg
  obtain ⟨b,o,e1,e2,cv,nv,cpv,A,h1,h2,h3,h4⟩:=h.blk id _ hg rfl
  have hadd:=SI.add_den hj hm
  have d1:(SB.le (SI.add j cnt) cp).den C.σ ρ=some (decide (Int.ofNat jv+Int.ofNat mv≤Int.ofNat cpv)):=by simp [SB.den,hadd,h3]
  have d2:(SB.le (SI.add j cnt) n).den C.σ ρ=some (decide (Int.ofNat jv+Int.ofNat mv≤Int.ofNat nv)):=by simp [SB.den,hadd,h2]
  have d3:(SB.le j n).den C.σ ρ=some (decide (Int.ofNat jv≤Int.ofNat nv)):=by simp [SB.den,hj,h2]
  split at hs
  ·split at hs
   ·cases hs
   ·split at hs
    ·cases hs
    ·cases hs
    ·rename_i p hd;cases hs;exact ask_den (bdOf_ok hcc h) h.facts d3 hd
   ·rename_i p hd;cases hs;exact ask_den (bdOf_ok hcc h) h.facts d2 hd
  ·cases hs
  ·rename_i p hd;cases hs;exact ask_den (bdOf_ok hcc h) h.facts d1 hd
 ·cases hs
theorem blit_ar {σ:Sta} (al:ArrLaw σ) {lay:List Kd} {A:List Value} {us:List Value} {cv cv':Int} {jv jv' mv nv n2:Nat} (hlen:us.length=mv * lay.length) (hA:(jv+mv) * lay.length≤A.length)
  (ha:∀ i,i < nv→∀ (f:Nat) (κ:Kd),lay[f]? = some κ→A[i * lay.length+f]? = some (κ.val σ cv i f)) (hu:∀ i,i < mv→∀ (f:Nat) (κ:Kd),lay[f]? = some κ→us[i * lay.length+f]? = some (κ.val σ cv' (jv'+i) f))
  (hn:n2≤nv∨(jv≤nv∧n2=jv+mv)):∀ i,i < n2→∀ (f:Nat) (κ:Kd),lay[f]? = some κ→(A.take (jv * lay.length)++us++A.drop (jv * lay.length+us.length))[i * lay.length+f]? = some (κ.val σ (σ.fi 9 cv jv cv' jv' mv 0) i f):=by
 intro i hi f κ hκ
 have hf:f < lay.length:=(List.getElem?_eq_some_iff.1 hκ).1
 have e1:(jv+mv) * lay.length=jv * lay.length+mv * lay.length:=Nat.add_mul _ _ _
 rw [splice_get _ _ _ _ (by omega),al.b]
 by_cases h1:jv≤i∧i < jv+mv
 ·obtain ⟨q,rfl⟩:∃ q,i=jv+q:=⟨i - jv,by omega⟩
  have e2:(jv+q) * lay.length=jv * lay.length+q * lay.length:=Nat.add_mul _ _ _
  have e3:(q+1) * lay.length≤mv * lay.length:=Nat.mul_le_mul_right _ (by omega)
  rw [Nat.add_mul] at e3
  rw [if_pos (by omega),if_pos h1]
  have:=hu q (by omega) f κ hκ
  have e4:jv+q - jv=q:=by omega
  rw [e4,← this]
  congr 1;omega
 ·rw [if_neg h1]
  have hin:i < nv:=by omega
  have:¬ (jv * lay.length≤i * lay.length+f∧i * lay.length+f < jv * lay.length+us.length):=by
   rintro ⟨g1,g2⟩
   apply h1
   constructor
   ·apply Nat.le_of_not_lt
    intro hlt
    have:(i+1) * lay.length≤jv * lay.length:=Nat.mul_le_mul_right _ hlt
    rw [Nat.add_mul] at this;omega
   ·apply Nat.lt_of_not_le
    intro hle
    have:(jv+mv) * lay.length≤i * lay.length:=Nat.mul_le_mul_right _ hle
    omega
  rw [if_neg this]
  exact ha i hin f κ hκ
theorem stoB_ok (hcc:cc.Ok C) (h:HpRel C hc w0 ρ H w) {id b:Nat} {lay:List Kd} {c n cp:SI} {t:TypeId} (hg:get H.heap id=some (.arr lay c n t cp)) (hb:ρ.bl id=some b) {j cnt c' j':SI} {jv mv jv':Nat} {cv':Int} (hj:j.den C.σ ρ=some (Int.ofNat jv)) (hm:cnt.den C.σ ρ=some (Int.ofNat mv))
  (hc':c'.den C.σ ρ=some cv') (hj':j'.den C.σ ρ=some (Int.ofNat jv')) {us:List Value} (hlen:us.length=mv * lay.length) (hu:∀ i,i < mv→∀ (f:Nat) (κ:Kd),lay[f]? = some κ→us[i * lay.length+f]? = some (κ.val C.σ cv' (jv'+i) f)) (hone:∀ u∈us,u.oneCell'=true)
  {H':Hp} (hs:stoB cc H id j cnt c' j'=.ok H'):∃ w',(storeCells ⟨b,jv * lay.length,none⟩ us 0).run cc.P w=.ok () w'∧Tn ρ H w ρ H' w'∧HpRel C hc w0 ρ H' w':=by
 obtain ⟨b',o,e1,e2,cv,nv,cpv,A,h1,h2,h3,h4,h5,h6,rfl⟩:=h.blk id _ hg rfl
 have:b'=b:=by rw [e1] at hb;exact Option.some.inj hb
 subst this
 have hadd:=SI.add_den hj hm
 have hAl:A.toList.length=A.size:=by simp
 have done:jv+mv≤cpv→∀ (n2:SI) (nv2:Nat),n2.den C.σ ρ=some (Int.ofNat nv2)→nv2≤cpv→(nv2≤nv∨(jv≤nv∧nv2=jv+mv))→
   ∃ w',(storeCells ⟨b',jv * lay.length,none⟩ us 0).run cc.P w=.ok () w'∧Tn ρ H w ρ (H.put id (.arr lay (.ap 9 c j c' j' cnt (.c 0)) n2 t cp)) w'∧HpRel C hc w0 ρ (H.put id (.arr lay (.ap 9 c j c' j' cnt (.c 0)) n2 t cp)) w':=by
  intro hroom n2 nv2 hn2 hc2 hor
  have hmul:(jv+mv) * lay.length≤cpv * lay.length:=Nat.mul_le_mul_right _ hroom
  have hsp:(jv+mv) * lay.length=jv * lay.length+mv * lay.length:=Nat.add_mul _ _ _
  have hst:=run_storeCells_at (P:=cc.P) b' (jv * lay.length) t us 0 A w e2 (by simp;omega) hone
  rw [Nat.add_zero] at hst
  have hbk:(Bk.arr lay (.ap 9 c j c' j' cnt (.c 0)) n2 t cp).Is C.σ ρ (.cells (A.toList.take (jv * lay.length)++us++A.toList.drop (jv * lay.length+us.length)).toArray t (0,0)):=by
   refine ⟨C.σ.fi 9 cv jv cv' jv' mv 0,nv2,cpv,_,?_,hn2,h3,hc2,?_,?_,rfl⟩
   ·simp only [SI.den,h1,hj,hc',hj',hm,Option.bind_some];rfl
   ·simp only [List.size_toArray]
    rw [splice_length _ _ _ (by rw [hAl,h5];omega),hAl,h5]
   ·have:=blit_ar hcc.al (A:=A.toList) (us:=us) (cv:=cv) (cv':=cv') (jv:=jv) (jv':=jv') (mv:=mv) (nv:=nv) (n2:=nv2) hlen (by rw [hAl,h5];omega) (fun i hi f κ hκ=>by
     have:=h6 i hi f κ hκ
     rw [Nat.zero_add] at this
     rw [Array.getElem?_toList];exact this) hu hor
    intro i hi f κ hκ
    have:=this i hi f κ hκ
    rw [Nat.zero_add]
    simpa using this
  refine ⟨_,hst,Tn.of_put e1 (fun i hi=>setRow_other _ _ _ _ hi) (by simp),h.put hg rfl (b:=b') e1 rfl hbk (fun i hi=>setRow_other _ _ _ _ hi) (setRow_heap _ _ _ _ _ _ e2) (by simp) rfl rfl rfl⟩
 unfold stoB at hs
 rw [hg] at hs
 dsimp only at hs
 have d1:(SB.le (SI.add j cnt) cp).den C.σ ρ=some (decide (Int.ofNat jv+Int.ofNat mv≤Int.ofNat cpv)):=by simp [SB.den,hadd,h3]
 have d2:(SB.le (SI.add j cnt) n).den C.σ ρ=some (decide (Int.ofNat jv+Int.ofNat mv≤Int.ofNat nv)):=by simp [SB.den,hadd,h2]
 have d3:(SB.le j n).den C.σ ρ=some (decide (Int.ofNat jv≤Int.ofNat nv)):=by simp [SB.den,hj,h2]
 have nat:∀ {a b:Nat},(Int.ofNat a≤Int.ofNat b)→a≤b:=fun hh=>Int.ofNat_le.1 hh
 split at hs
 ·rename_i q1
  have r1:=dec_ok (bdOf_ok hcc h) h.facts d1 q1
  have r1:jv+mv≤cpv:=nat (by simpa using r1.symm)
  split at hs
  ·cases hs
   exact done r1 n nv h2 h4 (.inl (Nat.le_refl _))
  ·rename_i q2
   split at hs
   ·rename_i q3
    cases hs
    have r3:=dec_ok (bdOf_ok hcc h) h.facts d3 q3
    have r3:jv≤nv:=nat (by simpa using r3.symm)
    exact done r1 _ (jv+mv) hadd r1 (.inr ⟨r3,rfl⟩)
   ·cases hs
   ·cases hs
  ·cases hs
 ·cases hs
 ·cases hs
noncomputable def opCopy (cc:Cc) (H:Hp) (ts:Array TypeId) (xs:List SV):OpR:=
 match lnth ts.toList 0,xs with
 | some t,[.sl (.n id) o dl dc,s]=>match cc.P.underlying t,get H.heap id with
   | some (.slice e),some (.arr lay _ _ _ _)=>match cc.P.info? e,splitA none (llen lay) o,viewA cc H lay s with
     | some i,some (j,f),.ok c' j' m=>bif Nat.beq f 0 && (Nat.blt 0 (llen lay) && Nat.beq (llen lay) i.size) then
       (match dec (bdOf cc H) H.facts (.le m dl) with
       | .yes true=>(match stoB cc H id j m c' j' with | .ok H'=>.val (.it .i64 m) H' | .ask p=>.ask p | .no=>.bad 351)
       | .yes false=>(match stoB cc H id j dl c' j' with | .ok H'=>.val (.it .i64 dl) H' | .ask p=>.ask p | .no=>.bad 352)
       | .ask p=>.ask p) else .bad 353
     | some _,some _,.ask p=>bif Nat.blt 0 (llen lay) then .ask p else .bad 357
     | _,_,_=>.bad 354
   | _,_=>.bad 355
 | _,_=>.bad 356
theorem run_copy {P:Program} {w w':World} {ts:Array TypeId} (t ty e:TypeId) (h0:ts[0]? = some t) (i:TypeInfo) (ht:P.underlying t=some (.slice e)) (hi:P.info? e=some i) (b k n cap:Nat) (a:Option Addr) (m c q:Nat) (us:List Value) (hq:q=min m n)
  (hf:(Builtin.firstCells i.size q (.slice a m c)).run P w=.ok us.toArray w) (hst:(storeCells ⟨b,k,none⟩ us 0).run P w=.ok () w') :
  (Builtin.copy_ ts ty #[.slice (some ⟨b,k,none⟩) n cap,.slice a m c]).run P w=.ok (.int .i64 q) w':=by
 subst hq
 simp [Builtin.copy_,h0,run_underlying ht,sizeOf,typeInfo,hi,Builtin.lenOf,hf,hst,goInt]
theorem opCopy_ok (hcc:cc.Ok C) (h:HpRel C hc w0 ρ H w) {ts:Array TypeId} {ty:TypeId} {xs:List SV} {us:List Value} (hx:SV.IsL C.σ ρ xs us):(opCopy cc H ts xs).Ok cc C hc w0 ρ H w (do pure (.value (← Builtin.copy_ ts ty us.toArray))):=by
 unfold opCopy
 split
 ·rename_i t id o dl dc s ht
  rw [lnth_eq] at ht
  have h0:ts[0]? = some t:=by simpa using ht
  rw [SV.isL_cons] at hx
  obtain ⟨u,r,rfl,hd,h2⟩:=hx
  rw [SV.isL_cons] at h2
  obtain ⟨v,r',rfl,hs,h3⟩:=h2
  rw [SV.isL_nil] at h3
  subst h3
  simp only [SV.Is] at hd
  obtain ⟨b,k,len,cap,e1,e2,e3,e4,rfl⟩:=hd
  simp only [SR.den] at e1
  split
  ·rename_i e lay c n t' cp hu hg
   split
   ·rename_i i j f c' j' m hi hsp hv
    cases hck:(Nat.beq f 0 && (Nat.blt 0 (llen lay) && Nat.beq (llen lay) i.size)) with
    | false=>trivial
    | true=>
      simp only [Bool.and_eq_true] at hck
      obtain ⟨q1,q2,q3⟩:=hck
      rw [llen_eq] at q2 q3
      have q1:=Nat.eq_of_beq_eq_true q1
      subst q1
      have hlay:0 < lay.length:=by simpa [Nat.blt_eq] using q2
      have hli:=Nat.eq_of_beq_eq_true q3
      rw [llen_eq] at hsp
      obtain ⟨y,hy,hk⟩:=splitA_ok (bn:=0) rfl hsp e2
      have hy0:0≤y:=by
       have h1:(0:Int)≤y * lay.length:=by
        have:(Int.ofNat k)=(k:Int):=rfl
        omega
       rcases Int.lt_or_le y 0 with hlt | hge
       ·have:=Int.mul_neg_of_neg_of_pos hlt (show (0:Int) < lay.length by omega);omega
       ·exact hge
      obtain ⟨jv,rfl⟩:∃ jv:Nat,y=Int.ofNat jv:=⟨y.toNat,by show y=(y.toNat:Int);omega⟩
      have hk':k=jv * lay.length:=by
       have:(k:Int)=(jv:Int) * lay.length:=by
        have e:(Int.ofNat k)=(k:Int):=rfl
        have e':(Int.ofNat jv)=(jv:Int):=rfl
        rw [e,e'] at hk;omega
       exact_mod_cast this
      have hvw:=viewA_ok hcc h hlay hs
      rw [hv] at hvw
      obtain ⟨aS,capS,mv,cv',jv',vs,rfl,g1,g2,g3,g4,g5,g6,g7⟩:=hvw
      have hone:=VwOk.one g4 g5 hlay
      have hle:(SB.le m dl).den C.σ ρ=some (decide (Int.ofNat mv≤Int.ofNat len)):=by simp [SB.den,g3,e3]
      have main:∀ (cnt:SI) (qv:Nat),cnt.den C.σ ρ=some (Int.ofNat qv)→qv=min mv len→∀ H',stoB cc H id j cnt c' j'=.ok H'→(OpR.val (.it .i64 cnt) H').Ok cc C hc w0 ρ H w (do pure (.value (← Builtin.copy_ ts ty [.slice (some ⟨b,k,none⟩) len cap,.slice aS mv capS].toArray))):=by
       intro cnt qv hcnt hq H' hst
       have hqm:qv≤mv:=by omega
       have hmul:qv * lay.length≤mv * lay.length:=Nat.mul_le_mul_right _ hqm
       have hl1:(vs.take (qv * lay.length)).length=qv * lay.length:=by rw [List.length_take];omega
       obtain ⟨w',s1,s2,s3⟩:=stoB_ok hcc h hg e1 hy hcnt g1 g2 (us:=vs.take (qv * lay.length)) hl1 (fun i' hi' f κ hκ=>by
        have hf:=(List.getElem?_eq_some_iff.1 hκ).1
        have:(i'+1) * lay.length≤qv * lay.length:=Nat.mul_le_mul_right _ hi'
        rw [Nat.add_mul] at this
        rw [List.getElem?_take,if_pos (by omega)]
        exact g5 i' (by omega) f κ hκ) (fun u hu=>hone u (List.mem_of_mem_take hu)) hst
       have hf:(Builtin.firstCells i.size qv (.slice aS mv capS)).run cc.P w=.ok (vs.take (qv * lay.length)).toArray w:=by
        cases aS with
        | none=>
          by_cases hq0:qv=0
          ·subst hq0;simp [Builtin.firstCells]
          ·exfalso
           have:=g7 w rfl
           simp [Builtin.firstCells] at this
           have hv0:vs=[]:=this
           rw [hv0] at g4
           have:0 < mv * lay.length:=Nat.mul_pos (by omega) hlay
           simp at g4;omega
        | some aa=>
          rw [← hli]
          exact run_firstCells_some w lay.length qv aa mv capS _ hl1 fun p v hp=>by
           rw [List.getElem?_take] at hp
           split at hp
           ·exact g6 aa rfl p v hp
           ·cases hp
       rw [hk']
       refine ⟨ρ,.value (.int .i64 qv),.int .i64 qv,w',s2,?_,.inl rfl,?_,s3⟩
       ·have:=run_copy (ty:=ty) t e h0 i hu hi b (jv * lay.length) len cap aS mv capS qv _ hq hf s1
        simp [this]
       ·simp only [SV.Is];exact ⟨_,hcnt,rfl⟩
      dsimp only [cond_true]
      split
      ·rename_i hd
       have:=dec_ok (bdOf_ok hcc h) h.facts hle hd
       have hml:mv≤len:=Int.ofNat_le.1 (by simpa using this.symm)
       split
       ·rename_i H' hst;exact main m mv g3 (by omega) H' hst
       ·rename_i p hst;exact stoB_ask hcc h hy g3 hst
       ·trivial
      ·rename_i hd
       have:=dec_ok (bdOf_ok hcc h) h.facts hle hd
       have hml:¬ mv≤len:=fun hh=>by
        have:¬ (Int.ofNat mv≤Int.ofNat len):=by simpa using this.symm
        exact this (Int.ofNat_le.2 hh)
       split
       ·rename_i H' hst;exact main dl len e3 (by omega) H' hst
       ·rename_i p hst;exact stoB_ask hcc h hy e3 hst
       ·trivial
      ·rename_i p hd
       exact ask_den (bdOf_ok hcc h) h.facts hle hd
   ·rename_i i j f p hi hsp hv
    cases hb:Nat.blt 0 (llen lay) with
    | false=>trivial
    | true=>
      rw [llen_eq] at hb
      have hvw:=viewA_ok hcc h (lay:=lay) (by simpa [Nat.blt_eq] using hb) hs
      rw [hv] at hvw;exact hvw
   ·trivial
  ·trivial
 ·trivial
def zc1 (κ:Kd) (v:Value):Bool:=match κ,v with
 | .nt k,.int k' n=>keq k k' && ieq n 0
 | .tv,.bool b=>!b
 | _,_=>false
theorem zc1_ok {κ:Kd} {v:Value} (h:zc1 κ v=true):v=κ.of 0:=by
 unfold zc1 at h
 split at h
 ·rename_i k k' n
  rw [Bool.and_eq_true] at h
  have:=keq_eq h.1;subst this
  have:=ieq_iff.1 h.2;subst this
  have hw:k.wrap 0=0:=wrap_in k 0 (by cases k<;>decide) (by cases k<;>decide)
  show _=Value.int k (k.wrap 0)
  rw [hw]
 ·rename_i b
  cases b with
  | true=>cases h
  | false=>rfl
 ·cases h
noncomputable def zcs (lay:List Kd):List Value→Bool:=
 List.rec (motive:=fun _=>List Value→Bool) (fun l=>match l with | []=>true | _=>false) (fun κ _ ih l=>match l with | v::r=>bif zc1 κ v then ih r else false | []=>false) lay
theorem zcs_ok:∀ {lay:List Kd} {l:List Value},zcs lay l=true→l.length=lay.length∧∀ (f:Nat) (κ:Kd),lay[f]? = some κ→l[f]? = some (κ.of 0)
 | [],[],_=>⟨rfl,fun f κ h=>by simp at h⟩
 | [],_::_,h=>by cases h
 | _::_,[],h=>by cases h
 | κ0::lay,v::l,h=>by
   have h':(bif zc1 κ0 v then zcs lay l else false)=true:=h
   rw [cond_true_iff] at h'
   obtain ⟨e1,e2⟩:=zcs_ok h'.2
   refine ⟨by simp [e1],fun f κ hf=>?_⟩
   cases f with
   | zero=>simp at hf;subst hf;rw [zc1_ok h'.1];rfl
   | succ f=>simpa using e2 f κ (by simpa using hf)
theorem zero_cells {lay:List Kd} {z:Array Value} {n:Nat} (h:zcs lay z.toList=true) (hlay:0 < lay.length) :
  (Builtin.zeroCells z n).toList.length=n * lay.length∧(∀ i,i < n→∀ (f:Nat) (κ:Kd),lay[f]? = some κ→(Builtin.zeroCells z n).toList[i * lay.length+f]? = some (κ.of 0))∧∀ u∈(Builtin.zeroCells z n).toList,u.oneCell'=true:=by
 obtain ⟨e1,e2⟩:=zcs_ok h
 have hs:z.size=lay.length:=by simpa using e1
 have hget:∀ i,i < n→∀ (f:Nat) (κ:Kd),lay[f]? = some κ→(Builtin.zeroCells z n).toList[i * lay.length+f]? = some (κ.of 0):=by
  intro i hi f κ hκ
  have hf:=(List.getElem?_eq_some_iff.1 hκ).1
  have hb:(i+1) * lay.length≤n * lay.length:=Nat.mul_le_mul_right _ hi
  rw [Nat.add_mul] at hb
  obtain ⟨h1,h2⟩:=row_split (i:=i) hf
  have:=e2 f κ hκ
  rw [Array.getElem?_toList] at this ⊢
  simp only [Builtin.zeroCells,hs,Array.getElem?_map]
  rw [Array.getElem?_range,if_pos (by omega)]
  simp only [Option.map_some,h2]
  rw [getElem!_def,this]
 refine ⟨by simp [size_zeroCells,hs],hget,fun u hu=>?_⟩
 obtain ⟨p,hp⟩:=List.getElem?_of_mem hu
 have hlt:p < n * lay.length:=by
  have:=(List.getElem?_eq_some_iff.1 hp).1
  simpa [size_zeroCells,hs] using this
 have hm:=Nat.mod_lt p hlay
 have hκ:=List.getElem?_eq_getElem hm
 have:=hget (p / lay.length) (Nat.div_lt_of_lt_mul (by rw [Nat.mul_comm];exact hlt)) _ _ hκ
 have hd:=Nat.div_add_mod p lay.length
 rw [Nat.mul_comm,hd,hp] at this
 cases this
 generalize lay[p % lay.length]=κ
 cases κ<;>rfl
noncomputable def opClear (cc:Cc) (H:Hp) (ts:Array TypeId) (xs:List SV):OpR:=
 match lnth ts.toList 0,xs with
 | some t,[.sl (.n id) o l dc]=>match cc.P.underlying t,get H.heap id with
   | some (.slice e),some (.arr lay _ _ _ _)=>match cc.P.info? e,splitA none (llen lay) o with
     | some i,some (j,f)=>match i.zero with
       | some z=>bif Nat.beq f 0 && (Nat.blt 0 (llen lay) && (Nat.beq (llen lay) i.size && zcs lay z.cells.toList)) then
         (match stoB cc H id j l (.c 0) (.c 0) with | .ok H'=>.val (.tp []) H' | .ask p=>.ask p | .no=>.bad 361)
         else .bad 362
       | none=>.bad 363
     | _,_=>.bad 364
   | _,_=>.bad 365
 | _,_=>.bad 366
theorem run_clear {P:Program} {w w':World} {ts:Array TypeId} (t ty e:TypeId) (h0:ts[0]? = some t) (i:TypeInfo) (z:Value) (ht:P.underlying t=some (.slice e)) (hi:P.info? e=some i) (hz:i.zero=some z) (b k n cap:Nat)
  (hst:(storeCells ⟨b,k,none⟩ (Builtin.zeroCells z.cells n).toList 0).run P w=.ok () w') :
  (Builtin.clear_ ts ty #[.slice (some ⟨b,k,none⟩) n cap]).run P w=.ok (.tuple #[]) w':=by
 cases n with
 | zero=>
   have e:(Builtin.zeroCells z.cells 0).toList=[]:=by simp [Builtin.zeroCells]
   rw [e] at hst
   have hw:w'=w:=by simp [storeCells] at hst;exact hst.symm
   subst hw
   simp [Builtin.clear_,h0,run_underlying ht]
 | succ n=>
   simp [Builtin.clear_,h0,run_underlying ht,zeroValue,typeInfo,hi,hz,hst]
theorem opClear_ok (hcc:cc.Ok C) (h:HpRel C hc w0 ρ H w) {ts:Array TypeId} {ty:TypeId} {xs:List SV} {us:List Value} (hx:SV.IsL C.σ ρ xs us):(opClear cc H ts xs).Ok cc C hc w0 ρ H w (do pure (.value (← Builtin.clear_ ts ty us.toArray))):=by
 unfold opClear
 split
 ·rename_i t id o l dc ht
  rw [lnth_eq] at ht
  have h0:ts[0]? = some t:=by simpa using ht
  rw [SV.isL_cons] at hx
  obtain ⟨u,r,rfl,hd,h2⟩:=hx
  rw [SV.isL_nil] at h2
  subst h2
  simp only [SV.Is] at hd
  obtain ⟨b,k,len,cap,e1,e2,e3,e4,rfl⟩:=hd
  simp only [SR.den] at e1
  split
  ·rename_i e lay c n t' cp hu hg
   split
   ·rename_i i j f hi hsp
    split
    ·rename_i z hz
     cases hck:(Nat.beq f 0 && (Nat.blt 0 (llen lay) && (Nat.beq (llen lay) i.size && zcs lay z.cells.toList))) with
     | false=>trivial
     | true=>
       simp only [Bool.and_eq_true] at hck
       obtain ⟨q1,q2,q3,q4⟩:=hck
       rw [llen_eq] at q2 q3
       have q1:=Nat.eq_of_beq_eq_true q1
       subst q1
       have hlay:0 < lay.length:=by simpa [Nat.blt_eq] using q2
       rw [llen_eq] at hsp
       obtain ⟨y,hy,hk⟩:=splitA_ok (bn:=0) rfl hsp e2
       have hy0:0≤y:=by
        have h1:(0:Int)≤y * lay.length:=by
         have:(Int.ofNat k)=(k:Int):=rfl
         omega
        rcases Int.lt_or_le y 0 with hlt | hge
        ·have:=Int.mul_neg_of_neg_of_pos hlt (show (0:Int) < lay.length by omega);omega
        ·exact hge
       obtain ⟨jv,rfl⟩:∃ jv:Nat,y=Int.ofNat jv:=⟨y.toNat,by show y=(y.toNat:Int);omega⟩
       have hk':k=jv * lay.length:=by
        have:(k:Int)=(jv:Int) * lay.length:=by
         have e:(Int.ofNat k)=(k:Int):=rfl
         have e':(Int.ofNat jv)=(jv:Int):=rfl
         rw [e,e'] at hk;omega
        exact_mod_cast this
       obtain ⟨z1,z2,z3⟩:=zero_cells (z:=z.cells) (n:=len) q4 hlay
       dsimp only [cond_true]
       split
       ·rename_i H' hst
        obtain ⟨w',s1,s2,s3⟩:=stoB_ok hcc h hg e1 hy e3 (c':=.c 0) (j':=.c 0) (cv':=0) (jv':=0) rfl rfl z1 (fun i' hi' f κ hκ=>by rw [hcc.al.z];exact z2 i' hi' f κ hκ) z3 hst
        rw [hk']
        refine ⟨ρ,.value (.tuple #[]),.tuple #[],w',s2,?_,.inl rfl,?_,s3⟩
        ·have:=run_clear (ty:=ty) t e h0 i z hu hi hz b (jv * lay.length) len cap s1
         simp [this]
        ·simp only [SV.Is];exact ⟨[],by simp [SV.IsL],rfl⟩
       ·rename_i p hst;exact stoB_ask hcc h hy e3 hst
       ·trivial
    ·trivial
   ·trivial
  ·trivial
 ·trivial
end
end Go.Sx
