/- A symbolic executor: calls, values put together; all operations in one. -/
import Derived.Test.YtfgdpkceoadgjaaSxGg
namespace Go.Sx
set_option linter.unusedSectionVars false
set_option linter.unusedVariables false
set_option linter.unusedSimpArgs false
open Go.RowKit
section
variable {cc:Cc} {C:Ct} {hc:Nat→Option Obj} {w0:World} {ρ ρ':Dyn} {H:Hp} {w:World}
noncomputable def evPs (T:List (Nat×SV)) (ps:Array (Nat×Operand)):List (Nat×SV):=lmap (fun p=>(p.1,ev T p.2)) ps.toList
theorem evPs_is {T:List (Nat×SV)} {e:Operand→Value} (h:EvOk C ρ T e) (ps:Array (Nat×Operand)):PartsRel C.σ ρ (evPs T ps) (ps.map fun (i,x)=>(i,e x)).toList:=by
 unfold evPs
 rw [lmap_eq,Array.toList_map]
 generalize ps.toList=l
 induction l with
 | nil=>simp [PartsRel]
 | cons a l ih=>exact ⟨e a.2,_,rfl,h a.2,ih⟩
noncomputable def placeS (cc:Cc) (fs:Array Field) (i:Nat):Option (Nat×Nat):=
 match lnth fs.toList i with
 | some f=>some (f.offset,cc.P.cellsOf f.type)
 | none=>none
noncomputable def opBuild (cc:Cc) (H:Hp) (t:TypeId) (ps:List (Nat×SV)):OpR:=
 match cc.P.underlying t,zeroCs cc t with
 | some (.struct fs),some z=>match lall (fun f=>(cc.P.info? f.type).isSome) fs.toList,sfill (placeS cc fs) z ps with
   | true,some l=>.val (.ag l) H
   | _,_=>.bad 70
 | some (.array _ e),some z=>match aggOf cc.P e with
   | some (_,sz)=>match sfill (fun i=>some (Nat.mul i sz,sz)) z ps with
     | some l=>.val (.ag l) H
     | none=>.bad 71
   | none=>.bad 72
 | _,_=>.bad 73
theorem run_placesS {fs:Array Field} (hfs:lall (fun f=>(cc.P.info? f.type).isSome) fs.toList=true) (w:World) :
  (fs.mapM (fun f=>do pure (f.offset,← sizeOf f.type):Field→Sem (Nat×Nat))).run cc.P w=.ok (fs.map fun f=>(f.offset,cc.P.cellsOf f.type)) w:=by
 have key:∀ l:List Field,(∀ f∈l,(cc.P.info? f.type).isSome=true)→(l.mapM (fun f=>do pure (f.offset,← sizeOf f.type):Field→Sem (Nat×Nat))).run cc.P w=.ok (l.map fun f=>(f.offset,cc.P.cellsOf f.type)) w:=by
  intro l
  induction l with
  | nil=>intro _;simp
  | cons f l ih=>
    intro hl
    have h1:=hl f (by simp)
    obtain ⟨i,hi⟩:=Option.isSome_iff_exists.1 h1
    have h2:=ih fun g hg=>hl g (by simp [hg])
    simp [List.mapM_cons,sizeOf,typeInfo,hi,h2,Program.cellsOf]
    simp [sizeOf,typeInfo] at h2
    simp [h2,Program.cellsOf]
 have:=key fs.toList (lall_iff.1 hfs)
 rw [Array.mapM_eq_mapM_toList]
 simp only [Sem.run_map,this,Result.andThen_ok]
 congr 1
 apply Array.ext'
 simp
theorem opBuild_ok (hcc:cc.Ok C) (h:HpRel C hc w0 ρ H w) {t:TypeId} {ps:List (Nat×SV)} {vs:Array (Nat×Value)} (hp:PartsRel C.σ ρ ps vs.toList):(opBuild cc H t ps).Ok cc C hc w0 ρ H w (do pure (.value (← Instr.build t vs))):=by
 unfold opBuild
 split
 ·rename_i fs z hu hz
  split
  ·rename_i l hfs hl
   obtain ⟨zv,e1,e2⟩:=zeroCs_ok (C:=C) (ρ:=ρ) hz w
   have hpl:(fun i=>(fs.map fun f=>(f.offset,cc.P.cellsOf f.type))[i]?)=placeS cc fs:=by
    funext i
    simp only [placeS,lnth_eq,Array.getElem?_map,Array.getElem?_toList]
    cases fs[i]? <;> rfl
   obtain ⟨B,e3,e4⟩:=sfill_ok e2 hp hl
   refine OpR.ok_pure h (u:=.agg B) ?_ (by simp only [SV.Is];exact ⟨B.toList,e4,by simp⟩)
   have hpl2:=run_placesS hfs w
   simp only [Instr.build,Sem.run_bind,e1,Result.andThen_ok,underlying,run_program,hu,Sem.run_pure,hpl2,hpl,e3]
  ·trivial
 ·rename_i n e z hu hz
  split
  ·rename_i g sz ha
   split
   ·rename_i l hl
    obtain ⟨zv,e1,e2⟩:=zeroCs_ok (C:=C) (ρ:=ρ) hz w
    obtain ⟨B,e3,e4⟩:=sfill_ok e2 hp hl
    obtain ⟨_,h2,_⟩:=aggOf_ok ha w
    have e3':Instr.fill (fun i=>some (i * sz,sz)) zv.cells vs.toList=some B:=e3
    refine OpR.ok_pure h (u:=.agg B) ?_ (by simp only [SV.Is];exact ⟨B.toList,e4,by simp⟩)
    simp only [Instr.build,Sem.run_bind,e1,Result.andThen_ok,underlying,run_program,hu,Sem.run_pure,h2,e3']
   ·trivial
  ·trivial
 ·trivial
noncomputable def lrep {α:Type} (n:Nat) (a:α):List α:=Nat.rec (motive:=fun _=>List α) [] (fun _ ih=>a::ih) n
theorem lrep_eq {α:Type} (n:Nat) (a:α):lrep n a=List.replicate n a:=by
 induction n with
 | zero=>rfl
 | succ n ih=>show a::lrep n a=_;rw [ih];rfl
theorem isL_any:∀ (us:List Value),SV.IsL C.σ ρ (List.replicate us.length .any) us
 | []=>by simp [SV.isL_nil]
 | u::us=>SV.isL_cons.2 ⟨u,us,rfl,by simp [SV.Is],isL_any us⟩
noncomputable def opBuildSlice (cc:Cc) (H:Hp) (t:TypeId) (len:Nat) (ps:List (Nat×SV)):OpR:=
 match cc.P.underlying t with
 | some (.slice e)=>match aggOf cc.P e,zeroCs cc e with
   | some (_,sz),some _=>bif Nat.ble (Nat.mul len sz) 16777216 then (match sfill (fun i=>some (Nat.mul i sz,sz)) (lrep (Nat.mul len sz) .any) ps with
     | some l=>.val (.sl (.n H.nb) (.c 0) (.c (.ofNat len)) (.c (.ofNat len))) (H.alloc (.cells l e))
     | none=>.bad 74) else .bad 75
   | _,_=>.bad 76
 | _=>.bad 77
theorem opBuildSlice_ok (h:HpRel C hc w0 ρ H w) {t:TypeId} {len:Nat} {ps:List (Nat×SV)} {vs:Array (Nat×Value)} (hp:PartsRel C.σ ρ ps vs.toList):(opBuildSlice cc H t len ps).Ok cc C hc w0 ρ H w (do pure (.value (← Instr.buildSlice t len vs))):=by
 unfold opBuildSlice
 split
 ·rename_i e hu
  split
  ·rename_i g sz z ha hz
   cases hb:Nat.ble (Nat.mul len sz) 16777216 with
   | false=>trivial
   | true=>
     have hle:len * sz≤16777216:=Nat.le_of_ble_eq_true hb
     dsimp only [cond_true]
     split
     ·rename_i l hl
      obtain ⟨zv,e1,_⟩:=zeroCs_ok (C:=C) (ρ:=ρ) hz w
      obtain ⟨_,h2,_⟩:=aggOf_ok ha w
      have hany:∀ z:Array Value,SV.IsL C.σ ρ (lrep (Nat.mul len sz) .any) ((Array.range (len * sz)).map (fun i=>z[i % z.size]!)).toList:=by
       intro z
       rw [lrep_eq]
       have:=isL_any (C:=C) (ρ:=ρ) ((Array.range (len * sz)).map (fun i=>z[i % z.size]!)).toList
       simpa using this
      obtain ⟨B,e3,e4⟩:=sfill_ok (hany (if len * sz=0 then #[] else zv.cells)) hp hl
      have e3':Instr.fill (fun i=>some (i * sz,sz)) ((Array.range (len * sz)).map (fun i=>(if len * sz=0 then #[] else zv.cells)[i % (if len * sz=0 then #[] else zv.cells).size]!)) vs.toList=some B:=e3
      have hle2:=h.le_alloc w.heap.size
      refine ⟨ρ.setBl H.nb w.heap.size,.value (.slice (some ⟨w.heap.size,0,none⟩) len len),.slice (some ⟨w.heap.size,0,none⟩) len len,w.alloc (.cells B e),Tn.of_alloc ρ H w _ _,?_,.inl rfl,?_,?_⟩
      ·simp only [Instr.buildSlice,Sem.run_bind,Result.andThen_ok,underlying,run_program,hu,Sem.run_pure,h2]
       rw [if_neg (by omega)]
       by_cases h0:len * sz=0
       ·simp only [h0,if_true,Sem.run_pure,Result.andThen_ok] at e3' ⊢
        simp only [e3',newRow,Sem.run_bind,run_newObj,Result.andThen_ok,Sem.run_pure]
        rfl
       ·simp only [h0,if_false,Sem.run_pure,Result.andThen_ok,Sem.run_bind,e1] at e3' ⊢
        simp only [e3',newRow,Sem.run_bind,run_newObj,Result.andThen_ok,Sem.run_pure]
        rfl
      ·simp only [SV.Is,SR.den];exact ⟨_,0,len,len,Dyn.setBl_same _ _ _,rfl,rfl,rfl,rfl⟩
      ·exact h.alloc' ⟨B.toList,SV.isL_mono hle2 _ _ e4,by simp⟩
     ·trivial
  ·trivial
 ·trivial
noncomputable def opUn (cc:Cc) (H:Hp) (op:UnOp) (x:SV):OpR:=
 match op,x with
 | .not,.bo p=>.val (.bo (nrm cc H (.not p))) H
 | .neg,.it k a=>.val (.it k (SI.wr (bdOf cc H) k (SI.sub (.c 0) a))) H
 | .xor,.it k a=>.val (.it k (SI.bop (.bxor k) (.c (bif k.signed then -1 else kmax k)) a)) H
 | _,_=>.bad 80
theorem opUn_ok (hcc:cc.Ok C) (h:HpRel C hc w0 ρ H w) {op:UnOp} {x:SV} {u:Value} (hx:x.Is C.σ ρ u):(opUn cc H op x).Ok cc C hc w0 ρ H w (do pure (.value (← Op.unary op u))):=by
 unfold opUn
 split
 ·rename_i p
  simp only [SV.Is] at hx
  obtain ⟨b,e1,rfl⟩:=hx
  exact OpR.ok_pure h (u:=.bool !b) (by simp [Op.unary]) (by simp only [SV.Is];exact ⟨!b,nrm_den hcc h (by simp [SB.den,e1]),rfl⟩)
 ·rename_i k a
  simp only [SV.Is] at hx
  obtain ⟨n,e1,rfl⟩:=hx
  exact OpR.ok_pure h (u:=.int k (k.wrap (0 - n))) (by simp [Op.unary,Op.intArith]) (by simp only [SV.Is];exact ⟨_,SI.wr_den (bdOf_ok hcc h) (SI.sub_den rfl e1),rfl⟩)
 ·rename_i k a
  simp only [SV.Is] at hx
  obtain ⟨n,e1,rfl⟩:=hx
  refine OpR.ok_pure h (u:=.int k (IB.eval (.bxor k) (if k.signed then -1 else k.max) n)) (by simp [Op.unary,Op.intBits,IB.eval]) ?_
  simp only [SV.Is]
  refine ⟨_,SI.bop_den (f:=.bxor k) (a:=if k.signed then -1 else k.max) ?_ e1,rfl⟩
  rw [← kmax_eq]
  cases k.signed<;>rfl
 ·trivial
noncomputable def opConv (cc:Cc) (H:Hp) (s d:TypeId) (x:SV):OpR:=
 match cc.P.underlying s,cc.P.underlying d,x with
 | some _,some (.int k),.it _ a=>.val (.it k (SI.wr (bdOf cc H) k a)) H
 | some .string,some .string,.st a=>.val (.st a) H
 | _,_,_=>.bad 81
theorem opConv_ok (hcc:cc.Ok C) (h:HpRel C hc w0 ρ H w) {s d:TypeId} {x:SV} {u:Value} (hx:x.Is C.σ ρ u):(opConv cc H s d x).Ok cc C hc w0 ρ H w (do pure (.value (← convert s d u))):=by
 unfold opConv
 split
 ·rename_i ds k k' a hs hd
  simp only [SV.Is] at hx
  obtain ⟨n,e1,rfl⟩:=hx
  refine OpR.ok_pure h (u:=.int k (k.wrap n)) ?_ (by simp only [SV.Is];exact ⟨_,SI.wr_den (bdOf_ok hcc h) e1,rfl⟩)
  simp only [convert,underlying,Sem.run_bind,run_program,Result.andThen_ok,hs,hd,Sem.run_pure,Conv.intToInt]
 ·rename_i a hs hd
  simp only [SV.Is] at hx
  subst hx
  refine OpR.ok_pure h (u:=.string (a.den C.σ)) ?_ (by simp [SV.Is])
  simp only [convert,underlying,Sem.run_bind,run_program,Result.andThen_ok,hs,hd,Sem.run_pure]
 ·trivial
noncomputable def opExtract (H:Hp) (x:SV) (i:Nat):OpR:=
 match x with
 | .tp l=>match lnth l i with
   | some z=>.val z H
   | none=>.bad 82
 | _=>.bad 83
theorem opExtract_ok (h:HpRel C hc w0 ρ H w) {x:SV} {u:Value} {i:Nat} (hx:x.Is C.σ ρ u):(opExtract H x i).Ok cc C hc w0 ρ H w (do pure (.value (← Instr.extract u i))):=by
 unfold opExtract
 split
 ·split
  ·rename_i l z hz
   rw [lnth_eq] at hz
   simp only [SV.Is] at hx
   obtain ⟨us,e1,rfl⟩:=hx
   obtain ⟨v,e2,e3⟩:=SV.isL_get e1 hz
   exact OpR.ok_pure h (u:=v) (by simp [Instr.extract,e2]) e3
  ·trivial
 ·trivial
def SV.nonNil:SV→Bool
 | .pt _ _ | .fn _ _ _ | .yl _ | .sl _ _ _ _ | .sn | .mp _ | .mn | .fc _ _=>true
 | _=>false
theorem nilCheck_ok {x:SV} {u:Value} (hx:x.Is C.σ ρ u) (hn:x.nonNil=true) :
  (match u with
  | .pointer none | .nilIface | .nilFunc=>(runtimePanic .nilDeref:Sem Next)
  | .func (.method name) first captured=>
    match (first[0]?:Option Value) with
    | some .nilIface=>runtimePanic .nilDeref
    | some (.iface t w)=>do
      if (← nilAhead ((← program).types.size+Made.depth) t w name) != some false then
       unsupported (.noEntry "op/nilCheck.the method's receiver behind this interface value is a nil pointer, or cannot be seen to be none, and the arguments act or may panic (ledger 612)")
      pure (.value (.func (.method name) first captured))
    | _=>pure (.value (.func (.method name) first captured))
  | x=>pure (.value x))=pure (Next.value u):=by
 cases x<;>simp only [SV.nonNil,Bool.false_eq_true] at hn<;>simp only [SV.Is] at hx
 case pt=>obtain ⟨_,_,_,_,rfl⟩:=hx;rfl
 case sl=>obtain ⟨_,_,_,_,_,_,_,_,rfl⟩:=hx;rfl
 case sn=>subst hx;rfl
 case mp=>obtain ⟨_,_,rfl⟩:=hx;rfl
 case mn=>subst hx;rfl
 case fn=>obtain ⟨_,_,_,_,rfl⟩:=hx;rfl
 case yl=>obtain ⟨_,_,rfl⟩:=hx;rfl
 case fc=>obtain ⟨_,_,rfl⟩:=hx;rfl
noncomputable def opLen (cc:Cc) (H:Hp) (ts:Array TypeId) (xs:List SV):OpR:=
 match lnth ts.toList 0,xs with
 | some t,[x]=>match cc.P.underlying t,x with
   | some (.slice _),.sl _ _ l _=>.val (.it .i64 l) H
   | some (.slice _),.sn=>.val (.it .i64 (.c 0)) H
   | some (.array n _),_=>.val (.it .i64 (.c (.ofNat n))) H
   | some .string,.st (.c b)=>.val (.it .i64 (.c (.ofNat b.size))) H
   | some .string,.st (.v _)=>.val (.it .i64 (.d H.nd)) (H.num (.c 0))
   | some (.map _ _),.mn=>.val (.it .i64 (.c 0)) H
   | some (.map _ _),.mp (.n id)=>match get H.heap id with
     | some (.map es _)=>.val (.it .i64 (.c (.ofNat (llen es)))) H
     | _=>.bad 90
   | _,_=>.bad 91
 | _,_=>.bad 92
theorem isL_one {x:SV} {us:List Value} (h:SV.IsL C.σ ρ [x] us):∃ u,us=[u]∧x.Is C.σ ρ u:=by
 rw [SV.isL_cons] at h
 obtain ⟨u,r,rfl,h1,h2⟩:=h
 rw [SV.isL_nil] at h2
 subst h2
 exact ⟨u,rfl,h1⟩
theorem EsRel.length:∀ {l:List (SV×SV×Nat)} {es:List MapEntry},EsRel C.σ ρ l es→es.length=l.length
 | [],_,h=>by cases h;rfl
 | (_,_,_)::l,_,⟨e,r,h1,_,_,_,h5⟩=>by subst h1;simp [EsRel.length h5]
theorem opLen_ok (h:HpRel C hc w0 ρ H w) {ts:Array TypeId} {ty:TypeId} {xs:List SV} {us:List Value} (hx:SV.IsL C.σ ρ xs us):(opLen cc H ts xs).Ok cc C hc w0 ρ H w (do pure (.value (← Builtin.len_ ts ty us.toArray))):=by
 unfold opLen
 split
 ·rename_i t x ht
  obtain ⟨u,rfl,hu⟩:=isL_one hx
  rw [lnth_eq] at ht
  have ht':ts[0]? = some t:=by simpa using ht
  split
  ·rename_i e r o l c hd
   simp only [SV.Is] at hu
   obtain ⟨b,k,len,cap,e1,e2,e3,e4,rfl⟩:=hu
   refine OpR.ok_pure h (u:=.int .i64 len) ?_ (by simp only [SV.Is];exact ⟨_,e3,rfl⟩)
   simp [Builtin.len_,ht',underlying,hd,goInt]
  ·rename_i e hd
   simp only [SV.Is] at hu;subst hu
   refine OpR.ok_pure h (u:=.int .i64 0) ?_ (by simp only [SV.Is];exact ⟨_,rfl,rfl⟩)
   simp [Builtin.len_,ht',underlying,hd,goInt]
  ·rename_i m n e hd
   refine OpR.ok_pure h (u:=.int .i64 n) ?_ (by simp only [SV.Is];exact ⟨_,rfl,rfl⟩)
   simp [Builtin.len_,ht',underlying,hd,goInt]
  ·rename_i b hd
   simp only [SV.Is,SS.den] at hu;subst hu
   refine OpR.ok_pure h (u:=.int .i64 b.size) ?_ (by simp only [SV.Is];exact ⟨_,rfl,rfl⟩)
   simp [Builtin.len_,ht',underlying,hd,goInt]
  ·rename_i vi hd
   simp only [SV.Is,SS.den] at hu;subst hu
   refine ⟨ρ.setDi H.nd (C.σ.sv vi).size,.value (.int .i64 (C.σ.sv vi).size),.int .i64 (C.σ.sv vi).size,w,Tn.of_num ρ H w (.c 0) _,?_,.inl rfl,?_,h.num (k:=0) rfl (Nat.zero_le _)⟩
   ·simp [Builtin.len_,ht',underlying,hd,goInt]
   ·simp only [SV.Is,SI.den]
    exact ⟨_,by rw [Dyn.setDi_same];rfl,rfl⟩
  ·rename_i a b hd
   simp only [SV.Is] at hu;subst hu
   refine OpR.ok_pure h (u:=.int .i64 0) ?_ (by simp only [SV.Is];exact ⟨_,rfl,rfl⟩)
   simp [Builtin.len_,ht',underlying,hd,goInt]
  ·rename_i a b id hd
   split
   ·rename_i es cl hg
    simp only [SV.Is] at hu
    obtain ⟨b',e1,rfl⟩:=hu
    obtain ⟨b2,o,e2,e3,l,e4,rfl⟩:=h.blk id _ hg rfl
    have:b2=b':=by simp only [SR.den] at e1;rw [e2] at e1;exact Option.some.inj e1
    subst this
    refine OpR.ok_pure h (u:=.int .i64 l.length) ?_ ?_
    ·simp [Builtin.len_,ht',underlying,hd,goInt,getObj,Sem.run,e3]
    ·simp only [SV.Is];exact ⟨_,rfl,by rw [EsRel.length e4,llen_eq];rfl⟩
   ·trivial
  ·trivial
 ·trivial
noncomputable def opMinMax (cc:Cc) (H:Hp) (f:IB) (xs:List SV):OpR:=
 match xs with
 | [.it k a,.it _ b]=>.val (.it k (SI.bop f a b)) H
 | _=>.bad 93
noncomputable def opCap (cc:Cc) (H:Hp) (ts:Array TypeId) (xs:List SV):OpR:=
 match lnth ts.toList 0,xs with
 | some t,[x]=>match cc.P.underlying t,x with
   | some (.slice _),.sl _ _ _ c=>.val (.it .i64 c) H
   | some (.slice _),.sn=>.val (.it .i64 (.c 0)) H
   | _,_=>.bad 94
 | _,_=>.bad 95
theorem isL_two {x y:SV} {us:List Value} (h:SV.IsL C.σ ρ [x,y] us):∃ u v,us=[u,v]∧x.Is C.σ ρ u∧y.Is C.σ ρ v:=by
 rw [SV.isL_cons] at h
 obtain ⟨u,r,rfl,h1,h2⟩:=h
 obtain ⟨v,rfl,h3⟩:=isL_one h2
 exact ⟨u,v,rfl,h1,h3⟩
theorem opMin_ok (h:HpRel C hc w0 ρ H w) {ts:Array TypeId} {ty:TypeId} {xs:List SV} {us:List Value} (hx:SV.IsL C.σ ρ xs us):(opMinMax cc H .imin xs).Ok cc C hc w0 ρ H w (do pure (.value (← Builtin.min_ ts ty us.toArray))):=by
 unfold opMinMax
 split
 ·rename_i k a k' b
  obtain ⟨u,v,rfl,hu,hv⟩:=isL_two hx
  simp only [SV.Is] at hu hv
  obtain ⟨x,e1,rfl⟩:=hu
  obtain ⟨y,e2,rfl⟩:=hv
  exact OpR.ok_pure h (u:=.int k (IB.eval .imin x y)) (run_min_int2 w ts ty k k' x y) (by simp only [SV.Is];exact ⟨_,SI.bop_den (f:=.imin) e1 e2,rfl⟩)
 ·trivial
theorem opMax_ok (h:HpRel C hc w0 ρ H w) {ts:Array TypeId} {ty:TypeId} {xs:List SV} {us:List Value} (hx:SV.IsL C.σ ρ xs us):(opMinMax cc H .imax xs).Ok cc C hc w0 ρ H w (do pure (.value (← Builtin.max_ ts ty us.toArray))):=by
 unfold opMinMax
 split
 ·rename_i k a k' b
  obtain ⟨u,v,rfl,hu,hv⟩:=isL_two hx
  simp only [SV.Is] at hu hv
  obtain ⟨x,e1,rfl⟩:=hu
  obtain ⟨y,e2,rfl⟩:=hv
  exact OpR.ok_pure h (u:=.int k (IB.eval .imax x y)) (run_max_int2 w ts ty k k' x y) (by simp only [SV.Is];exact ⟨_,SI.bop_den (f:=.imax) e1 e2,rfl⟩)
 ·trivial
theorem opCap_ok (h:HpRel C hc w0 ρ H w) {ts:Array TypeId} {ty:TypeId} {xs:List SV} {us:List Value} (hx:SV.IsL C.σ ρ xs us):(opCap cc H ts xs).Ok cc C hc w0 ρ H w (do pure (.value (← Builtin.cap_ ts ty us.toArray))):=by
 unfold opCap
 split
 ·rename_i t x ht
  obtain ⟨u,rfl,hu⟩:=isL_one hx
  rw [lnth_eq] at ht
  have ht':ts[0]? = some t:=by simpa using ht
  split
  ·rename_i e r o l c hd
   simp only [SV.Is] at hu
   obtain ⟨b,k,len,cap,e1,e2,e3,e4,rfl⟩:=hu
   refine OpR.ok_pure h (u:=.int .i64 cap) ?_ (by simp only [SV.Is];exact ⟨_,e4,rfl⟩)
   simp [Builtin.cap_,ht',underlying,hd,goInt]
  ·rename_i e hd
   simp only [SV.Is] at hu;subst hu
   refine OpR.ok_pure h (u:=.int .i64 0) ?_ (by simp only [SV.Is];exact ⟨_,rfl,rfl⟩)
   simp [Builtin.cap_,ht',underlying,hd,goInt]
  ·trivial
 ·trivial
noncomputable def opCallV (cc:Cc) (H:Hp) (f:SV) (args:List SV):OpR:=
 match f with
 | .fn g a c=>match cc.P.funcs[g]? with
   | some fn=>match fn.body with
     | some _=>.enter g (lapp a (lapp args c))
     | none=>bif isOv fn then opOv cc H fn (lapp a (lapp args c)) else .bad 100
   | none=>.bad 101
 | .yl id=>.round id args
 | _=>.bad 102
theorem opCallV_ok (hcc:cc.Ok C) (h:HpRel C hc w0 ρ H w) {f:SV} {fv:Value} {args:List SV} {us:List Value} (hf:f.Is C.σ ρ fv) (ha:SV.IsL C.σ ρ args us) :
  (opCallV cc H f args).Ok cc C hc w0 ρ H w (do let d ← Deferred.ofValue fv us.toArray;invoke d.target d.args):=by
 unfold opCallV
 split
 ·rename_i g a c
  simp only [SV.Is] at hf
  obtain ⟨as,cs,e1,e2,rfl⟩:=hf
  split
  ·rename_i fn hfn
   split
   ·rename_i b hb
    refine ⟨as++(us++cs),?_,by rw [lapp_eq,lapp_eq];exact SV.isL_append e1 (SV.isL_append ha e2),fn,b,hfn,hb⟩
    have hnm:=hcc.names g fn hfn
    simp only [Deferred.ofValue,invoke,callFunc,Sem.run_bind,Sem.run_pure,Result.andThen_ok,run_program,hfn,hnm,hb,Option.isNone_some,Bool.false_eq_true,if_false]
    simp
   ·cases hov:isOv fn with
    | false=>trivial
    | true=>
      refine OpR.ok_congr (opOv_ok hcc h hfn hov (us:=as++(us++cs)) (by rw [lapp_eq,lapp_eq];exact SV.isL_append e1 (SV.isL_append ha e2))) ?_
      simp [Deferred.ofValue,invoke]
  ·trivial
 ·rename_i id
  simp only [SV.Is] at hf
  obtain ⟨b,e1,rfl⟩:=hf
  exact ⟨b,us,e1,by simp [Deferred.ofValue,invoke],ha⟩
 ·trivial
noncomputable def opBuiltin (cc:Cc) (H:Hp) (b:Builtin) (ts:Array TypeId) (xs:List SV):OpR:=
 match b with
 | .len=>opLen cc H ts xs
 | .cap=>opCap cc H ts xs
 | .min=>opMinMax cc H .imin xs
 | .max=>opMinMax cc H .imax xs
 | .append=>opAppendC cc H ts xs
 | .copy=>opCopyB cc H ts xs
 | .clear=>opClearB cc H ts xs
 | _=>.bad 103
noncomputable def symOp (cc:Cc) (H:Hp) (T:List (Nat×SV)) (op:Op):OpR:=
 match op with
 | .move x=>.val (ev T x) H
 | .assign x=>.val (ev T x) H
 | .pick c a b=>match ev T c with
   | .bo p=>match dec (bdOf cc H) H.facts p with
     | .yes true=>.val (ev T a) H
     | .yes false=>.val (ev T b) H
     | .ask q=>.ask q
   | _=>.bad 110
 | .alloc t=>opAlloc cc H t
 | .box t x=>newV H t (ev T x)
 | .build t ps=>opBuild cc H t (evPs T ps)
 | .buildSlice t n ps=>opBuildSlice cc H t n (evPs T ps)
 | .load t a=>match ev T a with
   | .pt r o=>match lodV cc H t r o with
     | some z=>.val z H
     | none=>lodA cc H t r o
   | _=>.bad 112
 | .store t a x=>match ev T a with
   | .pt r o=>match stoV cc H t r o (ev T x) with
     | some H'=>.val (.tp []) H'
     | none=>stoA cc H t r o (ev T x)
   | _=>.bad 114
 | .nilCheck x=>bif (ev T x).nonNil then .val (ev T x) H else .bad 115
 | .binOp op t x y _=>symBin cc H op t (ev T x) (ev T y)
 | .unOp op _ x=>opUn cc H op (ev T x)
 | .convert s d x=>opConv cc H s d (ev T x)
 | .makeFunc (.func f) a c=>.val (.fn f (evs T a) (evs T c)) H
 | .makeMap t r=>opMakeMap cc H t (r.map (ev T))
 | .makeSlice t l c=>opMakeS cc H t (ev T l) (ev T c)
 | .lookup t m x ok=>bif ok then .bad 118 else opLookup cc H t (ev T m) (ev T x)
 | .mapUpdate t m k x=>opMapUp cc H t (ev T m) (ev T k) (ev T x)
 | .slice t x lo hi mx=>opSlice cc H t (ev T x) (lo.map (ev T)) (hi.map (ev T)) (mx.map (ev T))
 | .fieldAddr t x f=>opField cc H t (ev T x) f
 | .field t x f=>opGetField cc H t (ev T x) f
 | .indexAddr t x i=>opIndexAddr cc H t (ev T x) (ev T i)
 | .index t x i=>opIndex cc H t (ev T x) (ev T i)
 | .extract x i=>opExtract H (ev T x) i
 | .call c=>match c.callee with
   | .value f=>opCallV cc H (ev T f) (evs T c.args)
   | .builtin b=>opBuiltin cc H b c.argTypes (evs T c.args)
   | .invoke _ _=>.bad 116
 | _=>.bad 117
theorem OIs_map {T:List (Nat×SV)} {e:Operand→Value} (h:EvOk C ρ T e) (x:Option Operand):OIs C.σ ρ (x.map (ev T)) (x.map e):=by
 cases x with
 | none=>trivial
 | some x=>exact h x
theorem symOp_ok (hcc:cc.Ok C) (h:HpRel C hc w0 ρ H w) {T:List (Nat×SV)} {e:Operand→Value} (he:EvOk C ρ T e) (o:Oper):(symOp cc H T o.op).Ok cc C hc w0 ρ H w (execOp e o):=by
 unfold symOp execOp
 cases ho:o.op with
 | move x=>exact ⟨ρ,.value (e x),e x,w,Tn.refl ρ H w,rfl,.inl rfl,he x,h⟩
 | assign x=>exact ⟨ρ,.value (e x),e x,w,Tn.refl ρ H w,rfl,.inl rfl,he x,h⟩
 | pick c a b=>
   dsimp only
   have hcv:=he c
   split
   ·rename_i p hp
    rw [hp] at hcv
    simp only [SV.Is] at hcv
    obtain ⟨x,e1,e2⟩:=hcv
    split
    ·rename_i hd
     have:=dec_ok (bdOf_ok hcc h) h.facts e1 hd;subst this
     exact ⟨ρ,.value (e a),e a,w,Tn.refl ρ H w,by simp [e2,asBool],.inl rfl,he a,h⟩
    ·rename_i hd
     have:=dec_ok (bdOf_ok hcc h) h.facts e1 hd;subst this
     exact ⟨ρ,.value (e b),e b,w,Tn.refl ρ H w,by simp [e2,asBool],.inl rfl,he b,h⟩
    ·rename_i q hd
     exact ask_den (bdOf_ok hcc h) h.facts e1 hd
   ·trivial
 | alloc t=>exact opAlloc_ok h t
 | box t x=>exact newV_ok h (he x)
 | build t ps=>exact opBuild_ok hcc h (evPs_is he ps)
 | buildSlice t n ps=>exact opBuildSlice_ok h (evPs_is he ps)
 | load t a=>
   dsimp only
   have hcv:=he a
   split
   ·rename_i r ofs hp
    rw [hp] at hcv
    simp only [SV.Is] at hcv
    obtain ⟨b,k,e1,e2,e3⟩:=hcv
    split
    ·rename_i z hz
     obtain ⟨u,e4,e5⟩:=lodV_ok hcc h e1 e2 hz
     exact OpR.ok_pure h (u:=u) (by simp [Instr.loadAt,e3,Instr.sureAddr,e4]) e5
    ·exact OpR.ok_congr (lodA_ok hcc h e1 e2) (by simp [Instr.loadAt,e3,Instr.sureAddr])
   ·trivial
 | store t a x=>
   dsimp only
   have hcv:=he a
   split
   ·rename_i r ofs hp
    rw [hp] at hcv
    simp only [SV.Is] at hcv
    obtain ⟨b,k,e1,e2,e3⟩:=hcv
    split
    ·rename_i H' hz
     obtain ⟨w',e4,e5,e6⟩:=stoV_ok h e1 e2 (he x) hz
     refine ⟨ρ,.skip,undef,w',e6,by simp [Instr.storeAt,e3,Instr.sureAddr,e4],.inr ⟨rfl,rfl⟩,?_,e5⟩
     simp only [SV.Is];exact ⟨[],SV.isL_nil.2 rfl,rfl⟩
    ·exact OpR.ok_congr (stoA_ok hcc h e1 e2 (he x)) (by simp [Instr.storeAt,e3,Instr.sureAddr])
   ·trivial
 | nilCheck x=>
   dsimp only
   cases hn:(ev T x).nonNil with
   | false=>trivial
   | true=>
     have:=nilCheck_ok (he x) hn
     refine OpR.ok_congr (s':=pure (Next.value (e x))) ?_ ?_
     ·exact ⟨ρ,.value (e x),e x,w,Tn.refl ρ H w,rfl,.inl rfl,he x,h⟩
     ·exact congrArg (fun s=>Sem.run cc.P s w) this
 | binOp op t x y t'=>exact symBin_ok hcc h t x y (he x) (he y)
 | unOp op t x=>exact opUn_ok hcc h (he x)
 | convert s d x=>exact opConv_ok hcc h (he x)
 | makeFunc f a c=>
   cases f with
   | func g=>
     refine OpR.ok_pure h (u:=.func (.func g) (a.map e) (c.map e)) rfl ?_
     simp only [SV.Is]
     exact ⟨_,_,evs_is he a,evs_is he c,by rw [Array.toArray_toList,Array.toArray_toList]⟩
   | _=>trivial
 | makeMap t r=>exact opMakeMap_ok hcc h (OIs_map he r)
 | lookup t m x ok=>
   cases ok with
   | true=>trivial
   | false=>exact opLookup_ok hcc h (he m) (he x)
 | mapUpdate t m k x=>exact opMapUp_ok hcc h (he m) (he k) (he x)
 | makeSlice t l c=>exact opMakeS_ok hcc h (he l) (he c)
 | slice t x lo hi mx=>exact opSlice_ok hcc h (he x) (OIs_map he lo) (OIs_map he hi) (OIs_map he mx)
 | fieldAddr t x f=>exact opField_ok h (he x)
 | field t x f=>exact opGetField_ok h (he x)
 | indexAddr t x i=>exact opIndexAddr_ok hcc h (he x) (he i)
 | index t x i=>exact opIndex_ok hcc h (he x) (he i)
 | extract x i=>exact opExtract_ok h (he x)
 | call c=>
   dsimp only
   cases hcl:c.callee with
   | value f=>
     dsimp only
     have:=opCallV_ok (hc:=hc) (w0:=w0) (w:=w) (H:=H) hcc h (he f) (evs_is he c.args)
     refine OpR.ok_congr this ?_
     simp only [resolve,hcl,Array.toArray_toList]
   | builtin b=>
     dsimp only
     unfold opBuiltin
     have hargs:=evs_is he c.args
     split
     ·refine OpR.ok_congr (opLen_ok (ty:=o.type) h hargs) ?_
      simp only [resolve,hcl,invoke,builtin,Array.toArray_toList,Sem.run_bind,Sem.run_pure,Result.andThen_ok]
     ·refine OpR.ok_congr (opCap_ok (ty:=o.type) h hargs) ?_
      simp only [resolve,hcl,invoke,builtin,Array.toArray_toList,Sem.run_bind,Sem.run_pure,Result.andThen_ok]
     ·refine OpR.ok_congr (opMin_ok (ts:=c.argTypes) (ty:=o.type) h hargs) ?_
      simp only [resolve,hcl,invoke,builtin,Array.toArray_toList,Sem.run_bind,Sem.run_pure,Result.andThen_ok]
     ·refine OpR.ok_congr (opMax_ok (ts:=c.argTypes) (ty:=o.type) h hargs) ?_
      simp only [resolve,hcl,invoke,builtin,Array.toArray_toList,Sem.run_bind,Sem.run_pure,Result.andThen_ok]
     ·refine OpR.ok_congr (opAppendC_ok (ts:=c.argTypes) (ty:=o.type) hcc h hargs) ?_
      simp only [resolve,hcl,invoke,builtin,Array.toArray_toList,Sem.run_bind,Sem.run_pure,Result.andThen_ok]
     ·refine OpR.ok_congr (opCopyB_ok (ts:=c.argTypes) (ty:=o.type) hcc h hargs) ?_
      simp only [resolve,hcl,invoke,builtin,Array.toArray_toList,Sem.run_bind,Sem.run_pure,Result.andThen_ok]
     ·refine OpR.ok_congr (opClearB_ok (ts:=c.argTypes) (ty:=o.type) hcc h hargs) ?_
      simp only [resolve,hcl,invoke,builtin,Array.toArray_toList,Sem.run_bind,Sem.run_pure,Result.andThen_ok]
     ·trivial
   | invoke r m=>trivial
 | _=>trivial
end
end Go.Sx
