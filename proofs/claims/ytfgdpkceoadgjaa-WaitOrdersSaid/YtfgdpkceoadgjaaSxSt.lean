/- A law's statement, by its contract: what comes in is taken apart; what came in reads as it did. -/
import Derived.Test.YtfgdpkceoadgjaaSxV
import Derived.Test.YtfgdpkceoadgjaaSxPl
import Derived.ChangeStays
import Derived.ReadAgain
import Derived.ChangeBears
import Derived.WalkKit
import Derived.ProofKit
import Derived.OpenShut
namespace Go.Sx
set_option linter.unusedSectionVars false
set_option linter.unusedVariables false
set_option linter.unusedSimpArgs false
open Go.ChangeShapes Go.WideShapes Go.RowKit Go.ChangeAt
section
variable {H:Type} {enc:TypeId×Value→H} {P:Program} {w W W':World} {base:Nat} {sp:Nat→Bool} {held:Bool}
theorem same_below (hb:Below W.heap.size W W') {p:MemPlace} (h:p.block < W.heap.size):W.sameAt W' p:=by
 cases p with
 | cell b off=>exact hb.cell (p:=⟨b,off,none⟩) h
 | map b=>exact hb.block b h
theorem trodAll_stays (K:Kids P (· < P.types.size)) (hz:∀ t e,t < P.types.size→P.underlying t=some (.slice e)→0 < P.cellsOf e) (hb:Below W.heap.size W W') {sp':Nat→Bool} :
  ∀ {ts:List TypeId} {vs:List Value} {ds:List (DataW H)} {ps:List MemPlace},(∀ t∈ts,t < P.types.size)→DataW.TrodAll enc P W 0 (fun _=>true) true ts vs ds ps→(∀ p∈ps,p.block < W.heap.size)→(∀ p∈ps,sp' p.block=true)→DataW.TrodAll enc P W' 0 sp' true ts vs ds ps
 | [],[],[],_,_,h,_,_=>h
 | t::_,_::_,_::_,_,hT,⟨p,q,⟨n,h1⟩,h2,e⟩,hlt,hs=>
   ⟨p,q,⟨n,DataW.trod_stays (T:=(· < P.types.size)) K (fun {t e} a b=>hz t e a b) (fun hh=>by cases hh) (hT _ (List.mem_cons.2 (Or.inl rfl))) h1 (fun x hx=>same_below hb (hlt x (by rw [e];exact List.mem_append_left _ hx))) (fun x hx=>hs x (by rw [e];exact List.mem_append_left _ hx))⟩,
    trodAll_stays K hz hb (fun t ht=>hT t (List.mem_cons.2 (Or.inr ht))) h2 (fun x hx=>hlt x (by rw [e];exact List.mem_append_right _ hx)) (fun x hx=>hs x (by rw [e];exact List.mem_append_right _ hx)),e⟩
theorem law_post {f:Func} {s:ChangeSpec} {apart fresh handsOn again:Bool} {args:Array Value} {ds:List (DataW H)} {p:List MemPlace} {t:TypeId}
  (hl:laidOutB P=true) (hm:mapsRowed P=true) (hz:((List.range P.types.size).all fun t=>match P.underlying t with | some (.slice e)=>decide (0 < P.cellsOf e) | _=>true)=true)
  (hts:(f.params.toList.all fun t=>decide (t < P.types.size))=true) (hvs:s.vars=[]) (hrt:f.resultTypes=#[t]) (hbool:P.underlying t=some .bool)
  (hW:DataW.Whole enc P f.params.toList s.vars apart W args.toList ds [] p) (hA:DataW.TrodAll enc P W 0 (fun _=>true) true f.params.toList args.toList ds p)
  (hfn:s.fn H (ds++[])={ results:=[.lit (.bool true)],args:=ds }) (hb:Below W.heap.size W W'):s.post enc P f apart fresh handsOn again W args (.bool true) W':=by
 have hlt:=hW.lt
 refine post_of_below (pa:=p) (pv:=[]) (ds:=ds) (gs:=[]) hW (fun _ _ _=>?_) (fun sp hsp=>?_) (fun sp _=>?_) (by simp) hb ?_
 ·rw [hrt,hfn]
  exact trodAll_cons_mk (shut_bool hbool _) trodAll_mk0
 ·rw [hfn]
  exact trodAll_stays (kids_rows hl hm) (slices_full_of P hz) hb (fun t ht=>by simpa using List.all_eq_true.1 hts t ht) hA hlt hsp
 ·rw [hvs,hfn];rfl
 ·exact ok_one hrt rfl (okWide_bool_mk hbool _)
theorem kd_int {k:IntKind} {n:Int} (h:(Lit.int k n).wf=true):(.int k n:Value)=(Kd.nt k).of n:=by
 have:k.wrap n=n:=by
  simp only [Lit.wf,Bool.and_eq_true,decide_eq_true_eq] at h
  exact wrap_in k n (by rw [kmin_eq];exact h.1) (by rw [kmax_eq];exact h.2)
 show _=Value.int k (k.wrap n)
 rw [this]
theorem kd_bool (b:Bool):(.bool b:Value)=Kd.tv.of (if b then 1 else 0):=by cases b<;>rfl
theorem flat_fields {d:Nat} {cs:List Value}:∀ (l:List Field) (lay:List Kd) (off:Nat),
  (List.rec (motive:=fun _=>Option (List Kd)) (some []) (fun f _ r=>match layT P d f.type,r with | some a,some b=>some (lapp a b) | _,_=>none) l:Option (List Kd))=some lay→
  (∀ j f,l[j]? = some f→f.offset=off+((l.take j).map fun f=>P.cellsOf f.type).sum)→off+(l.map fun f=>P.cellsOf f.type).sum≤cs.length→
  (∀ f∈l,∀ lf,layT P d f.type=some lf→((cs.drop f.offset).take (P.cellsOf f.type)).length=lf.length∧∀ (g:Nat) (κ:Kd),lf[g]? = some κ→∃ n,((cs.drop f.offset).take (P.cellsOf f.type))[g]? = some (κ.of n))→
  lay.length=(l.map fun f=>P.cellsOf f.type).sum∧∀ (g:Nat) (κ:Kd),lay[g]? = some κ→∃ n,cs[off+g]? = some (κ.of n)
 | [],lay,off,h,_,_,_=>by
   cases h
   exact ⟨rfl,fun g κ hg=>by simp at hg⟩
 | f::l,lay,off,h,ho,ht,hf=>by
   have h':(match layT P d f.type,(List.rec (motive:=fun _=>Option (List Kd)) (some []) (fun f _ r=>match layT P d f.type,r with | some a,some b=>some (lapp a b) | _,_=>none) l:Option (List Kd)) with | some a,some b=>some (lapp a b) | _,_=>none)=some lay:=h
   split at h'
   ·rename_i a b ha hb
    cases h'
    have o0:f.offset=off:=by simpa using ho 0 f rfl
    simp only [List.map_cons,List.sum_cons] at ht
    obtain ⟨e1,e2⟩:=hf f (List.mem_cons_self ..) a ha
    have e1':a.length=P.cellsOf f.type:=by
     rw [← e1,List.length_take,List.length_drop,o0];omega
    obtain ⟨i1,i2⟩:=flat_fields l b (off+P.cellsOf f.type) hb (fun j g hg=>by
     have:=ho (j+1) g (by simpa using hg)
     simp only [List.take_succ_cons,List.map_cons,List.sum_cons] at this
     omega) (by omega) (fun g hg=>hf g (List.mem_cons_of_mem _ hg))
    rw [lapp_eq]
    refine ⟨by simp only [List.length_append,List.map_cons,List.sum_cons];omega,fun g κ hg=>?_⟩
    by_cases hga:g < a.length
    ·rw [List.getElem?_append_left hga] at hg
     obtain ⟨n,hn⟩:=e2 g κ hg
     refine ⟨n,?_⟩
     rw [List.getElem?_take,if_pos (by omega),List.getElem?_drop,o0] at hn
     exact hn
    ·rw [List.getElem?_append_right (by omega)] at hg
     obtain ⟨n,hn⟩:=i2 _ κ hg
     refine ⟨n,?_⟩
     rw [← hn];congr 1;omega
   ·cases h'
theorem flat_cells (K:Kids P (· < P.types.size)):∀ (d:Nat) {t:TypeId} {cs:List Value} {fuel:Nat} {x:DataW H×List MemPlace} {lay:List Kd},t < P.types.size→layT P d t=some lay→DataW.trod enc P w base sp held fuel t cs=some x→
  cs.length=lay.length∧∀ (f:Nat) (κ:Kd),lay[f]? = some κ→∃ n,cs[f]? = some (κ.of n)
 | 0,t,cs,fuel,x,lay,_,h,_=>by cases h
 | d+1,t,cs,fuel,x,lay,hT,h,ht=>by
   have h':(match P.underlying t with
    | some (.int k)=>some [.nt k]
    | some .bool=>some [.tv]
    | some (.struct fs)=>List.rec (motive:=fun _=>Option (List Kd)) (some []) (fun f _ r=>match layT P d f.type,r with | some a,some b=>some (lapp a b) | _,_=>none) fs.toList
    | _=>none)=some lay:=h
   split at h'
   ·rename_i k hu
    cases h'
    obtain ⟨n,rfl,_,hw⟩:=DataW.trod_int hu ht
    refine ⟨rfl,fun f κ hf=>?_⟩
    match f,hf with
    | 0,hf=>simp at hf;subst hf;exact ⟨n,by rw [← kd_int hw];rfl⟩
    | f+1,hf=>simp at hf
   ·rename_i hu
    cases h'
    obtain ⟨b,rfl,_⟩:=DataW.trod_bool hu ht
    refine ⟨rfl,fun f κ hf=>?_⟩
    match f,hf with
    | 0,hf=>simp at hf;subst hf;exact ⟨_,by rw [← kd_bool b];rfl⟩
    | f+1,hf=>simp at hf
   ·rename_i fs hu
    obtain ⟨xs,n,_,_,hlen,hxl,hf⟩:=DataW.trod_struct hu ht
    obtain ⟨k1,k2,k3⟩:=K.struct hT hu
    have:=flat_fields (cs:=cs) fs.toList lay 0 h' (fun j f hj=>by rw [k3 j f hj,Nat.zero_add]) (by rw [hlen,k2];omega) (fun f hfm lf hlf=>by
     obtain ⟨i,hi⟩:=List.getElem?_of_mem hfm
     have hi':fs[i]? = some f:=by simpa using hi
     have hx:=hf i f hi'
     have hil:i < xs.length:=by rw [hxl];exact (Array.getElem?_eq_some_iff.1 hi').1
     rw [List.getElem?_eq_getElem hil] at hx
     exact flat_cells K d (k1 f hfm) hlf hx)
    refine ⟨by rw [hlen,k2,this.1],fun f κ hg=>?_⟩
    have:=this.2 f κ hg
    rwa [Nat.zero_add] at this
   ·cases h'
theorem arr_code {len:Nat} {lay:List Kd} {g:Nat→Nat→Value} (h:∀ j,j < len→∀ (f:Nat) (κ:Kd),lay[f]? = some κ→∃ n,g j f=κ.of n) :
  ∃ c:Int,∀ j,j < len→∀ (f:Nat) (κ:Kd),lay[f]? = some κ→g j f=κ.of (gt c j f):=by
 classical
 refine ⟨arrC len lay.length fun j f=>if hh:∃ n,∃ κ,lay[f]? = some κ∧g j f=κ.of n then Classical.choose hh else 0,fun j hj f κ hf=>?_⟩
 have hfl:=(List.getElem?_eq_some_iff.1 hf).1
 obtain ⟨n,hn⟩:=h j hj f κ hf
 have hh:∃ n,∃ κ,lay[f]? = some κ∧g j f=κ.of n:=⟨n,κ,hf,hn⟩
 rw [gt_arrC,if_pos ⟨hj,hfl⟩,dif_pos hh]
 obtain ⟨κ',h1,h2⟩:=Classical.choose_spec hh
 rw [hf] at h1;cases h1
 exact h2
theorem open_rows (K:Kids P (· < P.types.size)) {t e:TypeId} {v:Value} {x:DataW H} {ps:List MemPlace} {d:Nat} {lay:List Kd} {r:Reach} {b0:Nat} (ht:P.underlying t=some (.slice e)) (he:e < P.types.size) (hlay:layT P d e=some lay) (hc:P.cellsOf e=lay.length)
  (hval:Value.okWide P w r b0 t v) (h:DataW.Trod enc P w base (fun _=>true) true t v x ps) :
  v=.slice none 0 0∨∃ (b off len cap:Nat) (c:Int),v=.slice (some ⟨b,off,none⟩) len cap∧len≤cap∧cap≤maxLen∧∀ j,j < len→∀ (f:Nat) (κ:Kd),lay[f]? = some κ→w.cell? ⟨b,off+j * lay.length+f,none⟩=some (κ.of (gt c j f)):=by
 obtain ⟨a,len,cap,rfl⟩:=okWide_slice ht hval
 obtain ⟨fuel,hf⟩:=h
 have hcs:(Value.slice a len cap).cells.toList=[.slice a len cap]:=rfl
 rw [hcs] at hf
 rcases DataW.trod_slice ht hf with ⟨h0,_⟩ | ⟨a',len',cap',elems,rest,n,_,h1,h2,h3,h4,h5,h6,h7,_⟩
 ·simp only [List.cons.injEq,and_true] at h0;exact .inl h0
 ·simp only [List.cons.injEq,Value.slice.injEq,and_true] at h1
  obtain ⟨rfl,rfl,rfl⟩:=h1
  right
  have hspot:a'.spot=none:=by
   simp only [Value.okWide,ht,Cell.okWide,Cell.ok] at hval
   exact hval.2.2.2.1
  obtain ⟨b,off,s⟩:=a'
  have:s=none:=hspot
  subst this
  have each:∀ j,j < len→∀ (f:Nat) (κ:Kd),lay[f]? = some κ→∃ n,(w.cell? ⟨b,off+j * lay.length+f,none⟩).getD undef=κ.of n∧w.cell? ⟨b,off+j * lay.length+f,none⟩=some (κ.of n):=by
   intro j hj f κ hκ
   have hx:=h7 j hj
   rw [List.getElem?_eq_getElem (by omega)] at hx
   obtain ⟨cs',hc1,hc2⟩:=Option.bind_eq_some_iff.1 hx
   obtain ⟨hl1,hl2⟩:=flat_cells K d he hlay hc2
   obtain ⟨_,hcl,hat⟩:=World.cells?_some hc1
   have hfl:=(List.getElem?_eq_some_iff.1 hκ).1
   obtain ⟨n,hn⟩:=hl2 f κ hκ
   have:=hat f (by omega)
   rw [hn] at this
   have e:w.cell? ⟨b,off+j * lay.length+f,none⟩=some (κ.of n):=by
    rw [← this,hc,addr_add,addr_add]
   exact ⟨n,by rw [e];rfl,e⟩
  obtain ⟨c,hcode⟩:=arr_code (len:=len) (lay:=lay) (g:=fun j f=>(w.cell? ⟨b,off+j * lay.length+f,none⟩).getD undef) (fun j hj f κ hκ=>let ⟨n,h1,_⟩:=each j hj f κ hκ;⟨n,h1⟩)
  refine ⟨b,off,len,cap,c,rfl,h4,h5,fun j hj f κ hκ=>?_⟩
  obtain ⟨n,e1,e2⟩:=each j hj f κ hκ
  have:=hcode j hj f κ hκ
  simp only [e2,Option.getD_some] at this
  rw [e2,this]
end
theorem gvIs_of {U:FIx} {V:FBx} {W:World} {kv:Kv} {iv:Nat→Int} {bv:Nat→Bool} {lay:List Kd} {G:Gv} {off len:Nat} (hlay:G.lay=lay) (ho:G.o.den (sta (mkFI U) (mkFB V) kv iv bv) dyn0=some (Int.ofNat off)) (hn:G.n.den (sta (mkFI U) (mkFB V) kv iv bv) dyn0=some (Int.ofNat len))
  (h:∀ j,j < len→∀ (f:Nat) (κ:Kd),lay[f]? = some κ→W.cell? ⟨kv.n G.a,off+j * lay.length+f,none⟩=some (κ.of (gt (iv G.c) j f))):GvIs (sta (mkFI U) (mkFB V) kv iv bv) W G:=by
 refine ⟨off,len,ho,hn,fun j hj f κ hf=>?_⟩
 rw [hlay] at hf ⊢
 rw [show (sta (mkFI U) (mkFB V) kv iv bv).kv G.a=kv.n G.a from rfl,h j hj f κ hf]
 congr 1
 cases κ with
 | nt k=>simp only [Kd.val,Kd.of,sta,mkFI,ctor_lt,if_true,kindI_ctor,Int.toNat_natCast,Int.reduceEq,if_false]
 | tv=>simp only [Kd.val,Kd.of,sta,mkFB,if_true,Int.toNat_natCast,Int.reduceEq,if_false]
theorem ret_true {c:Con} {σ:Sta} {w w':World} {e:Ending} (hos:c.os=[⟨[],.bo (.c true),[],0,0,[]⟩]) (h:c.Post σ w e w'):e=.returned (.bool true)∧Below w.heap.size w w':=by
 obtain ⟨u,he,hb,ho⟩:=h
 refine ⟨?_,hb⟩
 have hu:=ho ⟨[],.bo (.c true),[],0,0,[]⟩ (by rw [hos];exact List.mem_cons_self ..) (fun p hp=>by cases hp)
 obtain ⟨ρ,_,_,_,_,_,_,_,hz⟩:=hu
 simp only [SV.Is,SB.den] at hz
 obtain ⟨q,hq,rfl⟩:=hz
 cases hq
 exact he
theorem wf64 {z:Int} (h:(Lit.int .i64 z).wf=true):-9223372036854775808≤z∧z≤9223372036854775807:=by
 simp [Lit.wf,IntKind.min,IntKind.max,IntKind.signed,IntKind.bits] at h
 omega
end Go.Sx
