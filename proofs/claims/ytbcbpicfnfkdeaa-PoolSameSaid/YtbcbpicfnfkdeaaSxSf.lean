/- A symbolic executor: statements: slices that came in, as frozen ones. -/
import Derived.Test.YtbcbpicfnfkdeaaSxSt
namespace Go.Sx
set_option linter.unusedSimpArgs false
set_option linter.unusedVariables false
open Go.ChangeShapes Go.WideShapes Go.ChangeAt Go.RowKit
section
variable {P:Program} {H:Type} {enc:TypeId×Value→H} {base:Nat} {w:World}
theorem open_fs (K:Kids P (· < P.types.size)) {U:FIx} {V:FBx} {t e:TypeId} {v:Value} {x:DataW H} {ps:List MemPlace} {d i:Nat} {r:Reach} {b0:Nat} (ht:P.underlying t=some (.slice e)) (he:t < P.types.size) (hlay:layT P d t=some [.fs i])
  (hval:Value.okWide P w r b0 t v) (h:DataW.Trod enc P w base (fun _=>true) true t v x ps) :
  ∃ y:Int,flenC y≤maxLen∧∀ kv iv bv,Fz (sta (mkFI U) (mkFB V) kv iv bv) (fun b=>w.heap[b]?) i y v:=by
 obtain ⟨a,len,cap,rfl⟩:=okWide_slice ht hval
 obtain ⟨hl,hc⟩:=open_val K (U:=U) (V:=V) (kv:=⟨fun _=>0,fun _=>ByteArray.empty⟩) (iv:=fun _=>0) (bv:=fun _=>false) he hlay h
 obtain ⟨y,u,e1,z,m⟩:=ko_fs (hc 0 (.fs i) rfl)
 have:u=.slice a len cap:=by
  have e2:(Value.slice a len cap).cells.toList[0]? = some (.slice a len cap):=rfl
  rw [e2] at e1
  exact (Option.some.inj e1).symm
 subst this
 exact ⟨y,by rw [flen_of] at m;exact m,fun kv iv bv=>Fz.fi (σ:=sta (mkFI U) (mkFB V) ⟨fun _=>0,fun _=>ByteArray.empty⟩ (fun _=>0) (fun _=>false)) (τ:=sta (mkFI U) (mkFB V) kv iv bv) rfl rfl z⟩
theorem open_aggF (K:Kids P (· < P.types.size)) {U:FIx} {V:FBx} {t:TypeId} {fs:Array Field} {v:Value} {x:DataW H} {ps:List MemPlace} {d:Nat} {lay:List Kd} {r:Reach} {b0:Nat} {sp:Nat→Bool} {held:Bool} (ht:P.underlying t=some (.struct fs)) (he:t < P.types.size) (hlay:layT P d t=some lay)
  (hval:Value.okWide P w r b0 t v) (h:DataW.Trod enc P w base sp held t v x ps) :
  ∃ cs:List Value,v=.agg cs.toArray∧cs.length=lay.length∧∀ (f:Nat) (κ:Kd),lay[f]? = some κ→KO (sta (mkFI U) (mkFB V) ⟨fun _=>0,fun _=>ByteArray.empty⟩ (fun _=>0) (fun _=>false)) (fun b=>w.heap[b]?) κ (cs[f]?):=by
 obtain ⟨cs,rfl,_⟩:=okWide_struct ht hval
 obtain ⟨h1,h2⟩:=open_val K (U:=U) (V:=V) (kv:=⟨fun _=>0,fun _=>ByteArray.empty⟩) (iv:=fun _=>0) (bv:=fun _=>false) he hlay h
 exact ⟨cs.toList,by simp,h1,h2⟩
theorem ko_fsO {U:FIx} {V:FBx} {F:Nat→Option Obj} {i:Nat} {o:Option Value} (h:KO (sta (mkFI U) (mkFB V) ⟨fun _=>0,fun _=>ByteArray.empty⟩ (fun _=>0) (fun _=>false)) F (.fs i) o):∃ v y,o=some v∧flenC y≤maxLen∧∀ kv iv bv,Fz (sta (mkFI U) (mkFB V) kv iv bv) F i y v:=by
 obtain ⟨y,v,h1,z,m⟩:=ko_fs h
 exact ⟨v,y,h1,by rw [flen_of] at m;exact m,fun kv iv bv=>Fz.fi (σ:=sta (mkFI U) (mkFB V) ⟨fun _=>0,fun _=>ByteArray.empty⟩ (fun _=>0) (fun _=>false)) (τ:=sta (mkFI U) (mkFB V) kv iv bv) rfl rfl z⟩
theorem fs_len {U:FIx} {V:FBx} {F:Nat→Option Obj} {kv:Kv} {iv:Nat→Int} {bv:Nat→Bool} {t e:TypeId} {v:Value} {x:DataW H} {ps:List MemPlace} {y:Int} {i:Nat} {sp:Nat→Bool} {held:Bool} (ht:P.underlying t=some (.slice e)) (h:DataW.Trod enc P w base sp held t v x ps)
  (z:Fz (sta (mkFI U) (mkFB V) kv iv bv) F i y v):flenC y=0∨∃ elems spare,x=.slice elems spare∧flenC y=(elems.length:Int):=by
 obtain ⟨a,len,cap,rfl,_,hl,_⟩:=z.cells
 rw [flen_of] at hl
 obtain ⟨fuel,hf⟩:=h
 have e2:(Value.slice a len cap).cells.toList=[.slice a len cap]:=rfl
 rw [e2] at hf
 rcases DataW.trod_slice ht hf with ⟨h0,_⟩ | ⟨a',len',cap',elems,rest,n,_,h1,h2,h3,h4,h5,h6,_⟩
 ·injection h0 with h0 _
  injection h0 with _ h0 _
  subst h0;exact .inl hl
 ·injection h1 with h1 _
  injection h1 with _ h1 _
  subst h1
  injection h2 with h2 _
  refine .inr ⟨_,_,h2,?_⟩
  rw [hl,List.length_map,h6]
end
end Go.Sx
