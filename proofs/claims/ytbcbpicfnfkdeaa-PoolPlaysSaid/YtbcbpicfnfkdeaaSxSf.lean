/- A symbolic executor: statements: slices that came in, as frozen ones. -/
import Derived.Test.YtbcbpicfnfkdeaaSxSt
namespace Go.Sx
set_option linter.unusedSimpArgs false
set_option linter.unusedVariables false
open Go.ChangeShapes Go.WideShapes Go.ChangeAt Go.RowKit
section
variable {P:Program} {H:Type} {enc:TypeId×Value→H} {base:Nat} {w:World}
theorem open_fs (K:Kids P (· < P.types.size)) {U:FIx} {V:FBx} {t e:TypeId} {v:Value} {x:DataW H} {ps:List MemPlace} {d i:Nat} {r:Reach} {b0:Nat} (ht:P.underlying t=some (.slice e)) (he:t < P.types.size) (hlay:layT P d t=some [.fs i])
  (hval:Value.okWide P w r b0 t v) (h:DataW.Trod enc P w base (fun _=>true) true t v x ps) :
  ∃ y:Int,flenC y≤maxLen∧∀ kv iv bv,Fz (sta (mkFI U) (mkFB V) kv iv bv) (fun b=>w.heap[b]?) i y v:=by
 obtain ⟨a,len,cap,rfl⟩:=okWide_slice ht hval
 obtain ⟨hl,hc⟩:=open_val K (U:=U) (V:=V) (kv:=⟨fun _=>0,fun _=>ByteArray.empty⟩) (iv:=fun _=>0) (bv:=fun _=>false) he hlay h
 obtain ⟨y,u,e1,z,m⟩:=ko_fs (hc 0 (.fs i) rfl)
 have:u=.slice a len cap:=by
  have e2:(Value.slice a len cap).cells.toList[0]? = some (.slice a len cap):=rfl
  rw [e2] at e1
  exact (Option.some.inj e1).symm
 subst this
 exact ⟨y,by rw [flen_of] at m;exact m,fun kv iv bv=>Fz.fi (σ:=sta (mkFI U) (mkFB V) ⟨fun _=>0,fun _=>ByteArray.empty⟩ (fun _=>0) (fun _=>false)) (τ:=sta (mkFI U) (mkFB V) kv iv bv) rfl rfl z⟩
end
end Go.Sx
