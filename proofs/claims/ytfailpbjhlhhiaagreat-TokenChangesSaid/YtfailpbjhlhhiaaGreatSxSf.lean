/- A symbolic executor: statements: slices that came in, as frozen ones. -/
import Derived.Test.YtfailpbjhlhhiaaGreatSxSt
namespace Go.Sx
set_option linter.unusedSimpArgs false
set_option linter.unusedVariables false
open Go.ChangeShapes Go.WideShapes Go.ChangeAt Go.RowKit
section
variable {P:Program} {H:Type} {enc:TypeId×Value→H} {base:Nat} {w:World}
theorem open_aggF (K:Kids P (· < P.types.size)) {U:FIx} {V:FBx} {t:TypeId} {fs:Array Field} {v:Value} {x:DataW H} {ps:List MemPlace} {d:Nat} {lay:List Kd} {r:Reach} {b0:Nat} {sp:Nat→Bool} {held:Bool} (ht:P.underlying t=some (.struct fs)) (he:t < P.types.size) (hlay:layT P d t=some lay)
  (hval:Value.okWide P w r b0 t v) (h:DataW.Trod enc P w base sp held t v x ps) :
  ∃ cs:List Value,v=.agg cs.toArray∧cs.length=lay.length∧∀ (f:Nat) (κ:Kd),lay[f]? = some κ→KO (sta (mkFI U) (mkFB V) ⟨fun _=>0,fun _=>ByteArray.empty⟩ (fun _=>0) (fun _=>false)) (fun b=>w.heap[b]?) κ (cs[f]?):=by
 obtain ⟨cs,rfl,_⟩:=okWide_struct ht hval
 obtain ⟨h1,h2⟩:=open_val K (U:=U) (V:=V) (kv:=⟨fun _=>0,fun _=>ByteArray.empty⟩) (iv:=fun _=>0) (bv:=fun _=>false) he hlay h
 exact ⟨cs.toList,by simp,h1,h2⟩
theorem ko_fsO {U:FIx} {V:FBx} {F:Nat→Option Obj} {i:Nat} {o:Option Value} (h:KO (sta (mkFI U) (mkFB V) ⟨fun _=>0,fun _=>ByteArray.empty⟩ (fun _=>0) (fun _=>false)) F (.fs i) o):∃ v y,o=some v∧flenC y≤maxLen∧∀ kv iv bv,Fz (sta (mkFI U) (mkFB V) kv iv bv) F i y v:=by
 obtain ⟨y,v,h1,z,m⟩:=ko_fs h
 exact ⟨v,y,h1,by rw [flen_of] at m;exact m,fun kv iv bv=>Fz.fi (σ:=sta (mkFI U) (mkFB V) ⟨fun _=>0,fun _=>ByteArray.empty⟩ (fun _=>0) (fun _=>false)) (τ:=sta (mkFI U) (mkFB V) kv iv bv) rfl rfl z⟩
end
end Go.Sx
