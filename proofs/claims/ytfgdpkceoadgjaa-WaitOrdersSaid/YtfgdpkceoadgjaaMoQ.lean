/- Modes: whether two go together, by contract. -/
import Derived.Test.YtfgdpkceoadgjaaMoD
namespace Go.Sx.Mhw
set_option linter.unusedVariables false
set_option linter.unusedSimpArgs false
set_option linter.unusedSectionVars false
open Go Go.Sx Go.Proofs
def Msk (s c k:Int):Prop:=(s=0∨s=1∨s=3∨s=7∨s=11∨s=15∨s=31∨s=63)∧(covA 0 c k↔s≤1)∧(covA 1 c k↔s≤3)∧(covA 2 c k↔s≤7)∧(covA 3 c k↔(s≤3∨s=11))∧(covA 4 c k↔s≤31)
theorem covA_succ {m c k:Int} (h:0≤k):covA m c (k+1)↔(covA m c k∧covP m (fl c k.toNat 0)):=
 ⟨fun hh=>⟨fun i hi=>hh i (by omega),hh k.toNat (by omega)⟩,fun hh=>all_succ h hh.1 hh.2⟩
theorem Msk.zero (c:Int):Msk 0 c 0:=by
 have h:∀ m,covA m c 0:=fun m i hi=>by omega
 refine ⟨.inl rfl,?_,?_,?_,?_,?_⟩<;>simp [h]
theorem Msk.step {s c k d:Int} (h:Msk s c k) (hk:0≤k) (hd:(fl c k.toNat 0=0∧d=1)∨(fl c k.toNat 0=1∧d=3)∨(fl c k.toNat 0=2∧d=7)∨(fl c k.toNat 0=3∧d=11)∨(fl c k.toNat 0=4∧d=31)∨(fl c k.toNat 0=5∧d=63)) :
  Msk (IntKind.u64.wrap (BitVec.ofInt IntKind.u64.bits s ||| BitVec.ofInt IntKind.u64.bits d).toNat) c (k+1):=by
 obtain ⟨h0,h1,h2,h3,h4,h5⟩:=h
 unfold Msk
 simp only [covA_succ hk,h1,h2,h3,h4,h5]
 rcases hd with ⟨e,rfl⟩ | ⟨e,rfl⟩ | ⟨e,rfl⟩ | ⟨e,rfl⟩ | ⟨e,rfl⟩ | ⟨e,rfl⟩<;>rw [e]<;>rcases h0 with rfl | rfl | rfl | rfl | rfl | rfl | rfl | rfl<;>decide
theorem Msk.fin {s c k:Int} (h:Msk s c k) (x:Int) (hx:x=1∨x=3∨x=7∨x=11∨x=31∨x=63):IntKind.u64.wrap (BitVec.ofInt IntKind.u64.bits s &&& ~~~BitVec.ofInt IntKind.u64.bits x).toNat=0↔(if x=11 then s≤3∨s=11 else s≤x∧(x=63∨x=31∨s≠11∧s≠15)):=by
 obtain ⟨h0,_⟩:=h
 rcases hx with rfl | rfl | rfl | rfl | rfl | rfl<;>rcases h0 with rfl | rfl | rfl | rfl | rfl | rfl | rfl | rfl<;>decide
end Go.Sx.Mhw
