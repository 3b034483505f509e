/- Timers: contracts out of the kit: maps.Clone. -/
import Derived.Test.YtobmggabgicpgaaGreatSlD
import Derived.Shelf.SlMaps.Clone
namespace Go.Sx.Sl
set_option linter.unusedSimpArgs false
set_option linter.unusedVariables false
open Go Go.Sx Go.Sx.Ti Go.Proofs Go.RowKit
def ren39:Go.Shelf.Ren:=⟨fun n=>match n with | 5=>80 | 7=>95 | n=>n,fun n=>match n with | 4=>4 | 20=>20 | 23=>113 | 25=>3 | 3=>2 | n=>n,fun n=>n⟩
theorem lays39:SlLaysW.n5 Tryz.prog ren39 where
 mixed:=by kernel_rfl
 f5:=⟨Tryz.f80.name,by kernel_rfl,by kernel_rfl⟩
 f7:=by kernel_rfl
 t4:=by kernel_rfl
 a4:=fun w=>by kernel_rfl
 z4:=fun w=>by kernel_rfl
 v4:=fun w=>by kernel_rfl
 t20:=by kernel_rfl
 a20:=fun w=>by kernel_rfl
 z20:=fun w=>by kernel_rfl
 v20:=fun w=>by kernel_rfl
 t23:=by kernel_rfl
 a23:=fun w=>by kernel_rfl
 z23:=fun w=>by kernel_rfl
 v23:=fun w=>by kernel_rfl
noncomputable def mpC (i:Nat) (c:SI):Nat×Bk:=(i,.mapc .i64 .i64 c)
noncomputable def tClone:Com:=⟨80,[0],[.mp (.n 0)],[mpC 0 (.v 0)],1,[],[],[⟨[],.mp (.n 1),[mpC 0 (.v 0),mpC 1 (.v 0)],2,0,[]⟩],.c 0⟩
theorem tClone_ok:tClone.Ok Tryz.prog FI FB:=by
 intro kv iv bv hin hF w bl hM hinj us hus
 simp only [tClone,SV.isL_cons,SV.isL_nil] at hus
 obtain ⟨u,r,rfl,hu,rfl⟩:=hus
 simp only [SV.Is,SR.den,dynM] at hu
 obtain ⟨b,e1,rfl⟩:=hu
 have:bl 0=b:=by simpa [tClone] using e1
 subst this
 obtain ⟨o,hb,cv,l,clock,e5,hmp,rfl⟩:=hM 0 (.mapc .i64 .i64 (.v 0)) (by simp [tClone,mpC])
 have hlt:bl 0 < w.heap.size:=(Array.getElem?_eq_some_iff.1 hb).1
 have hc:=AnyW.maps_Clone lays39 (bl 0) l.toArray clock w hb
 refine Calls.mono hc ?_
 rintro e w' ⟨rfl,rfl⟩
 have hold:∀ b,b < w.heap.size→(w.alloc (.map l.toArray clock)).heap[b]? = w.heap[b]? := fun b hb=>getElem?_push_lt hb
 refine ⟨_,rfl,⟨rfl,rfl,rfl,by simp,fun b hb _=>hold b hb⟩,?_⟩
 intro o ho hcs
 simp only [tClone,List.mem_singleton] at ho
 subst ho
 obtain ⟨ρ,hρ⟩:∃ ρ:Dyn,ρ=⟨fun i=>if i=0 then some (bl 0) else if i=1 then some w.heap.size else none,fun _=>none,fun _=>none⟩:=⟨_,rfl⟩
 have h0:ρ.bl 0=some (bl 0):=by rw [hρ];rfl
 have h1:ρ.bl 1=some w.heap.size:=by rw [hρ];rfl
 have hall:∀ i b,ρ.bl i=some b→(i=0∧b=bl 0)∨(i=1∧b=w.heap.size):=by
  intro i b h
  rw [hρ] at h
  simp only at h
  split at h
  ·rename_i e;exact .inl ⟨e,(Option.some.inj h).symm⟩
  ·split at h
   ·rename_i e;exact .inr ⟨e,(Option.some.inj h).symm⟩
   ·cases h
 refine ⟨ρ,by simp,?_,?_,?_,?_,?_,?_,?_,?_⟩
 ·intro i bk hm
  simp only [mpC,List.mem_cons,Prod.mk.injEq,List.not_mem_nil,or_false] at hm
  rcases hm with ⟨rfl,rfl⟩ | ⟨rfl,rfl⟩
  ·exact ⟨rfl,_,_,h0,by rw [hold _ hlt];exact hb,cv,l,clock,e5,hmp,rfl⟩
  ·exact ⟨rfl,_,_,h1,(MapKept.heap_alloc w _).1,cv,l,clock,e5,hmp,rfl⟩
 ·intro i i' bk bk' b hm hm' hb1 hb2
  rcases hall i b hb1 with ⟨r1,r2⟩ | ⟨r1,r2⟩<;>rcases hall i' b hb2 with ⟨s1,s2⟩ | ⟨s1,s2⟩<;>omega
 ·intro i b h
  rcases hall i b h with ⟨rfl,rfl⟩ | ⟨rfl,rfl⟩
  ·exact ⟨by simp,by simp;omega,fun hh=>by simp [tClone] at hh⟩
  ·exact ⟨by simp,by simp,fun _=>Nat.le_refl _⟩
 ·intro i hi
  have:i=0:=by simp [tClone] at hi;omega
  subst this;exact h0
 ·intro i n h;rw [hρ] at h;cases h
 ·intro i h;exact absurd h (Nat.not_lt_zero _)
 ·intro i;rw [hρ]
 ·simp only [SV.Is,SR.den];exact ⟨_,h1,rfl⟩
end Go.Sx.Sl
