/- The pool: plain laws of Same. -/
import Derived.Test.YtbcbpicfnfkdeaaPkAa
namespace Go.Sx.Pk
set_option linter.unusedVariables false
set_option linter.unusedSimpArgs false
open Go Go.Sx
def eqBy (a b i:Int):Prop:=∀ j:Nat,(j:Int) < i→by8 a j 0=by8 b j 0
theorem eqBy_zero (a b:Int):eqBy a b 0:=fun j hj=>by omega
theorem eqBy_suc {a b i:Int} (h:eqBy a b i) (h0:0≤i) (e:by8 a i.toNat 0=by8 b i.toNat 0):eqBy a b (i+1):=fun j hj=>by
 by_cases q:(j:Int) < i
 ·exact h j q
 ·have:j=i.toNat:=by omega
  subst this;exact e
theorem bytesC_eq {a b:Int} (hl:flenC a=flenC b) (h:eqBy a b (flenC b)):bytesC a=bytesC b:=by
 unfold bytesC
 rw [hl]
 congr 2
 refine List.map_congr_left fun j hj=>?_
 have:=h j (by have:=List.mem_range.1 hj;omega)
 unfold by8 at this
 rw [this]
theorem bytesC_len {a b:Int} (h:bytesC a=bytesC b):flenC a=flenC b:=by
 have h1:(bytesC a).size=(bytesC b).size:=by rw [h]
 have e:∀ y,(bytesC y).size=(flenC y).toNat:=fun y=>by simp [bytesC,ByteArray.size]
 rw [e,e] at h1
 have:=flenC_nn a
 have:=flenC_nn b
 omega
theorem u8_of {x y:Int} (hx:0≤x∧x≤255) (hy:0≤y∧y≤255) (h:UInt8.ofNat x.toNat=UInt8.ofNat y.toNat):x=y:=by
 have:=congrArg UInt8.toNat h
 simp only [UInt8.toNat_ofNat'] at this
 omega
theorem bytesC_at {a b:Int} (h:bytesC a=bytesC b) {j:Nat} (hj:(j:Int) < flenC b):by8 a j 0=by8 b j 0:=by
 have hl:=bytesC_len h
 unfold bytesC at h
 have h1:=congrArg (fun x:ByteArray=>x.data.toList[j]?) h
 simp only [List.getElem?_map] at h1
 rw [List.getElem?_range (by omega),List.getElem?_range (by omega)] at h1
 simp only [Option.map_some,Option.some.injEq] at h1
 have r:∀ y:Int,0≤IntKind.u8.wrap y∧IntKind.u8.wrap y≤255:=fun y=>by rw [wrap_u8];omega
 exact u8_of (r _) (r _) h1
theorem bytesC_no {a b i:Int} (h0:0≤i) (h1:i < flenC b) (e:by8 a i.toNat 0≠by8 b i.toNat 0):¬ bytesC a=bytesC b:=fun h=>e (bytesC_at h (by omega))
theorem sameN_yes {a b n m i:Int} (h:n=m) (ht:isT a b i) (hi:n≤i):sameN a b n m:=⟨h,fun j hj=>ht j (by omega)⟩
theorem sameN_len {a b n m:Int} (h:n≠m):¬ sameN a b n m:=fun g=>h g.1
theorem sameN_no {a b n m i:Int} (h0:0≤i) (h1:i < n) (e:¬ sameP a b i.toNat):¬ sameN a b n m:=fun g=>e (g.2 _ (by omega))
theorem sameP_eq {a b c d:Int} {j:Nat} (h1:Rw a c j j) (h2:Rw b d j j):sameP a b j↔sameP c d j:=by
 obtain ⟨a1,a2,a3⟩:=h1
 obtain ⟨b1,b2,b3⟩:=h2
 unfold sameP;rw [a1,a2,a3,b1,b2,b3]
theorem sameN_rel {a b n m w v:Int} (h1:relB a n w) (h2:relB b m v):sameN a b n m↔sameN w v (flenC w) (flenC v):=by
 obtain ⟨e1,r1⟩:=h1
 obtain ⟨e2,r2⟩:=h2
 subst e1 e2
 refine ⟨fun ⟨e,g⟩=>⟨e,fun j hj=>(sameP_eq (r1 j hj) (r2 j (by omega))).1 (g j hj)⟩,fun ⟨e,g⟩=>⟨e,fun j hj=>(sameP_eq (r1 j hj) (r2 j (by omega))).2 (g j hj)⟩⟩
theorem sameN_symm {a b n m:Int}:sameN a b n m↔sameN b a m n:=by
 have f:∀ {a b n m:Int},sameN a b n m→sameN b a m n:=fun ⟨e,g⟩=>⟨e.symm,fun j hj=>by
  obtain ⟨h1,h2,h3⟩:=g j (by omega)
  exact ⟨h1.symm,h2.symm,h3.symm⟩⟩
 exact ⟨f,f⟩
theorem fewI_go {y k n:Int} (h0:0≤k) (h:k < flenC y∧k≤100∧n≤2000):fewI y (200 - k).toNat k n=fewI y (200 - (k+1)).toNat (k+1) (n+(if 2001 < flenC (gt y k.toNat 2) then 2001 else flenC (gt y k.toNat 2))):=by
 rw [show (200 - k).toNat=(200 - (k+1)).toNat+1 by omega]
 show (if _ then _ else _)=_
 rw [if_pos h]
theorem fewI_end {y k n:Int} {f:Nat} (h:¬ (k < flenC y∧k≤100∧n≤2000)):fewI y f k n=n:=by
 cases f with
 | zero=>rfl
 | succ f=>show (if _ then _ else _)=_;rw [if_neg h]
theorem fewT_go {c N most i m n:Int} (h0:0≤i) (h1:most≤100) (h:i < N∧i≤most∧m≤100):fewT c N most (102 - i).toNat i m n=fewT c N most (102 - (i+1)).toNat (i+1) (m+(if 101 < flenC (gt c i.toNat 2) then 101 else flenC (gt c i.toNat 2))) (fewI (gt c i.toNat 2) (200 - 0:Int).toNat 0 n):=by
 rw [show (102 - i).toNat=(102 - (i+1)).toNat+1 by omega]
 show (if _ then _ else _)=_
 rw [if_pos h];rfl
theorem fewT_end {c N most i m n:Int} {f:Nat} (h:¬ (i < N∧i≤most∧m≤100)):fewT c N most f i m n=(N≤most∧m≤100∧n≤2000):=by
 cases f with
 | zero=>rfl
 | succ f=>show (if _ then _ else _)=_;rw [if_neg h]
end Go.Sx.Pk
