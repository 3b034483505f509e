/- Sorting: rows, arrays of rows by a code, the order of asking. -/
import Derived.Test.YtfgdpkceoadgjaaSxSt
import Derived.Sort.AssemblyPlain
namespace Go.Sx.Mhw
noncomputable section
set_option linter.unusedSimpArgs false
set_option linter.unusedVariables false
open Go Go.Sx
def fl (c:Int) (i f:Nat):Int:=IntKind.i64.wrap (gt c i f)
def rowF (c:Int) (j:Nat):Nat→Int:=fun f=>if f < 6 then fl c j f else 0
def Rw:={ r:Nat→Int // ∃ c j,r=rowF c j }
def rowU (c:Int) (j:Nat):Rw:=⟨rowF c j,c,j,rfl⟩
instance:Inhabited Rw:=⟨rowU 0 0⟩
def arrOf (c n:Int):Array Rw:=Array.ofFn (n:=n.toNat) fun j=>rowU c j
def codeOf (d:Array Rw):Int:=arrC d.size 6 fun j f=>d[j]!.1 f
def cmpU (pa ta ga pb tb gb:Int):Int:=
 if 0≤ga∧0≤gb then (if ta < tb then -1 else if tb < ta then 1 else 0)
 else if 0≤ga then -1 else if 0≤gb then 1
 else if pb < pa then -1 else if pa < pb then 1 else if ta < tb then -1 else if tb < ta then 1 else 0
def ltU (lim:Int) (x y:Rw):Bool:=decide (cmpU (x.1 3) (x.1 5) (x.1 4 - lim) (y.1 3) (y.1 5) (y.1 4 - lim) < 0)
theorem cmpU_in (pa ta ga pb tb gb:Int):-1≤cmpU pa ta ga pb tb gb∧cmpU pa ta ga pb tb gb≤1:=by
 unfold cmpU;repeat' split
 all_goals omega
theorem cmpU_lt (pa ta ga pb tb gb:Int):cmpU pa ta ga pb tb gb < 0↔(0≤ga∧0≤gb∧ta < tb)∨(0≤ga∧gb < 0)∨(ga < 0∧gb < 0∧(pb < pa∨(pa=pb∧ta < tb))):=by
 unfold cmpU
 repeat' split
 all_goals omega
theorem ltU_swo (lim:Int):Sort.SWO (ltU lim) where
 irrefl x:=by
  simp only [ltU,cmpU_lt,decide_eq_false_iff_not]
  omega
 trans x y z h1 h2:=by
  simp only [ltU,cmpU_lt,decide_eq_true_eq] at *
  generalize x.1 3=x3 at *;generalize x.1 4=x4 at *;generalize x.1 5=x5 at *
  generalize y.1 3=y3 at *;generalize y.1 4=y4 at *;generalize y.1 5=y5 at *
  generalize z.1 3=z3 at *;generalize z.1 4=z4 at *;generalize z.1 5=z5 at *
  omega
 ntrans x y z h1 h2:=by
  simp only [ltU,cmpU_lt,decide_eq_false_iff_not] at *
  generalize x.1 3=x3 at *;generalize x.1 4=x4 at *;generalize x.1 5=x5 at *
  generalize y.1 3=y3 at *;generalize y.1 4=y4 at *;generalize y.1 5=y5 at *
  generalize z.1 3=z3 at *;generalize z.1 4=z4 at *;generalize z.1 5=z5 at *
  omega
theorem size_arrOf (c n:Int):(arrOf c n).size=n.toNat:=by simp [arrOf]
theorem get_arrOf {c n:Int} {j:Nat} (h:(j:Int) < n):(arrOf c n)[j]! = rowU c j:=by
 have:j < (arrOf c n).size:=by rw [size_arrOf];omega
 rw [getElem!_pos (arrOf c n) j this];simp [arrOf]
theorem rowU_lt {c:Int} {j f:Nat} (h:f < 6):(rowU c j).1 f=fl c j f:=if_pos h
theorem rowU_ge {c:Int} {j f:Nat} (h:¬ f < 6):(rowU c j).1 f=0:=if_neg h
theorem fl_has (c:Int) (j f:Nat):kmin .i64≤fl c j f∧fl c j f≤kmax .i64:=wrap_has .i64 _
theorem fl_arr {n F:Nat} {g:Nat→Nat→Int} {j f:Nat} (hj:j < n) (hf:f < F) (h:kmin .i64≤g j f∧g j f≤kmax .i64):fl (arrC n F g) j f=g j f:=by
 unfold fl
 rw [gt_arrC,if_pos ⟨hj,hf⟩,wrap_in .i64 _ h.1 h.2]
theorem fl_codeOf {c n:Int} {d:Array Rw} (h:arrOf c n=d) {j f:Nat} (hj:(j:Int) < n) (hf:f < 6):fl (codeOf d) j f=fl c j f:=by
 subst h
 have hs:j < (arrOf c n).size:=by rw [size_arrOf];omega
 have e:(arrOf c n)[j]!.1 f=fl c j f:=by rw [get_arrOf hj,rowU_lt hf]
 unfold codeOf
 rw [fl_arr hs hf (by rw [e];exact fl_has ..),e]
theorem arrOf_ext {c n:Int} {d:Array Rw} (hs:d.size=n.toNat) (h:∀ j:Nat,(j:Int) < n→rowU c j=d[j]!):arrOf c n=d:=by
 refine Array.ext (by rw [size_arrOf,hs]) fun j h1 h2=>?_
 rw [size_arrOf] at h1
 have:=h j (by omega)
 rw [getElem!_pos d j h2] at this
 rw [← this];simp [arrOf]
theorem get_swp (d:Array Rw) {i j k:Nat} (hi:i < d.size) (hj:j < d.size) (hk:k < d.size):(Sort.swp d i j)[k]! = if k=j then d[i]! else if k=i then d[j]! else d[k]! := by
 by_cases e1:k=j
 ·subst e1;rw [if_pos rfl];exact Sort.swp_right d i k hj
 ·rw [if_neg e1]
  by_cases e2:k=i
  ·subst e2;rw [if_pos rfl];exact Sort.swp_left d k j hi e1
  ·rw [if_neg e2];exact Sort.swp_other d i j k e2 e1
theorem arrOf_swp {c c' n:Int} {i j:Nat} (hi:(i:Int) < n) (hj:(j:Int) < n) (h:∀ k:Nat,(k:Int) < n→∀ f:Nat,f < 6→fl c' k f=if k=j then fl c i f else if k=i then fl c j f else fl c k f):arrOf c' n=Sort.swp (arrOf c n) i j:=by
 refine arrOf_ext (by simp [Sort.swp,size_arrOf]) fun k hk=>?_
 rw [get_swp _ (by rw [size_arrOf];omega) (by rw [size_arrOf];omega) (by rw [size_arrOf];omega),get_arrOf hi,get_arrOf hj,get_arrOf hk]
 refine Subtype.ext (funext fun f=>?_)
 by_cases hf:f < 6
 ·have:=h k hk f hf
  split
  ·rename_i e;rw [if_pos e] at this;rw [rowU_lt hf,rowU_lt hf,this]
  ·rename_i e;rw [if_neg e] at this
   split
   ·rename_i e2;rw [if_pos e2] at this;rw [rowU_lt hf,rowU_lt hf,this]
   ·rename_i e2;rw [if_neg e2] at this;rw [rowU_lt hf,rowU_lt hf,this]
 ·(repeat' split)<;>rw [rowU_ge hf,rowU_ge hf]
theorem arrOf_codeOf {d:Array Rw} {n:Int} (h:d.size=n.toNat):arrOf (codeOf d) n=d:=by
 refine arrOf_ext h fun j hj=>?_
 have hs:j < d.size:=by omega
 refine Subtype.ext (funext fun f=>?_)
 obtain ⟨c,k,e⟩:=d[j]!.2
 by_cases hf:f < 6
 ·rw [rowU_lt hf]
  unfold codeOf
  have hr:d[j]!.1 f=fl c k f:=by rw [e];exact if_pos hf
  rw [fl_arr hs hf (by rw [hr];exact fl_has ..)]
 ·rw [rowU_ge hf,e];exact (if_neg hf).symm
theorem ltU_at {c n lim:Int} {i j:Nat} (hi:(i:Int) < n) (hj:(j:Int) < n):(ltU lim (arrOf c n)[i]! (arrOf c n)[j]! = true)=(cmpU (fl c i 3) (fl c i 5) (fl c i 4 - lim) (fl c j 3) (fl c j 5) (fl c j 4 - lim) < 0):=by
 rw [get_arrOf hi,get_arrOf hj]
 simp only [ltU,rowU_lt (show 3 < 6 by omega),rowU_lt (show 5 < 6 by omega),rowU_lt (show 4 < 6 by omega),decide_eq_true_eq]
def insU (c n a b lim:Int):Int:=codeOf (Sort.insertionSort (ltU lim) (arrOf c n) a.toNat b.toNat)
def sifU (c n lo hi first lim:Int):Int:=codeOf (Sort.siftDown (ltU lim) hi.toNat first.toNat lo.toNat (arrOf c n))
def heaU (c n a b lim:Int):Int:=codeOf (Sort.heapSort (ltU lim) (arrOf c n) a.toNat b.toNat)
def parU (c n a b p lim:Int):Nat×Bool×Array Rw:=Sort.partition (ltU lim) (arrOf c n) a.toNat b.toNat p.toNat
def peqU (c n a b p lim:Int):Nat×Array Rw:=Sort.partitionEqual (ltU lim) (arrOf c n) a.toNat b.toNat p.toNat
def pinU (c n a b lim:Int):Array Rw×Bool:=Sort.partialInsertionSort (ltU lim) (arrOf c n) a.toNat b.toNat
def brkU (c n a b:Int):Int:=codeOf (Sort.breakPatterns (arrOf c n) a.toNat b.toNat)
def hintN:Sort.Hint→Int
 | .unknown=>0 | .increasing=>1 | .decreasing=>2
def chsU (c n a b lim:Int):Nat×Sort.Hint:=Sort.choosePivot (ltU lim) (arrOf c n) a.toNat b.toNat
def revU (c n a b:Int):Int:=codeOf (Sort.reverseRange (arrOf c n) a.toNat b.toNat)
def pdqU (c n a b l lim:Int):Int:=codeOf (Sort.pdq (ltU lim) (arrOf c n) a.toNat b.toNat l.toNat true true)
def medU (c n a b d lim:Int):Nat×Nat:=Sort.median (ltU lim) (arrOf c n) a.toNat b.toNat d.toNat 0
theorem medU_in (c n a b d lim:Int):0≤((medU c n a b d lim).2:Int)∧((medU c n a b d lim).2:Int)≤3:=by
 unfold medU Sort.median Sort.order2
 simp only
 repeat' split
 all_goals simp
theorem hintN_in (h:Sort.Hint):0≤hintN h∧hintN h≤2:=by cases h<;>decide
end
end Go.Sx.Mhw
