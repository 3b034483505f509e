/- The order of asking, as plain mathematics. -/
import Derived.Test.YtfgdpkceoadgjaaMoS
namespace Go.Sx.Mhw
noncomputable section
set_option linter.unusedSimpArgs false
set_option linter.unusedVariables false
open Go Go.Sx
def undC (c n:Int):Int:=arrC n.toNat 6 fun j f=>if f=5 then (j:Int) else fl c j f
theorem fl_undC {c n:Int} {j f:Nat} (hj:(j:Int) < n) (hn:n≤1000) (hf:f < 6):fl (undC c n) j f=if f=5 then (j:Int) else fl c j f:=by
 refine fl_arr (by omega) hf ?_
 have e1:kmin .i64=-9223372036854775808:=rfl
 have e2:kmax .i64=9223372036854775807:=rfl
 split
 ·omega
 ·exact fl_has ..
def srtA (c n lim:Int):Array Rw:=Sort.pdq (ltU lim) (arrOf (undC c n) n) 0 n.toNat (Sort.bitsLen n.toNat) true true
def srtW (c n lim:Int):Int:=codeOf (srtA c n lim)
theorem srtW_eq {c d n lim:Int} (h:arrOf d n=arrOf (undC c n) n):codeOf (Sort.pdq (ltU lim) (arrOf d n) (0:Int).toNat n.toNat ((Sort.bitsLen n.toNat:Nat):Int).toNat true true)=srtW c n lim:=by
 rw [h];rfl
theorem srt_perm (c n lim:Int):(srtA c n lim).size=n.toNat∧(srtA c n lim).toList.Perm (arrOf (undC c n) n).toList∧Sort.SortedIn (ltU lim) 0 n.toNat (srtA c n lim):=by
 obtain ⟨⟨h1,h2,h3⟩,h4⟩:=Sort.pdq_sorts (ltU lim) (ltU_swo lim) (arrOf (undC c n) n) 0 n.toNat (Sort.bitsLen n.toNat) true true (Nat.zero_le _) (by rw [size_arrOf];omega) (.inl rfl)
 rw [size_arrOf] at h1
 refine ⟨h1,?_,h4⟩
 have e1:(srtA c n lim).extract 0 n.toNat=srtA c n lim:=by rw [← show (srtA c n lim).size=n.toNat from h1];exact Array.extract_size
 have e2:(arrOf (undC c n) n).extract 0 n.toNat=arrOf (undC c n) n:=by
  have:=@Array.extract_size _ (arrOf (undC c n) n);rwa [size_arrOf] at this
 have h3:((srtA c n lim).extract 0 n.toNat).toList.Perm ((arrOf (undC c n) n).extract 0 n.toNat).toList:=h3
 rwa [e1,e2] at h3
theorem list_arrOf (c n:Int):(arrOf c n).toList=(List.range n.toNat).map (rowU c):=by
 apply List.ext_getElem
 ·simp [arrOf]
 ·intro i h1 h2;simp [arrOf]
theorem srt_row {c n lim:Int} (hn:n≤1000) {k:Nat} (hk:(k:Int) < n):∃ j:Nat,(j:Int) < n∧(srtA c n lim)[k]! = rowU (undC c n) j:=by
 obtain ⟨h1,h2,_⟩:=srt_perm c n lim
 have hk':k < (srtA c n lim).size:=by omega
 have hm:(srtA c n lim)[k]! ∈ (srtA c n lim).toList:=by rw [getElem!_pos (srtA c n lim) k hk'];simp
 rw [h2.mem_iff,list_arrOf] at hm
 obtain ⟨j,hj,e⟩:=List.mem_map.1 hm
 rw [List.mem_range] at hj
 exact ⟨j,by omega,e.symm⟩
theorem fl_srt {c n lim:Int} {k f:Nat} (hk:(k:Int) < n) (hf:f < 6):fl (srtW c n lim) k f=(srtA c n lim)[k]!.1 f:=by
 unfold srtW
 have h1:=(srt_perm c n lim).1
 refine fl_arr (n:=(srtA c n lim).size) (g:=fun j f=>(srtA c n lim)[j]!.1 f) (by omega) hf ?_
 obtain ⟨r,d,j,e⟩:=(srtA c n lim)[k]!
 subst e
 show kmin .i64≤rowF d j f∧rowF d j f≤kmax .i64
 unfold rowF;rw [if_pos hf];exact fl_has ..
theorem srt_at {c n lim:Int} (hn:n≤1000) {k:Nat} (hk:(k:Int) < n):0≤fl (srtW c n lim) k 5∧fl (srtW c n lim) k 5 < n∧∀ f:Nat,f < 5→fl (srtW c n lim) k f=fl c (fl (srtW c n lim) k 5).toNat f:=by
 obtain ⟨j,hj,e⟩:=srt_row (lim:=lim) hn hk
 have h5:fl (srtW c n lim) k 5=j:=by rw [fl_srt hk (by omega),e,rowU_lt (by omega),fl_undC hj hn (by omega),if_pos rfl]
 rw [h5]
 refine ⟨by omega,hj,fun f hf=>?_⟩
 rw [fl_srt hk (by omega),e,rowU_lt (by omega),fl_undC hj hn (by omega),if_neg (by omega),Int.toNat_natCast]
def befW (c lim x y:Int):Prop:=cmpU (fl c x.toNat 3) x (fl c x.toNat 4 - lim) (fl c y.toNat 3) y (fl c y.toNat 4 - lim) < 0
theorem befW_iff {c lim x y:Int}:befW c lim x y↔(lim≤fl c x.toNat 4∧lim≤fl c y.toNat 4∧x < y)∨(lim≤fl c x.toNat 4∧fl c y.toNat 4 < lim)∨(fl c x.toNat 4 < lim∧fl c y.toNat 4 < lim∧(fl c y.toNat 3 < fl c x.toNat 3∨(fl c x.toNat 3=fl c y.toNat 3∧x < y))):=by
 unfold befW;rw [cmpU_lt];omega
theorem befW_asym {c lim x y:Int} (h1:befW c lim x y) (h2:befW c lim y x):x=y:=by
 rw [befW_iff] at h1 h2;omega
def plcL (c n lim:Int):List Int:=(List.range n.toNat).map fun k=>fl (srtW c n lim) k 5
theorem plc_map {c n lim:Int} (hn:n≤1000):plcL c n lim=(srtA c n lim).toList.map fun r=>r.1 5:=by
 have h1:=(srt_perm c n lim).1
 apply List.ext_getElem
 ·simp [plcL,h1]
 ·intro i h2 h3
  simp only [plcL,List.length_map,List.length_range] at h2
  simp only [plcL,List.getElem_map,List.getElem_range,Array.getElem_toList]
  rw [fl_srt (by omega) (by omega),getElem!_pos (srtA c n lim) i (by omega)]
theorem plc_perm {c n lim:Int} (hn:n≤1000):(plcL c n lim).Perm ((List.range n.toNat).map fun j:Nat=>(j:Int)):=by
 rw [plc_map hn]
 refine ((srt_perm c n lim).2.1.map _).trans ?_
 rw [list_arrOf,List.map_map]
 refine List.Perm.of_eq (List.map_congr_left fun j hj=>?_)
 rw [List.mem_range] at hj
 show (rowU (undC c n) j).1 5=_
 rw [rowU_lt (by omega),fl_undC (by omega) hn (by omega),if_pos rfl]
theorem plc_bef {c n lim:Int} (hn:n≤1000):(plcL c n lim).Pairwise (befW c lim):=by
 have hnd:(plcL c n lim).Nodup:=by
  rw [(plc_perm hn).nodup_iff]
  exact List.Pairwise.map _ (fun a b h e=>h (by omega)) List.nodup_range
 rw [List.pairwise_iff_getElem]
 intro i j hi hj hij
 have hl:(plcL c n lim).length=n.toNat:=by simp [plcL]
 have hs:=(srt_perm c n lim).2.2 i j (Nat.zero_le _) hij (by omega)
 have hne:(plcL c n lim)[i]≠(plcL c n lim)[j]:=by
  have:=List.pairwise_iff_getElem.1 hnd i j hi hj hij;exact this
 have ei:(plcL c n lim)[i]=fl (srtW c n lim) i 5:=by simp [plcL]
 have ej:(plcL c n lim)[j]=fl (srtW c n lim) j 5:=by simp [plcL]
 obtain ⟨a1,a2,a3⟩:=srt_at (c:=c) (lim:=lim) hn (k:=i) (by omega)
 obtain ⟨b1,b2,b3⟩:=srt_at (c:=c) (lim:=lim) hn (k:=j) (by omega)
 rw [ei,ej] at hne ⊢
 unfold ltU at hs
 rw [← fl_srt (by omega) (by omega),← fl_srt (by omega) (by omega),← fl_srt (by omega) (by omega),← fl_srt (by omega) (by omega),← fl_srt (by omega) (by omega),← fl_srt (by omega) (by omega),decide_eq_false_iff_not,cmpU_lt] at hs
 rw [befW_iff,← a3 3 (by omega),← a3 4 (by omega),← b3 3 (by omega),← b3 4 (by omega)]
 omega
def refF (c lim p:Int) (i:Nat):List Int:=((List.range i).filter fun j:Nat=>decide (fl c j 4 < lim∧fl c j 3=p)).map fun j:Nat=>(j:Int)
def refA (c lim:Int) (i:Nat):List Int:=((List.range i).filter fun j:Nat=>decide (lim≤fl c j 4)).map fun j:Nat=>(j:Int)
def dsc (p:Int):List Int:=(List.range (3 - p).toNat).map fun k:Nat=>3 - (k:Int)
def refP (c n lim p:Int):List Int:=refA c lim n.toNat++(dsc p).flatMap fun q=>refF c lim q n.toNat
theorem refF_succ {c lim p:Int} {i:Nat}:refF c lim p (i+1)=if fl c i 4 < lim∧fl c i 3=p then refF c lim p i++[(i:Int)] else refF c lim p i:=by
 unfold refF
 rw [List.range_succ,List.filter_append,List.map_append]
 by_cases h:fl c i 4 < lim∧fl c i 3=p
 ·rw [if_pos h];simp [h]
 ·rw [if_neg h];simp [h]
theorem refA_succ {c lim:Int} {i:Nat}:refA c lim (i+1)=if lim≤fl c i 4 then refA c lim i++[(i:Int)] else refA c lim i:=by
 unfold refA
 rw [List.range_succ,List.filter_append,List.map_append]
 by_cases h:lim≤fl c i 4
 ·rw [if_pos h];simp [h]
 ·rw [if_neg h];simp [h]
theorem refP_3 {c n lim:Int}:refP c n lim 3=refA c lim n.toNat:=by simp [refP,dsc]
theorem refP_down {c n lim p:Int} (h:p≤3):refP c n lim (p - 1)=refP c n lim p++refF c lim p n.toNat:=by
 have:dsc (p - 1)=dsc p++[p]:=by
  unfold dsc
  rw [show (3 - (p - 1)).toNat=(3 - p).toNat+1 by omega,List.range_succ,List.map_append]
  congr 1;simp;omega
 unfold refP
 rw [this,List.flatMap_append];simp
theorem mem_refF {c lim p x:Int} {i:Nat}:x∈refF c lim p i↔0≤x∧x < i∧fl c x.toNat 4 < lim∧fl c x.toNat 3=p:=by
 simp only [refF,List.mem_map,List.mem_filter,List.mem_range,decide_eq_true_eq]
 constructor
 ·rintro ⟨j,⟨h1,h2⟩,rfl⟩;rw [Int.toNat_natCast];exact ⟨by omega,by omega,h2⟩
 ·rintro ⟨h0,h1,h2⟩;exact ⟨x.toNat,⟨by omega,h2⟩,by omega⟩
theorem mem_refA {c lim x:Int} {i:Nat}:x∈refA c lim i↔0≤x∧x < i∧lim≤fl c x.toNat 4:=by
 simp only [refA,List.mem_map,List.mem_filter,List.mem_range,decide_eq_true_eq]
 constructor
 ·rintro ⟨j,⟨h1,h2⟩,rfl⟩;rw [Int.toNat_natCast];exact ⟨by omega,by omega,h2⟩
 ·rintro ⟨h0,h1,h2⟩;exact ⟨x.toNat,⟨by omega,h2⟩,by omega⟩
theorem range_bef {R:Int→Int→Prop} {P:Nat→Bool} {i:Nat} (h:∀ a b:Nat,P a=true→P b=true→a < b→R a b):(((List.range i).filter P).map fun j:Nat=>(j:Int)).Pairwise R:=by
 rw [List.pairwise_map]
 have h1:(List.range i).Pairwise (fun a b=>P a=true→P b=true→R a b):=by
  refine List.Pairwise.imp (fun {a b} hab ha hb=>h a b ha hb hab) List.pairwise_lt_range
 rw [List.pairwise_filter]
 exact h1
theorem ref_bef (c n lim:Int):(refP c n lim (-1)).Pairwise (befW c lim):=by
 have e:dsc (-1)=[3,2,1,0]:=by decide
 have hF:∀ p:Int,(refF c lim p n.toNat).Pairwise (befW c lim):=fun p=>range_bef fun a b ha hb hab=>by
  rw [befW_iff];simp only [decide_eq_true_eq,Int.toNat_natCast] at *;omega
 have hA:(refA c lim n.toNat).Pairwise (befW c lim):=range_bef fun a b ha hb hab=>by
  rw [befW_iff];simp only [decide_eq_true_eq,Int.toNat_natCast] at *;omega
 have hFF:∀ p q:Int,q < p→∀ x∈refF c lim p n.toNat,∀ y∈refF c lim q n.toNat,befW c lim x y:=by
  intro p q hpq x hx y hy
  rw [mem_refF] at hx hy;rw [befW_iff];omega
 have hAF:∀ p:Int,∀ x∈refA c lim n.toNat,∀ y∈refF c lim p n.toNat,befW c lim x y:=by
  intro p x hx y hy
  rw [mem_refA] at hx;rw [mem_refF] at hy;rw [befW_iff];omega
 rw [refP,e]
 simp only [List.flatMap_cons,List.flatMap_nil,List.append_nil]
 refine List.pairwise_append.2 ⟨hA,List.pairwise_append.2 ⟨hF 3,List.pairwise_append.2 ⟨hF 2,List.pairwise_append.2 ⟨hF 1,hF 0,hFF 1 0 (by omega)⟩,?_⟩,?_⟩,?_⟩
 ·intro x hx y hy
  rcases List.mem_append.1 hy with hy | hy
  ·exact hFF 2 1 (by omega) x hx y hy
  ·exact hFF 2 0 (by omega) x hx y hy
 ·intro x hx y hy
  rcases List.mem_append.1 hy with hy | hy
  ·exact hFF 3 2 (by omega) x hx y hy
  ·rcases List.mem_append.1 hy with hy | hy
   ·exact hFF 3 1 (by omega) x hx y hy
   ·exact hFF 3 0 (by omega) x hx y hy
 ·intro x hx y hy
  simp only [List.mem_append] at hy
  rcases hy with hy | hy | hy | hy<;>exact hAF _ x hx y hy
theorem befW_irr {c lim x:Int}:¬ befW c lim x x:=by rw [befW_iff];omega
theorem ref_plc {c n lim:Int} (hn:n≤1000) (hp:∀ j:Nat,(j:Int) < n→0≤fl c j 3∧fl c j 3≤3):refP c n lim (-1)=plcL c n lim:=by
 have nd:∀ l:List Int,l.Pairwise (befW c lim)→l.Nodup:=fun l h=>List.Pairwise.imp (R:=befW c lim) (S:=fun a b=>a≠b) (fun {a b} hab (e:a=b)=>befW_irr (c:=c) (lim:=lim) (x:=b) (by rw [e] at hab;exact hab)) h
 refine List.Perm.eq_of_pairwise (fun a b _ _ h1 h2=>befW_asym h1 h2) (ref_bef c n lim) (plc_bef hn) ?_
 refine List.Perm.trans ?_ (plc_perm hn).symm
 refine (List.perm_ext_iff_of_nodup (nd _ (ref_bef c n lim)) (List.Pairwise.map _ (fun a b h e=>h (by omega)) List.nodup_range)).2 fun x=>?_
 have e:dsc (-1)=[3,2,1,0]:=by decide
 rw [refP,e]
 simp only [List.flatMap_cons,List.flatMap_nil,List.append_nil,List.mem_append,mem_refA,mem_refF,List.mem_map,List.mem_range]
 constructor
 ·intro h;exact ⟨x.toNat,by omega,by omega⟩
 ·rintro ⟨j,hj,rfl⟩
  have:=hp j (by omega)
  rw [Int.toNat_natCast];omega
def lst (c len:Int):List Int:=(List.range len.toNat).map fun k=>fl c k 0
theorem lst_eq {c d n:Int} (h:lst c n=lst d n) {k:Nat} (hk:(k:Int) < n):fl c k 0=fl d k 0:=by
 have h1:(lst c n)[k]? = (lst d n)[k]? := by rw [h]
 simpa [lst,show k < n.toNat by omega] using h1
def ordW (c n lim:Int):Int:=arrC n.toNat 1 fun j _=>fl (srtW c n lim) j 5
theorem fl_ordW {c n lim:Int} {k:Nat} (hk:(k:Int) < n):fl (ordW c n lim) k 0=fl (srtW c n lim) k 5:=fl_arr (by omega) (by omega) (fl_has ..)
theorem lst_ord (c n lim:Int):lst (ordW c n lim) n=plcL c n lim:=by
 unfold lst plcL
 refine List.map_congr_left fun k hk=>?_
 rw [List.mem_range] at hk
 exact fl_ordW (by omega)
end
end Go.Sx.Mhw
