/- The order of asking, as plain mathematics. -/
import Derived.Test.YtfgdpkceoadgjaaMoS
namespace Go.Sx.Mhw
noncomputable section
set_option linter.unusedSimpArgs false
set_option linter.unusedVariables false
open Go Go.Sx
def undC (c n:Int):Int:=arrC n.toNat 6 fun j f=>if f=5 then (j:Int) else fl c j f
theorem fl_undC {c n:Int} {j f:Nat} (hj:(j:Int) < n) (hn:n≤1000) (hf:f < 6):fl (undC c n) j f=if f=5 then (j:Int) else fl c j f:=by
 refine fl_arr (by omega) hf ?_
 have e1:kmin .i64=-9223372036854775808:=rfl
 have e2:kmax .i64=9223372036854775807:=rfl
 split
 ·omega
 ·exact fl_has ..
def srtA (c n lim:Int):Array Rw:=Sort.pdq (ltU lim) (arrOf (undC c n) n) 0 n.toNat (Sort.bitsLen n.toNat) true true
def srtW (c n lim:Int):Int:=codeOf (srtA c n lim)
theorem srtW_eq {c d n lim:Int} (h:arrOf d n=arrOf (undC c n) n):codeOf (Sort.pdq (ltU lim) (arrOf d n) (0:Int).toNat n.toNat ((Sort.bitsLen n.toNat:Nat):Int).toNat true true)=srtW c n lim:=by
 rw [h];rfl
theorem srt_perm (c n lim:Int):(srtA c n lim).size=n.toNat∧(srtA c n lim).toList.Perm (arrOf (undC c n) n).toList∧Sort.SortedIn (ltU lim) 0 n.toNat (srtA c n lim):=by
 obtain ⟨⟨h1,h2,h3⟩,h4⟩:=Sort.pdq_sorts (ltU lim) (ltU_swo lim) (arrOf (undC c n) n) 0 n.toNat (Sort.bitsLen n.toNat) true true (Nat.zero_le _) (by rw [size_arrOf];omega) (.inl rfl)
 rw [size_arrOf] at h1
 refine ⟨h1,?_,h4⟩
 have e1:(srtA c n lim).extract 0 n.toNat=srtA c n lim:=by rw [← show (srtA c n lim).size=n.toNat from h1];exact Array.extract_size
 have e2:(arrOf (undC c n) n).extract 0 n.toNat=arrOf (undC c n) n:=by
  have:=@Array.extract_size _ (arrOf (undC c n) n);rwa [size_arrOf] at this
 have h3:((srtA c n lim).extract 0 n.toNat).toList.Perm ((arrOf (undC c n) n).extract 0 n.toNat).toList:=h3
 rwa [e1,e2] at h3
theorem list_arrOf (c n:Int):(arrOf c n).toList=(List.range n.toNat).map (rowU c):=by
 apply List.ext_getElem
 ·simp [arrOf]
 ·intro i h1 h2;simp [arrOf]
theorem srt_row {c n lim:Int} (hn:n≤1000) {k:Nat} (hk:(k:Int) < n):∃ j:Nat,(j:Int) < n∧(srtA c n lim)[k]! = rowU (undC c n) j:=by
 obtain ⟨h1,h2,_⟩:=srt_perm c n lim
 have hk':k < (srtA c n lim).size:=by omega
 have hm:(srtA c n lim)[k]! ∈ (srtA c n lim).toList:=by rw [getElem!_pos (srtA c n lim) k hk'];simp
 rw [h2.mem_iff,list_arrOf] at hm
 obtain ⟨j,hj,e⟩:=List.mem_map.1 hm
 rw [List.mem_range] at hj
 exact ⟨j,by omega,e.symm⟩
theorem fl_srt {c n lim:Int} {k f:Nat} (hk:(k:Int) < n) (hf:f < 6):fl (srtW c n lim) k f=(srtA c n lim)[k]!.1 f:=by
 unfold srtW
 have h1:=(srt_perm c n lim).1
 refine fl_arr (n:=(srtA c n lim).size) (g:=fun j f=>(srtA c n lim)[j]!.1 f) (by omega) hf ?_
 obtain ⟨r,d,j,e⟩:=(srtA c n lim)[k]!
 subst e
 show kmin .i64≤rowF d j f∧rowF d j f≤kmax .i64
 unfold rowF;rw [if_pos hf];exact fl_has ..
theorem srt_at {c n lim:Int} (hn:n≤1000) {k:Nat} (hk:(k:Int) < n):0≤fl (srtW c n lim) k 5∧fl (srtW c n lim) k 5 < n∧∀ f:Nat,f < 5→fl (srtW c n lim) k f=fl c (fl (srtW c n lim) k 5).toNat f:=by
 obtain ⟨j,hj,e⟩:=srt_row (lim:=lim) hn hk
 have h5:fl (srtW c n lim) k 5=j:=by rw [fl_srt hk (by omega),e,rowU_lt (by omega),fl_undC hj hn (by omega),if_pos rfl]
 rw [h5]
 refine ⟨by omega,hj,fun f hf=>?_⟩
 rw [fl_srt hk (by omega),e,rowU_lt (by omega),fl_undC hj hn (by omega),if_neg (by omega),Int.toNat_natCast]
def befW (c lim x y:Int):Prop:=cmpU (fl c x.toNat 3) x (fl c x.toNat 4 - lim) (fl c y.toNat 3) y (fl c y.toNat 4 - lim) < 0
theorem befW_iff {c lim x y:Int}:befW c lim x y↔(lim≤fl c x.toNat 4∧lim≤fl c y.toNat 4∧x < y)∨(lim≤fl c x.toNat 4∧fl c y.toNat 4 < lim)∨(fl c x.toNat 4 < lim∧fl c y.toNat 4 < lim∧(fl c y.toNat 3 < fl c x.toNat 3∨(fl c x.toNat 3=fl c y.toNat 3∧x < y))):=by
 unfold befW;rw [cmpU_lt];omega
def plcL (c n lim:Int):List Int:=(List.range n.toNat).map fun k=>fl (srtW c n lim) k 5
theorem plc_map {c n lim:Int} (hn:n≤1000):plcL c n lim=(srtA c n lim).toList.map fun r=>r.1 5:=by
 have h1:=(srt_perm c n lim).1
 apply List.ext_getElem
 ·simp [plcL,h1]
 ·intro i h2 h3
  simp only [plcL,List.length_map,List.length_range] at h2
  simp only [plcL,List.getElem_map,List.getElem_range,Array.getElem_toList]
  rw [fl_srt (by omega) (by omega),getElem!_pos (srtA c n lim) i (by omega)]
theorem plc_perm {c n lim:Int} (hn:n≤1000):(plcL c n lim).Perm ((List.range n.toNat).map fun j:Nat=>(j:Int)):=by
 rw [plc_map hn]
 refine ((srt_perm c n lim).2.1.map _).trans ?_
 rw [list_arrOf,List.map_map]
 refine List.Perm.of_eq (List.map_congr_left fun j hj=>?_)
 rw [List.mem_range] at hj
 show (rowU (undC c n) j).1 5=_
 rw [rowU_lt (by omega),fl_undC (by omega) hn (by omega),if_pos rfl]
theorem plc_bef {c n lim:Int} (hn:n≤1000):(plcL c n lim).Pairwise (befW c lim):=by
 have hnd:(plcL c n lim).Nodup:=by
  rw [(plc_perm hn).nodup_iff]
  exact List.Pairwise.map _ (fun a b h e=>h (by omega)) List.nodup_range
 rw [List.pairwise_iff_getElem]
 intro i j hi hj hij
 have hl:(plcL c n lim).length=n.toNat:=by simp [plcL]
 have hs:=(srt_perm c n lim).2.2 i j (Nat.zero_le _) hij (by omega)
 have hne:(plcL c n lim)[i]≠(plcL c n lim)[j]:=by
  have:=List.pairwise_iff_getElem.1 hnd i j hi hj hij;exact this
 have ei:(plcL c n lim)[i]=fl (srtW c n lim) i 5:=by simp [plcL]
 have ej:(plcL c n lim)[j]=fl (srtW c n lim) j 5:=by simp [plcL]
 obtain ⟨a1,a2,a3⟩:=srt_at (c:=c) (lim:=lim) hn (k:=i) (by omega)
 obtain ⟨b1,b2,b3⟩:=srt_at (c:=c) (lim:=lim) hn (k:=j) (by omega)
 rw [ei,ej] at hne ⊢
 unfold ltU at hs
 rw [← fl_srt (by omega) (by omega),← fl_srt (by omega) (by omega),← fl_srt (by omega) (by omega),← fl_srt (by omega) (by omega),← fl_srt (by omega) (by omega),← fl_srt (by omega) (by omega),decide_eq_false_iff_not,cmpU_lt] at hs
 rw [befW_iff,← a3 3 (by omega),← a3 4 (by omega),← b3 3 (by omega),← b3 4 (by omega)]
 omega
def ordW (c n lim:Int):Int:=arrC n.toNat 1 fun j _=>fl (srtW c n lim) j 5
end
end Go.Sx.Mhw
