/- Timers: contracts out of the kit: slices.SortFunc with the closure that reads a map. -/
import Derived.Test.YtobmggabgicpgaaGreatSlK
import Derived.Test.YtobmggabgicpgaaGreatSlL
namespace Go.Sx.Sl
noncomputable section
set_option linter.unusedSimpArgs false
set_option linter.unusedVariables false
open Go Go.Sx Go.Sx.Ti Go.Proofs Go.RowKit
def ren54:Go.Shelf.Ren:=⟨fun n=>match n with | 6=>103 | 14=>106 | 15=>107 | 20=>108 | 21=>109 | 22=>110 | 23=>111 | 24=>112 | 25=>113 | 26=>114 | 27=>115 | 28=>116 | 29=>117 | 46=>118 | 47=>119 | 48=>120 | 49=>121 | 50=>122 | 57=>123 | n=>n,
 fun n=>match n with | 22=>45 | 24=>3 | 25=>128 | 39=>155 | 45=>157 | 46=>158 | 50=>162 | 53=>165 | 55=>51 | 66=>167 | 70=>171 | 76=>173 | 77=>174 | n=>n,fun n=>n⟩
theorem lays54:SlLaysF.n6 Tryz.prog ren54 where
 mixed:=by kernel_rfl
 f6:=⟨Tryz.f103.name,by kernel_rfl,by kernel_rfl⟩
 f14:=⟨Tryz.f106.name,by kernel_rfl,by kernel_rfl⟩
 f15:=by kernel_rfl
 f20:=⟨Tryz.f108.name,by kernel_rfl,by kernel_rfl⟩
 f21:=⟨Tryz.f109.name,by kernel_rfl,by kernel_rfl⟩
 f22:=⟨Tryz.f110.name,by kernel_rfl,by kernel_rfl⟩
 f23:=⟨Tryz.f111.name,by kernel_rfl,by kernel_rfl⟩
 f24:=⟨Tryz.f112.name,by kernel_rfl,by kernel_rfl⟩
 f25:=⟨Tryz.f113.name,by kernel_rfl,by kernel_rfl⟩
 f26:=⟨Tryz.f114.name,by kernel_rfl,by kernel_rfl⟩
 f27:=⟨Tryz.f115.name,by kernel_rfl,by kernel_rfl⟩
 f28:=by kernel_rfl
 f29:=by kernel_rfl
 f46:=⟨Tryz.f118.name,by kernel_rfl,by kernel_rfl⟩
 f47:=by kernel_rfl
 f48:=by kernel_rfl
 f49:=⟨Tryz.f121.name,by kernel_rfl,by kernel_rfl⟩
 f50:=⟨Tryz.f122.name,by kernel_rfl,by kernel_rfl⟩
 f57:=⟨Tryz.f123.name,by kernel_rfl,by kernel_rfl⟩
 a24:=fun w=>by kernel_rfl
 z24:=fun w=>by kernel_rfl
 t0:=by kernel_rfl
 a0:=fun w=>by kernel_rfl
 z0:=fun w=>by kernel_rfl
 v0:=fun w=>by kernel_rfl
 t3:=by kernel_rfl
 a3:=fun w=>by kernel_rfl
 z3:=fun w=>by kernel_rfl
 v3:=fun w=>by kernel_rfl
 t4:=by kernel_rfl
 a4:=fun w=>by kernel_rfl
 z4:=fun w=>by kernel_rfl
 v4:=fun w=>by kernel_rfl
 t5:=by kernel_rfl
 a5:=fun w=>by kernel_rfl
 z5:=fun w=>by kernel_rfl
 v5:=fun w=>by kernel_rfl
 t9:=by kernel_rfl
 a9:=fun w=>by kernel_rfl
 z9:=fun w=>by kernel_rfl
 v9:=fun w=>by kernel_rfl
 t22:=by kernel_rfl
 a22:=fun w=>by kernel_rfl
 z22:=fun w=>by kernel_rfl
 v22:=fun w=>by kernel_rfl
 t25:=by kernel_rfl
 a25:=fun w=>by kernel_rfl
 z25:=fun w=>by kernel_rfl
 v25:=fun w=>by kernel_rfl
 t39:=by kernel_rfl
 a39:=fun w=>by kernel_rfl
 z39:=fun w=>by kernel_rfl
 v39:=fun w=>by kernel_rfl
 t45:=by kernel_rfl
 a45:=fun w=>by kernel_rfl
 z45:=fun w=>by kernel_rfl
 v45:=fun w=>by kernel_rfl
 t46:=by kernel_rfl
 a46:=fun w=>by kernel_rfl
 z46:=fun w=>by kernel_rfl
 v46:=fun w=>by kernel_rfl
 t50:=by kernel_rfl
 a50:=fun w=>by kernel_rfl
 z50:=fun w=>by kernel_rfl
 v50:=fun w=>by kernel_rfl
 t53:=by kernel_rfl
 a53:=fun w=>by kernel_rfl
 z53:=fun w=>by kernel_rfl
 v53:=fun w=>by kernel_rfl
 t55:=by kernel_rfl
 a55:=fun w=>by kernel_rfl
 z55:=fun w=>by kernel_rfl
 v55:=fun w=>by kernel_rfl
 t66:=by kernel_rfl
 a66:=fun w=>by kernel_rfl
 z66:=fun w=>by kernel_rfl
 v66:=fun w=>by kernel_rfl
 t70:=by kernel_rfl
 a70:=fun w=>by kernel_rfl
 z70:=fun w=>by kernel_rfl
 v70:=fun w=>by kernel_rfl
 t76:=by kernel_rfl
 a76:=fun w=>by kernel_rfl
 z76:=fun w=>by kernel_rfl
 v76:=fun w=>by kernel_rfl
 t77:=by kernel_rfl
 a77:=fun w=>by kernel_rfl
 z77:=fun w=>by kernel_rfl
 v77:=fun w=>by kernel_rfl
theorem heap_putRow_ne {α:Type} [Inhabited α] (enc:α→Value) (w:World) (blk off:Nat) (d:Array α) (b:Nat) (h:b≠blk):(Sort.putRow enc w blk off d).heap[b]? = w.heap[b]? := by
 simp only [Sort.putRow,Sort.mapBlock,Array.getElem?_modify]
 rw [if_neg (Ne.symm h)]
theorem heap_sortWorld_ne {α:Type} [Inhabited α] (enc:α→Value) (w:World) (blk off n:Nat) (d:Array α) (os:Array Obj) (b:Nat) (h:b≠blk) (hb:b < w.heap.size):(sortWorld enc w blk off n d os).heap[b]? = w.heap[b]? := by
 show ((Sort.putRow enc (Sort.ahead w n) blk off d).heap++os)[b]? = _
 rw [Array.getElem?_append_left (by rw [Sort.size_putRow];exact hb),heap_putRow_ne _ _ _ _ _ _ h];rfl
theorem heap_sortWorld_at {α:Type} [Inhabited α] (enc:α→Value) (w:World) (blk off n:Nat) (d:Array α) (os:Array Obj) {A:Array Value} {t:TypeId} {fz:Nat×Nat} (h:w.heap[blk]? = some (.cells A t fz)):(sortWorld enc w blk off n d os).heap[blk]? = some (.cells (Sort.putCells enc off d A) t fz):=by
 have hb:blk < w.heap.size:=(Array.getElem?_eq_some_iff.1 h).1
 show ((Sort.putRow enc (Sort.ahead w n) blk off d).heap++os)[blk]? = _
 rw [Array.getElem?_append_left (by rw [Sort.size_putRow];exact hb)]
 simp only [Sort.putRow,Sort.mapBlock,Array.getElem?_modify,if_true]
 show Option.map _ (w.heap[blk]?)=_
 rw [h];rfl
def kI:List Kd:=[.nt .i64]
def clV:SV:=.fn 83 [] [.pt (.n 1) (.c 0)]
def mS (c:SI):List (Nat×Bk):=[(0,.arr kI c (.v 1) 3 (.v 3)),(1,.cells [.mp (.n 2)] 113),(2,.mapc .i64 .i64 (.v 4))]
def rsS:SI:=.ap 31 (.v 0) (.v 1) (.v 4) (.c 0) (.c 0) (.c 0)
def tSort:Com:=⟨103,[0,1,2,3,4],[.sl (.n 0) (.c 0) (.v 1) (.v 2),clV],mS (.v 0),3,[(1,0,1000000)],[],[⟨[],.tp [],mS rsS,3,0,[]⟩],.c 0⟩
theorem lookup_map {σ:Sta} {c:Int} {l:List MapEntry} {clock m:Nat} {w':World} (hg:∀ k,gm σ .i64 c k=mg c k) (hmp:MpIs σ .i64 .i64 c l clock) (hb:w'.heap[m]? = some (.map l.toArray clock)) (k:Int) :
  (Instr.lookup 113 (.map (some m)) (.int .i64 k) false).run Tryz.prog w'=.ok (.int .i64 (mg c k)) w':=by
 have hu:Tryz.prog.underlying 113=some (.map 3 2):=by kernel_rfl
 have hk:Tryz.prog.underlying 3=some (.int .i64):=by kernel_rfl
 have hz:∀ w,(zeroValue 2).run Tryz.prog w=.ok (.int .i64 0) w:=fun w=>by kernel_rfl
 have hkey:MapKept.IsKey (.int .i64) (.int .i64 k):=rfl
 have hks:∀ y∈l,MapKept.IsKey (.int .i64) y.key:=fun y hy=>by obtain ⟨q,hq,_⟩:=hmp.ent y hy;rw [hq];rfl
 rcases MapKept.findNow_spec hkey l 0 hks with ⟨f1,f2⟩ | ⟨j,e',f1,f2,f3⟩
 ·have hf:hm σ c k=false:=by
   cases hh:hm σ c k with
   | false=>rfl
   | true=>obtain ⟨y,y1,y2⟩:=(hmp.has k).1 hh;exact absurd y2 (f2 y y1)
  simp [Instr.lookup,underlying,hu,MapKept.run_getObj_map hb,MapKept.run_checkKey hk hkey,MapKept.run_findKey hk f1,hz,Result.andThen]
  rw [← hg,hmp.no k hf]
 ·obtain ⟨q,q1,q2,q3⟩:=hmp.ent e' (List.mem_of_getElem? f2)
  rw [f3] at q1
  have:=int_key_inj q1;subst this
  simp [Instr.lookup,underlying,hu,MapKept.run_getObj_map hb,MapKept.run_checkKey hk hkey,MapKept.run_findKey hk f1,Result.andThen]
  rw [q2,hg]
theorem tSort_ok:tSort.Ok Tryz.prog FI FB:=by
 intro kv iv bv hin hF w bl hM hinj us hus
 have b1:=hin 1 0 1000000 (by simp [tSort])
 simp only [Int.reduceLE,reduceIte] at b1
 simp only [tSort,clV,SV.isL_cons,SV.isL_nil] at hus
 obtain ⟨u,r,rfl,hu,u2,r2,rfl,hu2,rfl⟩:=hus
 simp only [SV.Is,SV.IsL,SR.den,SI.den,dynM,Option.some.injEq] at hu hu2
 obtain ⟨x,n0,len,cap,e1,e2,e3,e4,rfl⟩:=hu
 have hx:bl 0=x:=by simpa [tSort] using e1
 subst hx
 have hn0:n0=0:=by
  have:Int.ofNat n0=0:=e2.symm
  exact Int.ofNat.inj this
 subst hn0
 obtain ⟨as_,cs_,rfl,⟨u3,r3,rfl,⟨x3,n3,e5,e6,rfl⟩,rfl⟩,rfl⟩:=hu2
 have hx3:bl 1=x3:=by simpa [tSort] using e5
 subst hx3
 have hn3:n3=0:=by
  have:Int.ofNat n3=0:=e6.symm
  exact Int.ofNat.inj this
 subst hn3
 obtain ⟨o0,hb0,cv,nv,cpv,A,g1,g2,g3,g4,g5,g6,rfl⟩:=hM 0 _ (show (0,Bk.arr kI (.v 0) (.v 1) 3 (.v 3))∈tSort.M by simp [tSort,mS])
 obtain ⟨o1,hb1,vs,k1,rfl⟩:=hM 1 _ (show (1,Bk.cells [.mp (.n 2)] 113)∈tSort.M by simp [tSort,mS])
 obtain ⟨o2,hb2,mv,l,clock,m1,hmp,rfl⟩:=hM 2 _ (show (2,Bk.mapc .i64 .i64 (.v 4))∈tSort.M by simp [tSort,mS])
 simp only [SV.isL_cons,SV.isL_nil,SV.Is,SR.den,dynM] at k1
 obtain ⟨u4,r4,rfl,⟨x4,e7,rfl⟩,rfl⟩:=k1
 have hx4:bl 2=x4:=by simpa [tSort] using e7
 subst hx4
 have hcv:cv=iv 0:=(Option.some.inj g1).symm
 have hmv:mv=iv 4:=(Option.some.inj m1).symm
 have hlen:(len:Int)=iv 1:=e3.symm
 have hnv:(nv:Int)=iv 1:=(Option.some.inj g2).symm
 have hnl:nv=len:=by omega
 subst hnl
 have hcp:(cpv:Int)=iv 3:=(Option.some.inj g3).symm
 subst hcv hmv
 have h01:bl 1≠bl 0:=fun e=>by have:=hinj 1 0 (by simp [tSort]) (by simp [tSort]) e;omega
 have h02:bl 2≠bl 0:=fun e=>by have:=hinj 2 0 (by simp [tSort]) (by simp [tSort]) e;omega
 have hs0:bl 0 < w.heap.size:=(Array.getElem?_eq_some_iff.1 hb0).1
 have hs1:bl 1 < w.heap.size:=(Array.getElem?_eq_some_iff.1 hb1).1
 have hs2:bl 2 < w.heap.size:=(Array.getElem?_eq_some_iff.1 hb2).1
 have hsz:(arrI (iv 0) (iv 1)).size=nv:=by simp [arrI,lst];omega
 have hget:∀ j,j < nv→(arrI (iv 0) (iv 1))[j]! = fl (iv 0) j 0:=fun j hj=>by
  rw [getElem!_pos (arrI (iv 0) (iv 1)) j (by rw [hsz];exact hj)];simp [arrI,lst]
 have hA:∀ j,j < nv→A[j]? = some (.int .i64 (fl (iv 0) j 0)):=fun j hj=>by
  have:=g6 j hj 0 (.nt .i64) rfl
  simp only [kI,List.length_singleton,Nat.mul_one,Nat.zero_add,Nat.add_zero,Kd.val] at this
  rw [this];rfl
 have hH:Sort.Holds (Value.int .i64) w (bl 0) 0 (arrI (iv 0) (iv 1)):=fun j hj=>by
  rw [hsz] at hj
  refine ⟨?_,?_⟩
  ·simp only [World.cell?,hb0,Nat.zero_add];rw [hA j hj,hget j hj];rfl
  ·simp only [World.frozen?,hb0];rfl
 have eg:∀ args w,(callFunc 83 args).run Tryz.prog w=.ok (.enter 83 args) w:=enters_of Tryz.func83 (by kernel_rfl) rfl
 have hgm:∀ k,gm (sta FI FB kv iv bv) .i64 (iv 4) k=mg (iv 4) k:=fun k=>FI_3g (iv 4) k 0 0
 have hcmp:CmpLays1 Tryz.prog 83 #[.pointer (some ⟨bl 1,0,none⟩)] (Value.int .i64) (Ti.cfK (iv 4)) (bl 0) 0 (arrI (iv 0) (iv 1)).size w:=by
  intro m os dk hs x y
  refine Ti.closure (iv 4) (bl 1) (bl 2) x y _ l.toArray clock ?_ ?_ fun w' hw' k=>lookup_map hgm hmp hw' k
  ·simp only [World.cell?,heap_sortWorld_ne _ _ _ _ _ _ _ _ h01 hs1,hb1];rfl
  ·rw [heap_sortWorld_ne _ _ _ _ _ _ _ _ h02 hs2];exact hb2
 have hc:=Any.slices_SortFunc_eq lays54 (Value.int .i64) (fun _=>rfl) (Ti.cfK (iv 4)) (by rw [Ti.ltOf_cfK];exact ltB_swo _) 83 #[.pointer (some ⟨bl 1,0,none⟩)] (bl 0) 0 cap (arrI (iv 0) (iv 1)) w eg hcmp hH hs0 (by rw [hsz];omega)
 rw [hsz] at hc
 refine Calls.mono hc ?_
 rintro e w' ⟨rfl,q,os,rfl⟩
 rw [Ti.ltOf_cfK]
 have hnn:nv=(iv 1).toNat:=by omega
 have hd:Sort.pdq (ltB (iv 4)) (arrI (iv 0) (iv 1)) 0 nv (Lib.bitLen nv) true true=srtI (iv 0) (iv 1) (iv 4):=by
  unfold srtI;rw [← hnn,bitLen_eq nv (by omega)]
 rw [hd]
 obtain ⟨s1,s2,s3⟩:=srtI_spec (iv 0) (iv 1) (iv 4)
 obtain ⟨D,hD⟩:∃ D,D=srtI (iv 0) (iv 1) (iv 4):=⟨_,rfl⟩
 have hsize:(sortWorld (Value.int .i64) w (bl 0) 0 q D os).heap.size=w.heap.size+os.size:=by
  show ((Sort.putRow (Value.int .i64) (Sort.ahead w q) (bl 0) 0 D).heap++os).size=_
  rw [Array.size_append,Sort.size_putRow];rfl
 rw [← hD]
 refine ⟨_,rfl,⟨rfl,rfl,rfl,by rw [hsize];omega,fun b hb hx=>heap_sortWorld_ne _ _ _ _ _ _ _ _ (fun e=>hx ⟨0,by simp [tSort],e.symm⟩) hb⟩,?_⟩
 intro o ho hcs
 simp only [tSort,List.mem_singleton] at ho
 subst ho
 obtain ⟨ρ,hρ⟩:∃ ρ:Dyn,ρ=dynM 3 bl:=⟨_,rfl⟩
 have hbl:∀ i,i < 3→ρ.bl i=some (bl i):=fun i hi=>by rw [hρ];simp [dynM,hi]
 have hall:∀ i b,ρ.bl i=some b→i < 3∧b=bl i:=by
  intro i b h
  rw [hρ] at h
  simp only [dynM] at h
  split at h
  ·rename_i hi;exact ⟨hi,(Option.some.inj h).symm⟩
  ·cases h
 refine ⟨ρ,by simp,?_,?_,?_,?_,?_,?_,?_,?_⟩
 ·intro i bk hm
  simp only [mS,List.mem_cons,Prod.mk.injEq,List.not_mem_nil,or_false] at hm
  rcases hm with ⟨rfl,rfl⟩ | ⟨rfl,rfl⟩ | ⟨rfl,rfl⟩
  ·refine ⟨rfl,_,_,hbl 0 (by omega),heap_sortWorld_at _ _ _ _ _ _ _ hb0,RS (iv 0) (iv 1) (iv 4),nv,cpv,_,?_,by simp only [SI.den,sta];rw [← hnv];rfl,by simp only [SI.den,sta];rw [← hcp];rfl,g4,?_,?_,rfl⟩
   ·simp only [rsS,SI.den,sta,Option.bind_some];rw [FI_31]
   ·simp only [Sort.putCells,Array.size_mapIdx];exact g5
   ·intro j hj f κ hκ
    have hf:f=0:=by
     simp only [kI] at hκ
     cases f with
     | zero=>rfl
     | succ f=>simp at hκ
    subst hf
    simp only [kI,List.getElem?_cons_zero,Option.some.injEq] at hκ
    subst hκ
    have hj':j < D.size:=by rw [hD,s1,← hnn];exact hj
    simp only [kI,List.length_singleton,Nat.mul_one,Nat.zero_add,Nat.add_zero,Kd.val,Sort.putCells,Array.getElem?_mapIdx,hA j hj,Option.map_some,Nat.zero_le,true_and,hj',if_true,Nat.sub_zero]
    congr 2
    have hk:=FI_3 (RS (iv 0) (iv 1) (iv 4)) j 0 0 0
    simp only [IntKind.ctorIdx,sta] at hk ⊢
    refine Eq.trans ?_ hk.symm
    simp only [Int.toNat_natCast,Int.toNat_zero]
    unfold RS
    rw [← hD,fl_arr (by omega) (by omega)]
    have:D[j]! ∈ lst (iv 0) (iv 1):=by
     rw [← s2.mem_iff,← hD,getElem!_pos D j hj'];simp
    rw [lst,List.mem_map] at this
    obtain ⟨k,_,e⟩:=this
    show in64 D[j]!
    rw [← e];exact fl_has _ k 0
  ·exact ⟨rfl,_,_,hbl 1 (by omega),by rw [heap_sortWorld_ne _ _ _ _ _ _ _ _ h01 hs1];exact hb1,_,by simp only [SV.isL_cons,SV.isL_nil,SV.Is,SR.den];exact ⟨_,_,rfl,⟨_,hbl 2 (by omega),rfl⟩,rfl⟩,rfl⟩
  ·exact ⟨rfl,_,_,hbl 2 (by omega),by rw [heap_sortWorld_ne _ _ _ _ _ _ _ _ h02 hs2];exact hb2,iv 4,l,clock,rfl,hmp,rfl⟩
 ·intro i i' bk bk' b hm hm' hb1 hb2
  obtain ⟨r1,r2⟩:=hall i b hb1
  obtain ⟨s1,s2⟩:=hall i' b hb2
  exact hinj i i' (by simp [tSort];exact r1) (by simp [tSort];exact s1) (by rw [← r2,← s2])
 ·intro i b h
  obtain ⟨r1,r2⟩:=hall i b h
  refine ⟨r1,?_,fun hh=>by simp [tSort] at hh;omega⟩
  rw [hsize,r2]
  have:i=0∨i=1∨i=2:=by omega
  rcases this with rfl | rfl | rfl<;>omega
 ·intro i hi;exact hbl i hi
 ·intro i n h;rw [hρ] at h;cases h
 ·intro i h;exact absurd h (Nat.not_lt_zero _)
 ·intro i;rw [hρ];rfl
 ·simp only [SV.Is];exact ⟨[],SV.isL_nil.2 rfl,rfl⟩
end
end Go.Sx.Sl
