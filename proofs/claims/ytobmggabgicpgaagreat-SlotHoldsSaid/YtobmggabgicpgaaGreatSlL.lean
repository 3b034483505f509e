/- Timers: which of two fires first: the closure that sorts, walked. -/
import Derived.Test.YtobmggabgicpgaaGreatSlD
import Derived.WalkKit
import Derived.LoopN
import Derived.Shelf.SlicesG.Cmp
import Derived.Shelf.SlSortCmp.Whole1
import Derived.Sort.Grow
import Derived.Deep.Draws
namespace Go.Proofs
set_option linter.unusedSimpArgs false
set_option linter.unusedVariables false
open Go Go.Sx Go.Sx.Ti Go.Sx.Sl Go.RowKit Go.Shelf Go.Lib Go.Sort
def Ti.ren44:Ren:=⟨fun n=>match n with | 5=>85 | 7=>98 | n=>n,fun n=>match n with | 22=>2 | n=>n,fun n=>n⟩
def Ti.ren45:Ren:=⟨fun n=>match n with | 5=>86 | 7=>99 | n=>n,fun n=>match n with | 22=>3 | n=>n,fun n=>n⟩
theorem Ti.lays44:SlLaysC2.n5 Tryz.prog Ti.ren44 where
 mixed:=by kernel_rfl
 f5:=⟨Tryz.f85.name,by kernel_rfl,by kernel_rfl⟩
 f7:=⟨Tryz.f98.name,by kernel_rfl,by kernel_rfl⟩
 t3:=by kernel_rfl
 a3:=fun w=>by kernel_rfl
 z3:=fun w=>by kernel_rfl
 v3:=fun w=>by kernel_rfl
 t4:=by kernel_rfl
 a4:=fun w=>by kernel_rfl
 z4:=fun w=>by kernel_rfl
 v4:=fun w=>by kernel_rfl
 t22:=by kernel_rfl
 a22:=fun w=>by kernel_rfl
 z22:=fun w=>by kernel_rfl
 v22:=fun w=>by kernel_rfl
theorem Ti.lays45:SlLaysC2.n5 Tryz.prog Ti.ren45 where
 mixed:=by kernel_rfl
 f5:=⟨Tryz.f86.name,by kernel_rfl,by kernel_rfl⟩
 f7:=⟨Tryz.f99.name,by kernel_rfl,by kernel_rfl⟩
 t3:=by kernel_rfl
 a3:=fun w=>by kernel_rfl
 z3:=fun w=>by kernel_rfl
 v3:=fun w=>by kernel_rfl
 t4:=by kernel_rfl
 a4:=fun w=>by kernel_rfl
 z4:=fun w=>by kernel_rfl
 v4:=fun w=>by kernel_rfl
 t22:=by kernel_rfl
 a22:=fun w=>by kernel_rfl
 z22:=fun w=>by kernel_rfl
 v22:=fun w=>by kernel_rfl
theorem Ti.or2 (B:Nat) (x y:Int) (w:World) (h0:w.cell? ⟨B,0,none⟩=some (.int .i64 x)) (h1:w.cell? ⟨B,1,none⟩=some (.int .i64 y)) :
  Calls Tryz.prog 84 #[.slice (some ⟨B,0,none⟩) 2 2] w fun e w'=>e=.returned (.int .i64 (if x=0 then y else x))∧w'=w:=by
 obtain ⟨r,hr⟩:∃ r,r=if x=0 then y else x:=⟨_,rfl⟩
 rw [← hr]
 go_enter Tryz.func84,Tryz.ntmps84
 go_wp2
 refine wp_loop_rounds 3 ?_
 rw [rounds_succ];go_wp2
 ·rename_i hx
  go_ret
  have hx':x≠0:=by simpa using hx
  rw [if_neg hx'] at hr
  exact ⟨by rw [hr];rfl,rfl⟩
 ·rename_i hx
  have hx':x=0:=by simpa using hx
  rw [if_pos hx'] at hr
  rw [rounds_succ];go_wp2
  ·go_ret
   exact ⟨by rw [hr];rfl,rfl⟩
  ·rename_i hy
   have hy':y=0:=by simpa using hy
   rw [rounds_succ];go_wp2
   go_ret
   exact ⟨by rw [hr,hy'];rfl,rfl⟩
noncomputable def Ti.cfK (c x y:Int):Int:=if Lib.compareInt (mg c x) (mg c y)=0 then Lib.compareInt x y else Lib.compareInt (mg c x) (mg c y)
theorem Ti.cfK_lt (c x y:Int):decide (Ti.cfK c x y < 0)=ltB c x y:=by
 have e:∀ a b:Int,Lib.compareInt a b=if a < b then -1 else if b < a then 1 else 0:=fun a b=>rfl
 unfold Ti.cfK ltB ltK
 rw [e,e]
 congr 1
 apply propext
 by_cases h1:mg c x < mg c y
 ·simp [h1]
 ·by_cases h2:mg c y < mg c x
  ·simp [h1,h2];omega
  ·have h3:mg c x=mg c y:=by omega
   by_cases h4:x < y
   ·simp [h1,h2,h3,h4]
   ·by_cases h5:y < x<;>simp [h1,h2,h3,h4,h5]
theorem Ti.ltOf_cfK (c:Int):ltOf (Ti.cfK c)=ltB c:=by funext x y;exact Ti.cfK_lt c x y
theorem Ti.closure (c:Int) (B m:Nat) (x y:Int) (w:World) (es:Array MapEntry) (ck:Nat) (h0:w.cell? ⟨B,0,none⟩=some (.map (some m))) (h1:w.heap[m]? = some (.map es ck))
  (hl:∀ w':World,w'.heap[m]? = some (.map es ck)→∀ k:Int,(Instr.lookup 113 (.map (some m)) (.int .i64 k) false).run Tryz.prog w'=.ok (.int .i64 (mg c k)) w') :
  Calls Tryz.prog 83 #[.int .i64 x,.int .i64 y,.pointer (some ⟨B,0,none⟩)] w fun e w'=>e=.returned (.int .i64 (Ti.cfK c x y))∧∃ q os',w'=grow (w.drewN q) os':=by
 have e1:=AnyG.cmp_Compare_int Ti.lays44 (mg c x) (mg c y) w
 have e2:=AnyG.cmp_Compare_int Ti.lays45 x y w
 change Calls Tryz.prog 85 _ _ _ at e1
 change Calls Tryz.prog 86 _ _ _ at e2
 have hlx:=hl w h1 x
 have hly:=hl w h1 y
 have e3:=fun W ha hb=>Ti.or2 w.heap.size (Lib.compareInt (mg c x) (mg c y)) (Lib.compareInt x y) W ha hb
 unfold Ti.cfK
 generalize Lib.compareInt (mg c x) (mg c y)=r1 at e1 e3 ⊢
 generalize Lib.compareInt x y=r2 at e2 e3 ⊢
 generalize (if r1=0 then r2 else r1)=r at e3 ⊢
 have hn:(w.alloc (.cells #[.int .i64 r1,.int .i64 r2] 3)).heap[w.heap.size]? = some (.cells #[.int .i64 r1,.int .i64 r2] 3):=(MapKept.heap_alloc w _).1
 have e4:=e3 (w.alloc (.cells #[.int .i64 r1,.int .i64 r2] 3)) (by simp only [World.cell?,hn];rfl) (by simp only [World.cell?,hn];rfl)
 clear hn
 go_enter Tryz.func83,Tryz.ntmps83
 go_wp2_with (first | (go_at_call 85;refine e1.mono ?_;rintro e w1 ⟨rfl,hw1⟩;rw [hw1];clear hw1 w1) | (go_at_call 86;refine e2.mono ?_;rintro e w1 ⟨rfl,hw1⟩;rw [hw1];clear hw1 w1) | (go_at_call 84;refine e4.mono ?_;rintro e w1 ⟨rfl,hw1⟩;rw [hw1];clear hw1 w1))
 go_ret
 refine ⟨rfl,0,#[.cells #[.int .i64 r1,.int .i64 r2] 3],?_⟩
 show ({ w with heap:=w.heap.push _ }:World)={ w with heap:=w.heap++#[_],drawn:=w.drawn+0 }
 simp
end Go.Proofs
