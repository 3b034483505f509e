/- TimerSame: the statement: for every input the law returns true, and each argument reads as it did. -/
import Derived.Test.YtkhklaomjcgjcaaTiH
import Derived.Test.YtkhklaomjcgjcaaTiA
import Derived.Test.YtkhklaomjcgjcaaRows
namespace Go.Proofs.Ytkhklaomjcgjcaa.TimerSame
open Go Go.ChangeShapes Go.WideShapes Go.ChangeAt Go.RowKit Go.Joins Go.Sx
set_option linter.unusedVariables false
set_option linter.unusedSimpArgs false
open Go.Proofs.Ytkhklaomjcgjcaa
theorem walk1 (W:World) {b0 o0 n0 k0:Nat} {c0:Int} (l0:n0≤k0) (m0:k0≤maxLen) (g0:∀ j,j < n0→∀ (f:Nat) (κ:Kd),([.nt .i64,.nt .i64,.nt .i64]:List Kd)[f]? = some κ→W.cell? ⟨b0,o0+j * ([.nt .i64,.nt .i64,.nt .i64]:List Kd).length+f,none⟩=some (κ.of (gt c0 j f))) {x1_0:Int} (w1_0:(Lit.int .i64 x1_0).wf=true) {x1_1:Int} (w1_1:(Lit.int .i64 x1_1).wf=true) {x1_2:Int} (w1_2:(Lit.int .i64 x1_2).wf=true):Calls Try.prog 7 #[.slice (some ⟨b0,o0,none⟩) n0 k0,.agg #[.int .i64 x1_0,.int .i64 x1_1,.int .i64 x1_2]] W fun e W'=>e=.returned (.bool true)∧Below W.heap.size W W':=by
 unfold maxLen at m0
 have h1_0:=wf64 w1_0
 have h1_1:=wf64 w1_1
 have h1_2:=wf64 w1_2
 refine (Go.Sx.Ti.lSame_ok ⟨fun i=>match i with | 0=>b0 | _=>0,fun _=>ByteArray.empty⟩ (fun i=>match i with | 0=>c0 | 1=>Int.ofNat n0 | 2=>Int.ofNat o0 | 3=>Int.ofNat k0 | 4=>x1_0 | 5=>x1_1 | 6=>x1_2 | _=>0) (fun _=>false) (fun i a b hm=>?_) (fun p hp=>?_) W (fun G hG=>?_) [.slice (some ⟨b0,o0,none⟩) n0 k0,.agg #[.int .i64 x1_0,.int .i64 x1_1,.int .i64 x1_2]] ?_).mono fun e w' h=>ret_true rfl h
 ·simp only [Go.Sx.Ti.lSame,Go.Sx.Ti.ints,Go.Sx.Ti.i64s,Go.Sx.Ti.i64b,Go.Sx.lmap_eq,Go.Sx.lapp_eq,List.map_cons,List.map_nil,List.cons_append,List.nil_append,Go.Sx.Ti.o1,Go.Sx.Ti.kA,Go.Sx.Ti.lA,Go.Sx.Ti.gA,Go.Sx.Ti.bA,Go.Sx.Ti.bA4,Go.Sx.Ti.bA6,Go.Sx.Ti.xA,Go.Sx.Ti.fT,List.mem_cons,List.not_mem_nil,or_false,Prod.mk.injEq] at hm
  all_goals (first | exact hm.elim | (repeat' (rcases hm with ⟨rfl,rfl,rfl⟩ | hm))<;>(try obtain ⟨rfl,rfl,rfl⟩:=hm)<;>simp only [Int.ofNat_eq_natCast]<;>omega)
 ·simp only [Go.Sx.Ti.lSame,Go.Sx.Ti.ints,Go.Sx.Ti.i64s,Go.Sx.Ti.i64b,Go.Sx.lmap_eq,Go.Sx.lapp_eq,List.map_cons,List.map_nil,List.cons_append,List.nil_append,Go.Sx.Ti.o1,Go.Sx.Ti.kA,Go.Sx.Ti.lA,Go.Sx.Ti.gA,Go.Sx.Ti.bA,Go.Sx.Ti.bA4,Go.Sx.Ti.bA6,Go.Sx.Ti.xA,Go.Sx.Ti.fT,List.mem_cons,List.not_mem_nil,or_false] at hp
  all_goals (first | exact hp.elim | (repeat' (rcases hp with rfl | hp))<;>(try subst hp)<;>simp [SB.den,SI.den,sta]<;>omega)
 ·simp only [Go.Sx.Ti.lSame,Go.Sx.Ti.ints,Go.Sx.Ti.i64s,Go.Sx.Ti.i64b,Go.Sx.lmap_eq,Go.Sx.lapp_eq,List.map_cons,List.map_nil,List.cons_append,List.nil_append,Go.Sx.Ti.o1,Go.Sx.Ti.kA,Go.Sx.Ti.lA,Go.Sx.Ti.gA,Go.Sx.Ti.bA,Go.Sx.Ti.bA4,Go.Sx.Ti.bA6,Go.Sx.Ti.xA,Go.Sx.Ti.fT,List.mem_cons,List.not_mem_nil,or_false] at hG
  all_goals (subst hG;exact gvIs_of (lay:=[.nt .i64,.nt .i64,.nt .i64]) rfl rfl rfl g0)
 ·simp only [Go.Sx.Ti.lSame,Go.Sx.Ti.ints,Go.Sx.Ti.i64s,Go.Sx.Ti.i64b,Go.Sx.lmap_eq,Go.Sx.lapp_eq,List.map_cons,List.map_nil,List.cons_append,List.nil_append,Go.Sx.Ti.o1,Go.Sx.Ti.kA,Go.Sx.Ti.lA,Go.Sx.Ti.gA,Go.Sx.Ti.bA,Go.Sx.Ti.bA4,Go.Sx.Ti.bA6,Go.Sx.Ti.xA,Go.Sx.Ti.fT,SV.isL_cons,SV.isL_nil,SV.Is,SR.den,SI.den,SB.den,SS.den,sta]
  exact ⟨_,_,rfl,⟨_,_,_,_,rfl,rfl,rfl,rfl,rfl⟩,⟨_,_,rfl,⟨[_,_,_],⟨_,_,rfl,⟨_,rfl,rfl⟩,⟨_,_,rfl,⟨_,rfl,rfl⟩,⟨_,_,rfl,⟨_,rfl,rfl⟩,rfl⟩⟩⟩,rfl⟩,rfl⟩⟩
theorem walk0 (W:World) {x1_0:Int} (w1_0:(Lit.int .i64 x1_0).wf=true) {x1_1:Int} (w1_1:(Lit.int .i64 x1_1).wf=true) {x1_2:Int} (w1_2:(Lit.int .i64 x1_2).wf=true):Calls Try.prog 7 #[.slice none 0 0,.agg #[.int .i64 x1_0,.int .i64 x1_1,.int .i64 x1_2]] W fun e W'=>e=.returned (.bool true)∧Below W.heap.size W W':=by
 have h1_0:=wf64 w1_0
 have h1_1:=wf64 w1_1
 have h1_2:=wf64 w1_2
 refine (Go.Sx.Ti.lSame0_ok ⟨fun _=>0,fun _=>ByteArray.empty⟩ (fun i=>match i with | 4=>x1_0 | 5=>x1_1 | 6=>x1_2 | _=>0) (fun _=>false) (fun i a b hm=>?_) (fun p hp=>?_) W (fun G hG=>?_) [.slice none 0 0,.agg #[.int .i64 x1_0,.int .i64 x1_1,.int .i64 x1_2]] ?_).mono fun e w' h=>ret_true rfl h
 ·simp only [Go.Sx.Ti.lSame0,Go.Sx.Ti.ints,Go.Sx.Ti.i64s,Go.Sx.Ti.i64b,Go.Sx.lmap_eq,Go.Sx.lapp_eq,List.map_cons,List.map_nil,List.cons_append,List.nil_append,Go.Sx.Ti.o1,Go.Sx.Ti.kA,Go.Sx.Ti.lA,Go.Sx.Ti.gA,Go.Sx.Ti.bA,Go.Sx.Ti.bA4,Go.Sx.Ti.bA6,Go.Sx.Ti.xA,Go.Sx.Ti.fT,List.mem_cons,List.not_mem_nil,or_false,Prod.mk.injEq] at hm
  all_goals (first | exact hm.elim | (repeat' (rcases hm with ⟨rfl,rfl,rfl⟩ | hm))<;>(try obtain ⟨rfl,rfl,rfl⟩:=hm)<;>simp only [Int.ofNat_eq_natCast]<;>omega)
 ·simp only [Go.Sx.Ti.lSame0,Go.Sx.Ti.ints,Go.Sx.Ti.i64s,Go.Sx.Ti.i64b,Go.Sx.lmap_eq,Go.Sx.lapp_eq,List.map_cons,List.map_nil,List.cons_append,List.nil_append,Go.Sx.Ti.o1,Go.Sx.Ti.kA,Go.Sx.Ti.lA,Go.Sx.Ti.gA,Go.Sx.Ti.bA,Go.Sx.Ti.bA4,Go.Sx.Ti.bA6,Go.Sx.Ti.xA,Go.Sx.Ti.fT,List.mem_cons,List.not_mem_nil,or_false] at hp
  all_goals (first | exact hp.elim | (repeat' (rcases hp with rfl | hp))<;>(try subst hp)<;>simp [SB.den,SI.den,sta]<;>omega)
 ·simp only [Go.Sx.Ti.lSame0,Go.Sx.Ti.ints,Go.Sx.Ti.i64s,Go.Sx.Ti.i64b,Go.Sx.lmap_eq,Go.Sx.lapp_eq,List.map_cons,List.map_nil,List.cons_append,List.nil_append,Go.Sx.Ti.o1,Go.Sx.Ti.kA,Go.Sx.Ti.lA,Go.Sx.Ti.gA,Go.Sx.Ti.bA,Go.Sx.Ti.bA4,Go.Sx.Ti.bA6,Go.Sx.Ti.xA,Go.Sx.Ti.fT,List.mem_cons,List.not_mem_nil,or_false] at hG
  all_goals (exact hG.elim)
 ·simp only [Go.Sx.Ti.lSame0,Go.Sx.Ti.ints,Go.Sx.Ti.i64s,Go.Sx.Ti.i64b,Go.Sx.lmap_eq,Go.Sx.lapp_eq,List.map_cons,List.map_nil,List.cons_append,List.nil_append,Go.Sx.Ti.o1,Go.Sx.Ti.kA,Go.Sx.Ti.lA,Go.Sx.Ti.gA,Go.Sx.Ti.bA,Go.Sx.Ti.bA4,Go.Sx.Ti.bA6,Go.Sx.Ti.xA,Go.Sx.Ti.fT,SV.isL_cons,SV.isL_nil,SV.Is,SR.den,SI.den,SB.den,SS.den,sta]
  exact ⟨_,_,rfl,rfl,⟨_,_,rfl,⟨[_,_,_],⟨_,_,rfl,⟨_,rfl,rfl⟩,⟨_,_,rfl,⟨_,rfl,rfl⟩,⟨_,_,rfl,⟨_,rfl,rfl⟩,rfl⟩⟩⟩,rfl⟩,rfl⟩⟩
set_option maxRecDepth 100000 in
theorem lifted (os:Os) (started:os.Started) (H:Type) (enc:TypeId×Value→H) :
  ReturnsInHanded {} Try.checked os 7 .any (Rows.timerSameSpec.pre6 enc Try.prog Try.f7 Rows.timerSameRow.domain false) (Rows.timerSameSpec.post enc Try.prog Try.f7 false true false false):=by
 refine returnsInHanded_of_change (C:=Try.checked) own started (by kernel_rfl) Try.func7
  (ChangeSpec.witness6 (enc:=enc) (C:=Try.checked) false ⟨#[],#[.slice none 0 0,.agg #[.int .i64 0,.int .i64 0,.int .i64 0]],[]⟩ 8 (by kernel_rfl) (by kernel_rfl) (by kernel_rfl) (by kernel_rfl)) ?_
 intro W base args ds gs before hval0 hW hcnd _
 have hval:∀ (j:Nat) t v,Try.f7.params[j]? = some t→args[j]? = some v→Value.okWide Try.prog W .any base t v:=hval0
 have hW':=hW
 obtain ⟨p,q,hA0,hV,rfl,hfz,hnd⟩:=hW
 have hA:DataW.TrodAll enc Try.prog W 0 (fun _=>true) true Try.f7.params.toList args.toList ds p:=hA0
 rw [Try.params7] at hA hval
 obtain ⟨v0,vs0,d0,ds0,p0,q0,hargs,rfl,rfl,h0,r0⟩:=trodAll_cons hA
 obtain ⟨v1,vs1,d1,ds1,p1,q1,rfl,rfl,rfl,h1,r1⟩:=trodAll_cons r0
 obtain ⟨rfl,rfl,rfl⟩:=trodAll_nil r1
 obtain rfl:args=#[v0,v1]:=by cases args;simp_all
 obtain ⟨rfl,rfl⟩:=trodVars_none hV
 rw [List.append_nil] at hW'
 obtain ⟨cs1,rfl,hl1,hc1⟩:=open_agg kids (d:=5) (lay:=[.nt .i64,.nt .i64,.nt .i64]) Try.underlying32 (by decide +kernel) (by kernel_rfl) (hval 1 32 v1 rfl rfl) h1
 obtain ⟨y1_0,e1_0⟩:=hc1 0 (.nt .i64) rfl
 obtain ⟨y1_1,e1_1⟩:=hc1 1 (.nt .i64) rfl
 obtain ⟨y1_2,e1_2⟩:=hc1 2 (.nt .i64) rfl
 obtain rfl:cs1=[.int .i64 (IntKind.i64.wrap y1_0),.int .i64 (IntKind.i64.wrap y1_1),.int .i64 (IntKind.i64.wrap y1_2)]:=list_of_get hl1 (fun f u hu=>by
  match f,hu with
  | 0,hu=>cases hu;exact e1_0
  | 1,hu=>cases hu;exact e1_1
  | 2,hu=>cases hu;exact e1_2
  | f+3,hu=>simp at hu)
 have w1_0:=wf_wrap .i64 y1_0
 have w1_1:=wf_wrap .i64 y1_1
 have w1_2:=wf_wrap .i64 y1_2
 rcases open_rows kids (d:=5) (lay:=[.nt .i64,.nt .i64,.nt .i64]) Try.underlying29 (by decide +kernel) (by kernel_rfl) (by kernel_rfl) (hval 0 29 v0 rfl rfl) h0 with rfl | ⟨b0,o0,n0,k0,c0,rfl,l0,m0,g0⟩
 ·refine (walk0 W w1_0 w1_1 w1_2).mono fun e W' hh=>?_
  obtain ⟨he,hb⟩:=hh
  subst he
  exact ⟨_,rfl,law_post laid rowed full (by kernel_rfl) rfl (by kernel_rfl) Try.underlying4 hW' hA0 rfl hb⟩
 ·refine (walk1 W l0 m0 g0 w1_0 w1_1 w1_2).mono fun e W' hh=>?_
  obtain ⟨he,hb⟩:=hh
  subst he
  exact ⟨_,rfl,law_post laid rowed full (by kernel_rfl) rfl (by kernel_rfl) Try.underlying4 hW' hA0 rfl hb⟩
theorem proved:Rows.TimerSameSaid:=
 OpenClaim.holds_of_wide 7 Try.f7 rfl rfl rfl rfl rfl rfl rfl ⟨rfl,rfl,rfl,rfl,rfl⟩ rfl rfl rfl rfl rfl (by kernel_rfl) Try.func7 (by kernel_rfl)
  (of_decide_eq_true (by kernel_rfl)) (by unfold Func.isWrapper;first | (rw [if_pos (by decide +kernel)];kernel_rfl) | (rw [if_neg (by decide +kernel)];exact ⟨rfl,rfl⟩))
  (fun os started H enc _=>lifted os started H enc)
#print axioms proved
end Go.Proofs.Ytkhklaomjcgjcaa.TimerSame
