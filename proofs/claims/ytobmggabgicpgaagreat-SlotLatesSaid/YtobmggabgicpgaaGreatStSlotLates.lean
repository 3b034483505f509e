/- SlotLates: the statement: for every input the law returns true, and each argument reads as it did. -/
import Derived.Test.YtobmggabgicpgaaGreatSlH
import Derived.Test.YtobmggabgicpgaaGreatSlY
import Derived.WideKeyPair
import Derived.Test.YtobmggabgicpgaaGreatRows
namespace Go.Proofs.YtobmggabgicpgaaGreat.SlotLates
open Go Go.ChangeShapes Go.WideShapes Go.ChangeAt Go.RowKit Go.Joins Go.Sx
set_option linter.unusedVariables false
set_option linter.unusedSimpArgs false
open Go.Proofs.YtobmggabgicpgaaGreat
theorem walk1 (W:World) {x0_0:Int} (w0_0:(Lit.int .i64 x0_0).wf=true) {x0_1:Int} (w0_1:(Lit.int .i64 x0_1).wf=true) {x0_2:Int} (w0_2:(Lit.int .i64 x0_2).wf=true) {b1 o1 n1 k1:Nat} {c1:Int} (l1:n1≤k1) (m1:k1≤maxLen) (g1:∀ j,j < n1→∀ (f:Nat) (κ:Kd),([.nt .i64,.nt .i64,.nt .i64,.nt .i64,.nt .i64,.nt .i64,.nt .i64,.nt .u64]:List Kd)[f]? = some κ→W.cell? ⟨b1,o1+j * ([.nt .i64,.nt .i64,.nt .i64,.nt .i64,.nt .i64,.nt .i64,.nt .i64,.nt .u64]:List Kd).length+f,none⟩=some (κ.of (gt c1 j f))) {x2_0:Int} (w2_0:(Lit.int .i64 x2_0).wf=true) {x2_1:Int} (w2_1:(Lit.int .i64 x2_1).wf=true):Calls Tryz.prog 4 #[.agg #[.int .i64 x0_0,.int .i64 x0_1,.int .i64 x0_2],.slice (some ⟨b1,o1,none⟩) n1 k1,.agg #[.int .i64 x2_0,.int .i64 x2_1]] W fun e W'=>e=.returned (.bool true)∧Below W.heap.size W W':=by
 have h0_0:=wf64 w0_0
 have h0_1:=wf64 w0_1
 have h0_2:=wf64 w0_2
 unfold maxLen at m1
 have h2_0:=wf64 w2_0
 have h2_1:=wf64 w2_1
 refine (Go.Sx.Sl.lLat_ok ⟨fun i=>match i with | 0=>b1 | _=>0,fun _=>ByteArray.empty⟩ (fun i=>match i with | 0=>c1 | 1=>Int.ofNat n1 | 2=>Int.ofNat o1 | 3=>Int.ofNat k1 | 4=>x0_0 | 5=>x0_1 | 6=>x0_2 | 7=>x2_0 | 8=>x2_1 | _=>0) (fun _=>false) (fun i a b hm=>?_) (fun p hp=>?_) W (fun G hG=>?_) [.agg #[.int .i64 x0_0,.int .i64 x0_1,.int .i64 x0_2],.slice (some ⟨b1,o1,none⟩) n1 k1,.agg #[.int .i64 x2_0,.int .i64 x2_1]] ?_).mono fun e w' h=>ret_true rfl h
 ·simp only [Go.Sx.Sl.lLat,Go.Sx.Sl.i64s,Go.Sx.Sl.i64b,Go.Sx.lmap_eq,Go.Sx.lapp_eq,List.map_cons,List.map_nil,List.cons_append,List.nil_append,Go.Sx.Sl.o1,Go.Sx.Sl.kS,Go.Sx.Sl.lS,Go.Sx.Sl.gS,Go.Sx.Sl.bS,Go.Sx.Sl.fS,Go.Sx.Sl.shV,Go.Sx.Sl.bX,Go.Sx.Sl.wX,Go.Sx.Sl.bY,Go.Sx.Sl.wY,List.mem_cons,List.not_mem_nil,or_false,Prod.mk.injEq] at hm
  all_goals (first | exact hm.elim | (repeat' (rcases hm with ⟨rfl,rfl,rfl⟩ | hm))<;>(try obtain ⟨rfl,rfl,rfl⟩:=hm)<;>simp only [Int.ofNat_eq_natCast]<;>omega)
 ·simp only [Go.Sx.Sl.lLat,Go.Sx.Sl.i64s,Go.Sx.Sl.i64b,Go.Sx.lmap_eq,Go.Sx.lapp_eq,List.map_cons,List.map_nil,List.cons_append,List.nil_append,Go.Sx.Sl.o1,Go.Sx.Sl.kS,Go.Sx.Sl.lS,Go.Sx.Sl.gS,Go.Sx.Sl.bS,Go.Sx.Sl.fS,Go.Sx.Sl.shV,Go.Sx.Sl.bX,Go.Sx.Sl.wX,Go.Sx.Sl.bY,Go.Sx.Sl.wY,List.mem_cons,List.not_mem_nil,or_false] at hp
  all_goals (first | exact hp.elim | (repeat' (rcases hp with rfl | hp))<;>(try subst hp)<;>simp [SB.den,SI.den,sta]<;>omega)
 ·simp only [Go.Sx.Sl.lLat,Go.Sx.Sl.i64s,Go.Sx.Sl.i64b,Go.Sx.lmap_eq,Go.Sx.lapp_eq,List.map_cons,List.map_nil,List.cons_append,List.nil_append,Go.Sx.Sl.o1,Go.Sx.Sl.kS,Go.Sx.Sl.lS,Go.Sx.Sl.gS,Go.Sx.Sl.bS,Go.Sx.Sl.fS,Go.Sx.Sl.shV,Go.Sx.Sl.bX,Go.Sx.Sl.wX,Go.Sx.Sl.bY,Go.Sx.Sl.wY,List.mem_cons,List.not_mem_nil,or_false] at hG
  all_goals (subst hG;exact gvIs_of (lay:=[.nt .i64,.nt .i64,.nt .i64,.nt .i64,.nt .i64,.nt .i64,.nt .i64,.nt .u64]) rfl rfl rfl g1)
 ·simp only [Go.Sx.Sl.lLat,Go.Sx.Sl.i64s,Go.Sx.Sl.i64b,Go.Sx.lmap_eq,Go.Sx.lapp_eq,List.map_cons,List.map_nil,List.cons_append,List.nil_append,Go.Sx.Sl.o1,Go.Sx.Sl.kS,Go.Sx.Sl.lS,Go.Sx.Sl.gS,Go.Sx.Sl.bS,Go.Sx.Sl.fS,Go.Sx.Sl.shV,Go.Sx.Sl.bX,Go.Sx.Sl.wX,Go.Sx.Sl.bY,Go.Sx.Sl.wY,SV.isL_cons,SV.isL_nil,SV.Is,SR.den,SI.den,SB.den,SS.den,sta]
  exact ⟨_,_,rfl,⟨[_,_,_],⟨_,_,rfl,⟨_,rfl,rfl⟩,⟨_,_,rfl,⟨_,rfl,rfl⟩,⟨_,_,rfl,⟨_,rfl,rfl⟩,rfl⟩⟩⟩,rfl⟩,⟨_,_,rfl,⟨_,_,_,_,rfl,rfl,rfl,rfl,rfl⟩,⟨_,_,rfl,⟨[_,_],⟨_,_,rfl,⟨_,rfl,rfl⟩,⟨_,_,rfl,⟨_,rfl,rfl⟩,rfl⟩⟩,rfl⟩,rfl⟩⟩⟩
theorem walk0 (W:World) {x0_0:Int} (w0_0:(Lit.int .i64 x0_0).wf=true) {x0_1:Int} (w0_1:(Lit.int .i64 x0_1).wf=true) {x0_2:Int} (w0_2:(Lit.int .i64 x0_2).wf=true) {x2_0:Int} (w2_0:(Lit.int .i64 x2_0).wf=true) {x2_1:Int} (w2_1:(Lit.int .i64 x2_1).wf=true):Calls Tryz.prog 4 #[.agg #[.int .i64 x0_0,.int .i64 x0_1,.int .i64 x0_2],.slice none 0 0,.agg #[.int .i64 x2_0,.int .i64 x2_1]] W fun e W'=>e=.returned (.bool true)∧Below W.heap.size W W':=by
 have h0_0:=wf64 w0_0
 have h0_1:=wf64 w0_1
 have h0_2:=wf64 w0_2
 have h2_0:=wf64 w2_0
 have h2_1:=wf64 w2_1
 refine (Go.Sx.Sl.lLat0_ok ⟨fun _=>0,fun _=>ByteArray.empty⟩ (fun i=>match i with | 4=>x0_0 | 5=>x0_1 | 6=>x0_2 | 7=>x2_0 | 8=>x2_1 | _=>0) (fun _=>false) (fun i a b hm=>?_) (fun p hp=>?_) W (fun G hG=>?_) [.agg #[.int .i64 x0_0,.int .i64 x0_1,.int .i64 x0_2],.slice none 0 0,.agg #[.int .i64 x2_0,.int .i64 x2_1]] ?_).mono fun e w' h=>ret_true rfl h
 ·simp only [Go.Sx.Sl.lLat0,Go.Sx.Sl.i64s,Go.Sx.Sl.i64b,Go.Sx.lmap_eq,Go.Sx.lapp_eq,List.map_cons,List.map_nil,List.cons_append,List.nil_append,Go.Sx.Sl.o1,Go.Sx.Sl.kS,Go.Sx.Sl.lS,Go.Sx.Sl.gS,Go.Sx.Sl.bS,Go.Sx.Sl.fS,Go.Sx.Sl.shV,Go.Sx.Sl.bX,Go.Sx.Sl.wX,Go.Sx.Sl.bY,Go.Sx.Sl.wY,List.mem_cons,List.not_mem_nil,or_false,Prod.mk.injEq] at hm
  all_goals (first | exact hm.elim | (repeat' (rcases hm with ⟨rfl,rfl,rfl⟩ | hm))<;>(try obtain ⟨rfl,rfl,rfl⟩:=hm)<;>simp only [Int.ofNat_eq_natCast]<;>omega)
 ·simp only [Go.Sx.Sl.lLat0,Go.Sx.Sl.i64s,Go.Sx.Sl.i64b,Go.Sx.lmap_eq,Go.Sx.lapp_eq,List.map_cons,List.map_nil,List.cons_append,List.nil_append,Go.Sx.Sl.o1,Go.Sx.Sl.kS,Go.Sx.Sl.lS,Go.Sx.Sl.gS,Go.Sx.Sl.bS,Go.Sx.Sl.fS,Go.Sx.Sl.shV,Go.Sx.Sl.bX,Go.Sx.Sl.wX,Go.Sx.Sl.bY,Go.Sx.Sl.wY,List.mem_cons,List.not_mem_nil,or_false] at hp
  all_goals (first | exact hp.elim | (repeat' (rcases hp with rfl | hp))<;>(try subst hp)<;>simp [SB.den,SI.den,sta]<;>omega)
 ·simp only [Go.Sx.Sl.lLat0,Go.Sx.Sl.i64s,Go.Sx.Sl.i64b,Go.Sx.lmap_eq,Go.Sx.lapp_eq,List.map_cons,List.map_nil,List.cons_append,List.nil_append,Go.Sx.Sl.o1,Go.Sx.Sl.kS,Go.Sx.Sl.lS,Go.Sx.Sl.gS,Go.Sx.Sl.bS,Go.Sx.Sl.fS,Go.Sx.Sl.shV,Go.Sx.Sl.bX,Go.Sx.Sl.wX,Go.Sx.Sl.bY,Go.Sx.Sl.wY,List.mem_cons,List.not_mem_nil,or_false] at hG
  all_goals (exact hG.elim)
 ·simp only [Go.Sx.Sl.lLat0,Go.Sx.Sl.i64s,Go.Sx.Sl.i64b,Go.Sx.lmap_eq,Go.Sx.lapp_eq,List.map_cons,List.map_nil,List.cons_append,List.nil_append,Go.Sx.Sl.o1,Go.Sx.Sl.kS,Go.Sx.Sl.lS,Go.Sx.Sl.gS,Go.Sx.Sl.bS,Go.Sx.Sl.fS,Go.Sx.Sl.shV,Go.Sx.Sl.bX,Go.Sx.Sl.wX,Go.Sx.Sl.bY,Go.Sx.Sl.wY,SV.isL_cons,SV.isL_nil,SV.Is,SR.den,SI.den,SB.den,SS.den,sta]
  exact ⟨_,_,rfl,⟨[_,_,_],⟨_,_,rfl,⟨_,rfl,rfl⟩,⟨_,_,rfl,⟨_,rfl,rfl⟩,⟨_,_,rfl,⟨_,rfl,rfl⟩,rfl⟩⟩⟩,rfl⟩,⟨_,_,rfl,rfl,⟨_,_,rfl,⟨[_,_],⟨_,_,rfl,⟨_,rfl,rfl⟩,⟨_,_,rfl,⟨_,rfl,rfl⟩,rfl⟩⟩,rfl⟩,rfl⟩⟩⟩
set_option maxRecDepth 100000 in
theorem lifted (os:Os) (started:os.Started) (H:Type) (enc:TypeId×Value→H) :
  ReturnsInHanded {} Tryz.checked os 4 .any (Rows.slotLatesSpec.pre6 enc Tryz.prog Tryz.f4 Rows.slotLatesRow.domain false) (Rows.slotLatesSpec.post enc Tryz.prog Tryz.f4 false true false false):=by
 refine returnsInHanded_of_change (C:=Tryz.checked) own started (by kernel_rfl) Tryz.func4
  (ChangeSpec.witness6 (enc:=enc) (C:=Tryz.checked) false ⟨#[],#[.agg #[.int .i64 0,.int .i64 0,.int .i64 0],.slice none 0 0,.agg #[.int .i64 0,.int .i64 0]],[]⟩ 8 (by kernel_rfl) (by kernel_rfl) (by kernel_rfl) (by kernel_rfl)) ?_
 intro W base args ds gs before hval0 hW hcnd _
 have hval:∀ (j:Nat) t v,Tryz.f4.params[j]? = some t→args[j]? = some v→Value.okWide Tryz.prog W .any base t v:=hval0
 have hW':=hW
 obtain ⟨p,q,hA0,hV,rfl,hfz,hnd⟩:=hW
 have hA:DataW.TrodAll enc Tryz.prog W 0 (fun _=>true) true Tryz.f4.params.toList args.toList ds p:=hA0
 rw [Tryz.params4] at hA hval
 obtain ⟨v0,vs0,d0,ds0,p0,q0,hargs,rfl,rfl,h0,r0⟩:=trodAll_cons hA
 obtain ⟨v1,vs1,d1,ds1,p1,q1,rfl,rfl,rfl,h1,r1⟩:=trodAll_cons r0
 obtain ⟨v2,vs2,d2,ds2,p2,q2,rfl,rfl,rfl,h2,r2⟩:=trodAll_cons r1
 obtain ⟨rfl,rfl,rfl⟩:=trodAll_nil r2
 obtain rfl:args=#[v0,v1,v2]:=by cases args;simp_all
 obtain ⟨rfl,rfl⟩:=trodVars_none hV
 rw [List.append_nil] at hW'
 obtain ⟨x2_0,x2_1,rfl,-,-,w2_0,w2_1⟩:=_root_.Go.WideMaps.open_pair (k:=44) (e:=2) (q:=.i64) ⟨by kernel_rfl,by kernel_rfl,by kernel_rfl,by kernel_rfl⟩ (by kernel_rfl) (hval 2 44 v2 rfl rfl) h2
 obtain ⟨cs0,rfl,hl0,hc0⟩:=open_agg kids (d:=5) (lay:=[.nt .i64,.nt .i64,.nt .i64]) Tryz.underlying23 (by decide +kernel) (by kernel_rfl) (hval 0 23 v0 rfl rfl) h0
 obtain ⟨y0_0,e0_0⟩:=hc0 0 (.nt .i64) rfl
 obtain ⟨y0_1,e0_1⟩:=hc0 1 (.nt .i64) rfl
 obtain ⟨y0_2,e0_2⟩:=hc0 2 (.nt .i64) rfl
 obtain rfl:cs0=[.int .i64 (IntKind.i64.wrap y0_0),.int .i64 (IntKind.i64.wrap y0_1),.int .i64 (IntKind.i64.wrap y0_2)]:=list_of_get hl0 (fun f u hu=>by
  match f,hu with
  | 0,hu=>cases hu;exact e0_0
  | 1,hu=>cases hu;exact e0_1
  | 2,hu=>cases hu;exact e0_2
  | f+3,hu=>simp at hu)
 have w0_0:=wf_wrap .i64 y0_0
 have w0_1:=wf_wrap .i64 y0_1
 have w0_2:=wf_wrap .i64 y0_2
 rcases open_rows kids (d:=5) (lay:=[.nt .i64,.nt .i64,.nt .i64,.nt .i64,.nt .i64,.nt .i64,.nt .i64,.nt .u64]) Tryz.underlying24 (by decide +kernel) (by kernel_rfl) (by kernel_rfl) (hval 1 24 v1 rfl rfl) h1 with rfl | ⟨b1,o1,n1,k1,c1,rfl,l1,m1,g1⟩
 ·refine (walk0 W w0_0 w0_1 w0_2 w2_0 w2_1).mono fun e W' hh=>?_
  obtain ⟨he,hb⟩:=hh
  subst he
  exact ⟨_,rfl,law_post laid rowed full (by kernel_rfl) rfl (by kernel_rfl) Tryz.underlying4 hW' hA0 rfl hb⟩
 ·refine (walk1 W w0_0 w0_1 w0_2 l1 m1 g1 w2_0 w2_1).mono fun e W' hh=>?_
  obtain ⟨he,hb⟩:=hh
  subst he
  exact ⟨_,rfl,law_post laid rowed full (by kernel_rfl) rfl (by kernel_rfl) Tryz.underlying4 hW' hA0 rfl hb⟩
theorem proved:Rows.SlotLatesSaid:=
 OpenClaim.holds_of_wide 4 Tryz.f4 rfl rfl rfl rfl rfl rfl rfl ⟨rfl,rfl,rfl,rfl,rfl⟩ rfl rfl rfl rfl rfl (by kernel_rfl) Tryz.func4 (by kernel_rfl)
  (of_decide_eq_true (by kernel_rfl)) (by unfold Func.isWrapper;first | (rw [if_pos (by decide +kernel)];kernel_rfl) | (rw [if_neg (by decide +kernel)];exact ⟨rfl,rfl⟩))
  (fun os started H enc _=>lifted os started H enc)
#print axioms proved
end Go.Proofs.YtobmggabgicpgaaGreat.SlotLates
