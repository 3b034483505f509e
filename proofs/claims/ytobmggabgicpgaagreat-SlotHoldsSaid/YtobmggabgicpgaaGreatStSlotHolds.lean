/- SlotHolds: the statement: for every input the law returns true, and each argument reads as it did. -/
import Derived.Test.YtobmggabgicpgaaGreatSlH
import Derived.Test.YtobmggabgicpgaaGreatSlZ
import Derived.Test.YtobmggabgicpgaaGreatRows
namespace Go.Proofs.YtobmggabgicpgaaGreat.SlotHolds
open Go Go.ChangeShapes Go.WideShapes Go.ChangeAt Go.RowKit Go.Joins Go.Sx
set_option linter.unusedVariables false
set_option linter.unusedSimpArgs false
open Go.Proofs.YtobmggabgicpgaaGreat
theorem walk1 (W:World) {x0:Int} (w0:(Lit.int .i64 x0).wf=true) {b1 o1 n1 k1:Nat} {c1:Int} (l1:n1≤k1) (m1:k1≤maxLen) (g1:∀ j,j < n1→∀ (f:Nat) (κ:Kd),([.nt .i64,.nt .i64,.nt .i64,.nt .i64,.nt .i64,.nt .i64]:List Kd)[f]? = some κ→W.cell? ⟨b1,o1+j * ([.nt .i64,.nt .i64,.nt .i64,.nt .i64,.nt .i64,.nt .i64]:List Kd).length+f,none⟩=some (κ.of (gt c1 j f))):Calls Tryz.prog 5 #[.int .i64 x0,.slice (some ⟨b1,o1,none⟩) n1 k1] W fun e W'=>e=.returned (.bool true)∧Below W.heap.size W W':=by
 have h0:=wf64 w0
 unfold maxLen at m1
 refine (Go.Sx.Sl.lHolds_ok ⟨fun i=>match i with | 0=>b1 | _=>0,fun _=>ByteArray.empty⟩ (fun i=>match i with | 0=>c1 | 1=>Int.ofNat n1 | 2=>Int.ofNat o1 | 3=>Int.ofNat k1 | 4=>x0 | _=>0) (fun _=>false) (fun i a b hm=>?_) (fun p hp=>?_) W (fun G hG=>?_) [.int .i64 x0,.slice (some ⟨b1,o1,none⟩) n1 k1] ?_).mono fun e w' h=>ret_true rfl h
 ·simp only [Go.Sx.Sl.lHolds,Go.Sx.Sl.i64s,Go.Sx.Sl.i64b,Go.Sx.lmap_eq,Go.Sx.lapp_eq,List.map_cons,List.map_nil,List.cons_append,List.nil_append,Go.Sx.Sl.o1,Go.Sx.Sl.kS,Go.Sx.Sl.lS,Go.Sx.Sl.gS,Go.Sx.Sl.bS,Go.Sx.Sl.fS,Go.Sx.Sl.shV,Go.Sx.Sl.bZ,Go.Sx.Sl.kA,Go.Sx.Sl.gA,List.mem_cons,List.not_mem_nil,or_false,Prod.mk.injEq] at hm
  all_goals (first | exact hm.elim | (repeat' (rcases hm with ⟨rfl,rfl,rfl⟩ | hm))<;>(try obtain ⟨rfl,rfl,rfl⟩:=hm)<;>simp only [Int.ofNat_eq_natCast]<;>omega)
 ·simp only [Go.Sx.Sl.lHolds,Go.Sx.Sl.i64s,Go.Sx.Sl.i64b,Go.Sx.lmap_eq,Go.Sx.lapp_eq,List.map_cons,List.map_nil,List.cons_append,List.nil_append,Go.Sx.Sl.o1,Go.Sx.Sl.kS,Go.Sx.Sl.lS,Go.Sx.Sl.gS,Go.Sx.Sl.bS,Go.Sx.Sl.fS,Go.Sx.Sl.shV,Go.Sx.Sl.bZ,Go.Sx.Sl.kA,Go.Sx.Sl.gA,List.mem_cons,List.not_mem_nil,or_false] at hp
  all_goals (first | exact hp.elim | (repeat' (rcases hp with rfl | hp))<;>(try subst hp)<;>simp [SB.den,SI.den,sta]<;>omega)
 ·simp only [Go.Sx.Sl.lHolds,Go.Sx.Sl.i64s,Go.Sx.Sl.i64b,Go.Sx.lmap_eq,Go.Sx.lapp_eq,List.map_cons,List.map_nil,List.cons_append,List.nil_append,Go.Sx.Sl.o1,Go.Sx.Sl.kS,Go.Sx.Sl.lS,Go.Sx.Sl.gS,Go.Sx.Sl.bS,Go.Sx.Sl.fS,Go.Sx.Sl.shV,Go.Sx.Sl.bZ,Go.Sx.Sl.kA,Go.Sx.Sl.gA,List.mem_cons,List.not_mem_nil,or_false] at hG
  all_goals (subst hG;exact gvIs_of (lay:=[.nt .i64,.nt .i64,.nt .i64,.nt .i64,.nt .i64,.nt .i64]) rfl rfl rfl g1)
 ·simp only [Go.Sx.Sl.lHolds,Go.Sx.Sl.i64s,Go.Sx.Sl.i64b,Go.Sx.lmap_eq,Go.Sx.lapp_eq,List.map_cons,List.map_nil,List.cons_append,List.nil_append,Go.Sx.Sl.o1,Go.Sx.Sl.kS,Go.Sx.Sl.lS,Go.Sx.Sl.gS,Go.Sx.Sl.bS,Go.Sx.Sl.fS,Go.Sx.Sl.shV,Go.Sx.Sl.bZ,Go.Sx.Sl.kA,Go.Sx.Sl.gA,SV.isL_cons,SV.isL_nil,SV.Is,SR.den,SI.den,SB.den,SS.den,sta]
  exact ⟨_,_,rfl,⟨_,rfl,rfl⟩,⟨_,_,rfl,⟨_,_,_,_,rfl,rfl,rfl,rfl,rfl⟩,rfl⟩⟩
theorem walk0 (W:World) {x0:Int} (w0:(Lit.int .i64 x0).wf=true):Calls Tryz.prog 5 #[.int .i64 x0,.slice none 0 0] W fun e W'=>e=.returned (.bool true)∧Below W.heap.size W W':=by
 have h0:=wf64 w0
 refine (Go.Sx.Sl.lHolds0_ok ⟨fun _=>0,fun _=>ByteArray.empty⟩ (fun i=>match i with | 4=>x0 | _=>0) (fun _=>false) (fun i a b hm=>?_) (fun p hp=>?_) W (fun G hG=>?_) [.int .i64 x0,.slice none 0 0] ?_).mono fun e w' h=>ret_true rfl h
 ·simp only [Go.Sx.Sl.lHolds0,Go.Sx.Sl.i64s,Go.Sx.Sl.i64b,Go.Sx.lmap_eq,Go.Sx.lapp_eq,List.map_cons,List.map_nil,List.cons_append,List.nil_append,Go.Sx.Sl.o1,Go.Sx.Sl.kS,Go.Sx.Sl.lS,Go.Sx.Sl.gS,Go.Sx.Sl.bS,Go.Sx.Sl.fS,Go.Sx.Sl.shV,Go.Sx.Sl.bZ,Go.Sx.Sl.kA,Go.Sx.Sl.gA,List.mem_cons,List.not_mem_nil,or_false,Prod.mk.injEq] at hm
  all_goals (first | exact hm.elim | (repeat' (rcases hm with ⟨rfl,rfl,rfl⟩ | hm))<;>(try obtain ⟨rfl,rfl,rfl⟩:=hm)<;>simp only [Int.ofNat_eq_natCast]<;>omega)
 ·simp only [Go.Sx.Sl.lHolds0,Go.Sx.Sl.i64s,Go.Sx.Sl.i64b,Go.Sx.lmap_eq,Go.Sx.lapp_eq,List.map_cons,List.map_nil,List.cons_append,List.nil_append,Go.Sx.Sl.o1,Go.Sx.Sl.kS,Go.Sx.Sl.lS,Go.Sx.Sl.gS,Go.Sx.Sl.bS,Go.Sx.Sl.fS,Go.Sx.Sl.shV,Go.Sx.Sl.bZ,Go.Sx.Sl.kA,Go.Sx.Sl.gA,List.mem_cons,List.not_mem_nil,or_false] at hp
  all_goals (first | exact hp.elim | (repeat' (rcases hp with rfl | hp))<;>(try subst hp)<;>simp [SB.den,SI.den,sta]<;>omega)
 ·simp only [Go.Sx.Sl.lHolds0,Go.Sx.Sl.i64s,Go.Sx.Sl.i64b,Go.Sx.lmap_eq,Go.Sx.lapp_eq,List.map_cons,List.map_nil,List.cons_append,List.nil_append,Go.Sx.Sl.o1,Go.Sx.Sl.kS,Go.Sx.Sl.lS,Go.Sx.Sl.gS,Go.Sx.Sl.bS,Go.Sx.Sl.fS,Go.Sx.Sl.shV,Go.Sx.Sl.bZ,Go.Sx.Sl.kA,Go.Sx.Sl.gA,List.mem_cons,List.not_mem_nil,or_false] at hG
  all_goals (exact hG.elim)
 ·simp only [Go.Sx.Sl.lHolds0,Go.Sx.Sl.i64s,Go.Sx.Sl.i64b,Go.Sx.lmap_eq,Go.Sx.lapp_eq,List.map_cons,List.map_nil,List.cons_append,List.nil_append,Go.Sx.Sl.o1,Go.Sx.Sl.kS,Go.Sx.Sl.lS,Go.Sx.Sl.gS,Go.Sx.Sl.bS,Go.Sx.Sl.fS,Go.Sx.Sl.shV,Go.Sx.Sl.bZ,Go.Sx.Sl.kA,Go.Sx.Sl.gA,SV.isL_cons,SV.isL_nil,SV.Is,SR.den,SI.den,SB.den,SS.den,sta]
  exact ⟨_,_,rfl,⟨_,rfl,rfl⟩,⟨_,_,rfl,rfl,rfl⟩⟩
set_option maxRecDepth 100000 in
theorem lifted (os:Os) (started:os.Started) (H:Type) (enc:TypeId×Value→H) :
  ReturnsInHanded {} Tryz.checked os 5 .any (Rows.slotHoldsSpec.pre6 enc Tryz.prog Tryz.f5 Rows.slotHoldsRow.domain false) (Rows.slotHoldsSpec.post enc Tryz.prog Tryz.f5 false true false false):=by
 refine returnsInHanded_of_change (C:=Tryz.checked) own started (by kernel_rfl) Tryz.func5
  (ChangeSpec.witness6 (enc:=enc) (C:=Tryz.checked) false ⟨#[],#[.int .i64 0,.slice none 0 0],[]⟩ 8 (by kernel_rfl) (by kernel_rfl) (by kernel_rfl) (by kernel_rfl)) ?_
 intro W base args ds gs before hval0 hW hcnd _
 have hval:∀ (j:Nat) t v,Tryz.f5.params[j]? = some t→args[j]? = some v→Value.okWide Tryz.prog W .any base t v:=hval0
 have hW':=hW
 obtain ⟨p,q,hA0,hV,rfl,hfz,hnd⟩:=hW
 have hA:DataW.TrodAll enc Tryz.prog W 0 (fun _=>true) true Tryz.f5.params.toList args.toList ds p:=hA0
 rw [Tryz.params5] at hA hval
 obtain ⟨v0,vs0,d0,ds0,p0,q0,hargs,rfl,rfl,h0,r0⟩:=trodAll_cons hA
 obtain ⟨v1,vs1,d1,ds1,p1,q1,rfl,rfl,rfl,h1,r1⟩:=trodAll_cons r0
 obtain ⟨rfl,rfl,rfl⟩:=trodAll_nil r1
 obtain rfl:args=#[v0,v1]:=by cases args;simp_all
 obtain ⟨rfl,rfl⟩:=trodVars_none hV
 rw [List.append_nil] at hW'
 obtain ⟨x0,rfl,rfl,rfl,w0⟩:=open_int Tryz.underlying3 (hval 0 3 v0 rfl rfl) h0
 rcases open_rows kids (d:=5) (lay:=[.nt .i64,.nt .i64,.nt .i64,.nt .i64,.nt .i64,.nt .i64]) Tryz.underlying63 (by decide +kernel) (by kernel_rfl) (by kernel_rfl) (hval 1 63 v1 rfl rfl) h1 with rfl | ⟨b1,o1,n1,k1,c1,rfl,l1,m1,g1⟩
 ·refine (walk0 W w0).mono fun e W' hh=>?_
  obtain ⟨he,hb⟩:=hh
  subst he
  exact ⟨_,rfl,law_post laid rowed full (by kernel_rfl) rfl (by kernel_rfl) Tryz.underlying4 hW' hA0 rfl hb⟩
 ·refine (walk1 W w0 l1 m1 g1).mono fun e W' hh=>?_
  obtain ⟨he,hb⟩:=hh
  subst he
  exact ⟨_,rfl,law_post laid rowed full (by kernel_rfl) rfl (by kernel_rfl) Tryz.underlying4 hW' hA0 rfl hb⟩
theorem proved:Rows.SlotHoldsSaid:=
 OpenClaim.holds_of_wide 5 Tryz.f5 rfl rfl rfl rfl rfl rfl rfl ⟨rfl,rfl,rfl,rfl,rfl⟩ rfl rfl rfl rfl rfl (by kernel_rfl) Tryz.func5 (by kernel_rfl)
  (of_decide_eq_true (by kernel_rfl)) (by unfold Func.isWrapper;first | (rw [if_pos (by decide +kernel)];kernel_rfl) | (rw [if_neg (by decide +kernel)];exact ⟨rfl,rfl⟩))
  (fun os started H enc _=>lifted os started H enc)
#print axioms proved
end Go.Proofs.YtobmggabgicpgaaGreat.SlotHolds
