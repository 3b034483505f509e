/- MessageKinds: the statement: for every input the law returns true, and each argument reads as it did. -/
import Derived.Test.YtljfkplkdeinmaaGreatMgH
import Derived.Test.YtljfkplkdeinmaaGreatMgK
import Derived.Test.YtljfkplkdeinmaaGreatRows
namespace Go.Proofs.YtljfkplkdeinmaaGreat.MessageKinds
open Go Go.ChangeShapes Go.WideShapes Go.ChangeAt Go.RowKit Go.Joins Go.Sx
set_option linter.unusedVariables false
set_option linter.unusedSimpArgs false
open Go.Proofs.YtljfkplkdeinmaaGreat
theorem walk (W:World) {x0:Int} (w0:(Lit.int .i64 x0).wf=true):Calls Tryz.prog 4 #[.int .i64 x0] W fun e W'=>e=.returned (.bool true)∧Below W.heap.size W W':=by
 have h0:=wf64 w0
 refine (Go.Sx.Mg.cKinds_ok ⟨fun _=>0,fun _=>ByteArray.empty⟩ (fun i=>match i with | 0=>x0 | _=>0) (fun _=>false) (fun i a b hm=>?_) (fun p hp=>?_) W (fun G hG=>?_) (fun _=>none) (fun _ _ h=>by cases h) [.int .i64 x0] ?_).mono fun e w' h=>ret_true rfl h
 ·simp only [Go.Sx.Mg.cKinds,Go.Sx.Mg.i64s,Go.Sx.Mg.i64b,Go.Sx.lmap_eq,Go.Sx.lapp_eq,List.map_cons,List.map_nil,List.cons_append,List.nil_append,Go.Sx.Mg.o1,List.mem_cons,List.not_mem_nil,or_false,Prod.mk.injEq] at hm
  all_goals (first | exact hm.elim | (repeat' (rcases hm with ⟨rfl,rfl,rfl⟩ | hm))<;>(try obtain ⟨rfl,rfl,rfl⟩:=hm)<;>simp only [Int.ofNat_eq_natCast]<;>omega)
 ·simp only [Go.Sx.Mg.cKinds,Go.Sx.Mg.i64s,Go.Sx.Mg.i64b,Go.Sx.lmap_eq,Go.Sx.lapp_eq,List.map_cons,List.map_nil,List.cons_append,List.nil_append,Go.Sx.Mg.o1,List.mem_cons,List.not_mem_nil,or_false] at hp
  all_goals (first | exact hp.elim | (repeat' (rcases hp with rfl | hp))<;>(try subst hp)<;>simp [SB.den,SI.den,sta]<;>omega)
 ·simp only [Go.Sx.Mg.cKinds,Go.Sx.Mg.i64s,Go.Sx.Mg.i64b,Go.Sx.lmap_eq,Go.Sx.lapp_eq,List.map_cons,List.map_nil,List.cons_append,List.nil_append,Go.Sx.Mg.o1,List.mem_cons,List.not_mem_nil,or_false] at hG
  all_goals (exact hG.elim)
 ·simp only [Go.Sx.Mg.cKinds,Go.Sx.Mg.i64s,Go.Sx.Mg.i64b,Go.Sx.lmap_eq,Go.Sx.lapp_eq,List.map_cons,List.map_nil,List.cons_append,List.nil_append,Go.Sx.Mg.o1,SV.isL_cons,SV.isL_nil,SV.Is,SR.den,SI.den,SB.den,SS.den,sta]
  exact ⟨_,_,rfl,⟨_,rfl,rfl⟩,rfl⟩
set_option maxRecDepth 100000 in
theorem lifted (os:Os) (started:os.Started) (H:Type) (enc:TypeId×Value→H) :
  ReturnsInHanded {} Tryz.checked os 4 .any (Rows.messageKindsSpec.pre6 enc Tryz.prog Tryz.f4 Rows.messageKindsRow.domain false) (Rows.messageKindsSpec.post enc Tryz.prog Tryz.f4 false true false false):=by
 refine returnsInHanded_of_change (C:=Tryz.checked) own started (by kernel_rfl) Tryz.func4
  (ChangeSpec.witness6 (enc:=enc) (C:=Tryz.checked) false ⟨#[],#[.int .i64 0],[]⟩ 8 (by kernel_rfl) (by kernel_rfl) (by kernel_rfl) (by kernel_rfl)) ?_
 intro W base args ds gs before hval0 hW hcnd _
 have hval:∀ (j:Nat) t v,Tryz.f4.params[j]? = some t→args[j]? = some v→Value.okWide Tryz.prog W .any base t v:=hval0
 have hW':=hW
 obtain ⟨p,q,hA0,hV,rfl,hfz,hnd⟩:=hW
 have hA:DataW.TrodAll enc Tryz.prog W 0 (fun _=>true) true Tryz.f4.params.toList args.toList ds p:=hA0
 rw [Tryz.params4] at hA hval
 obtain ⟨v0,vs0,d0,ds0,p0,q0,hargs,rfl,rfl,h0,r0⟩:=trodAll_cons hA
 obtain ⟨rfl,rfl,rfl⟩:=trodAll_nil r0
 obtain rfl:args=#[v0]:=by cases args;simp_all
 obtain ⟨rfl,rfl⟩:=trodVars_none hV
 rw [List.append_nil] at hW'
 obtain ⟨x0,rfl,rfl,rfl,w0⟩:=open_int Tryz.underlying3 (hval 0 3 v0 rfl rfl) h0
 refine (walk W w0).mono fun e W' hh=>?_
 obtain ⟨he,hb⟩:=hh
 subst he
 exact ⟨_,rfl,law_post laid rowed full (by kernel_rfl) rfl (by kernel_rfl) Tryz.underlying4 hW' hA0 rfl hb⟩
theorem proved:Rows.MessageKindsSaid:=
 OpenClaim.holds_of_wide 4 Tryz.f4 rfl rfl rfl rfl rfl rfl rfl ⟨rfl,rfl,rfl,rfl,rfl⟩ rfl rfl rfl rfl rfl (by kernel_rfl) Tryz.func4 (by kernel_rfl)
  (of_decide_eq_true (by kernel_rfl)) (by unfold Func.isWrapper;first | (rw [if_pos (by decide +kernel)];kernel_rfl) | (rw [if_neg (by decide +kernel)];exact ⟨rfl,rfl⟩))
  (fun os started H enc _=>lifted os started H enc)
#print axioms proved
end Go.Proofs.YtljfkplkdeinmaaGreat.MessageKinds
