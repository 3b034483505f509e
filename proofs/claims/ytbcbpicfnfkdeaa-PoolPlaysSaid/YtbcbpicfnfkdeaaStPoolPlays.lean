/- PoolPlays: the statement: for every input the law returns true, and each argument reads as it did. -/
import Derived.Test.YtbcbpicfnfkdeaaPkH
import Derived.Test.YtbcbpicfnfkdeaaSxSf
import Derived.Test.YtbcbpicfnfkdeaaPkZ
import Derived.Test.YtbcbpicfnfkdeaaRows
namespace Go.Proofs.Ytbcbpicfnfkdeaa.PoolPlays
open Go Go.ChangeShapes Go.WideShapes Go.ChangeAt Go.RowKit Go.Joins Go.Sx
set_option linter.unusedVariables false
set_option linter.unusedSimpArgs false
open Go.Proofs.Ytbcbpicfnfkdeaa
theorem walk (W:World) {x0:Int} (w0:(Lit.int .i64 x0).wf=true) {v1:Value} {y1:Int} (m1:flenC y1≤maxLen) (z1:∀ kv iv bv,Fz (sta Go.Sx.Pk.FI Go.Sx.Pk.FB kv iv bv) (fun b=>W.heap[b]?) 6 y1 v1):Calls Try.prog 5 #[.int .i64 x0,v1] W fun e W'=>e=.returned (.bool true)∧Below W.heap.size W W':=by
 have h0:=wf64 w0
 unfold maxLen at m1
 have e1:∀ kv iv bv,(sta Go.Sx.Pk.FI Go.Sx.Pk.FB kv iv bv).fi 200 y1 0 0 0 0 0=flenC y1:=fun _ _ _=>by simp [sta,Go.Sx.Pk.FI,mkFI]
 have u1:∀ kv bv,(sta Go.Sx.Pk.FI Go.Sx.Pk.FB kv (fun i=>match i with | 0=>x0 | 1=>y1 | _=>0) bv).iv 1=y1:=fun _ _=>rfl
 refine (Go.Sx.Pk.pPlays_ok ⟨fun _=>0,fun _=>ByteArray.empty⟩ (fun i=>match i with | 0=>x0 | 1=>y1 | _=>0) (fun _=>false) (fun i a b hm=>?_) (fun p hp=>?_) W (fun G hG=>?_) (fun b=>W.heap[b]?) (fun _ _ h=>h) [.int .i64 x0,v1] ?_).mono fun e w' h=>ret_true rfl h
 ·simp only [Go.Sx.Pk.pPlays,Go.Sx.Pk.ints,Go.Sx.Pk.i64s,Go.Sx.Pk.i64b,Go.Sx.lmap_eq,Go.Sx.lapp_eq,List.map_cons,List.map_nil,List.cons_append,List.nil_append,Go.Sx.Pk.o1,Go.Sx.Pk.mxF,List.mem_cons,List.not_mem_nil,or_false,Prod.mk.injEq] at hm
  all_goals (first | exact hm.elim | (repeat' (rcases hm with ⟨rfl,rfl,rfl⟩ | hm))<;>(try obtain ⟨rfl,rfl,rfl⟩:=hm)<;>simp only [Int.ofNat_eq_natCast]<;>omega)
 ·simp only [Go.Sx.Pk.pPlays,Go.Sx.Pk.ints,Go.Sx.Pk.i64s,Go.Sx.Pk.i64b,Go.Sx.lmap_eq,Go.Sx.lapp_eq,List.map_cons,List.map_nil,List.cons_append,List.nil_append,Go.Sx.Pk.o1,Go.Sx.Pk.mxF,List.mem_cons,List.not_mem_nil,or_false] at hp
  all_goals (first | exact hp.elim | (repeat' (rcases hp with rfl | hp))<;>(try subst hp)<;>simp [SB.den,SI.den,SI.fl,e1,u1]<;>omega)
 ·simp only [Go.Sx.Pk.pPlays,Go.Sx.Pk.ints,Go.Sx.Pk.i64s,Go.Sx.Pk.i64b,Go.Sx.lmap_eq,Go.Sx.lapp_eq,List.map_cons,List.map_nil,List.cons_append,List.nil_append,Go.Sx.Pk.o1,Go.Sx.Pk.mxF,List.mem_cons,List.not_mem_nil,or_false] at hG
  all_goals (exact hG.elim)
 ·simp only [Go.Sx.Pk.pPlays,Go.Sx.Pk.ints,Go.Sx.Pk.i64s,Go.Sx.Pk.i64b,Go.Sx.lmap_eq,Go.Sx.lapp_eq,List.map_cons,List.map_nil,List.cons_append,List.nil_append,Go.Sx.Pk.o1,Go.Sx.Pk.mxF,SV.isL_cons,SV.isL_nil,SV.Is,SR.den,SI.den,SB.den,SS.den,sta]
  exact ⟨_,_,rfl,⟨_,rfl,rfl⟩,⟨_,_,rfl,⟨_,rfl,by refine Fz.fi (σ:=sta Go.Sx.Pk.FI Go.Sx.Pk.FB ⟨fun _=>0,fun _=>ByteArray.empty⟩ (fun _=>0) (fun _=>false)) ?_ ?_ (z1 _ _ _)<;>rfl⟩,rfl⟩⟩
set_option maxRecDepth 100000 in
theorem lifted (os:Os) (started:os.Started) (H:Type) (enc:TypeId×Value→H) :
  ReturnsInHanded {} Try.checked os 5 .any (Rows.poolPlaysSpec.pre6 enc Try.prog Try.f5 Rows.poolPlaysRow.domain false) (Rows.poolPlaysSpec.post enc Try.prog Try.f5 false true false false):=by
 refine returnsInHanded_of_change (C:=Try.checked) own started (by kernel_rfl) Try.func5
  (ChangeSpec.witness6 (enc:=enc) (C:=Try.checked) false ⟨#[],#[.int .i64 0,.slice none 0 0],[]⟩ 8 (by kernel_rfl) (by kernel_rfl) (by kernel_rfl) (by kernel_rfl)) ?_
 intro W base args ds gs before hval0 hW hcnd _
 have hval:∀ (j:Nat) t v,Try.f5.params[j]? = some t→args[j]? = some v→Value.okWide Try.prog W .any base t v:=hval0
 have hW':=hW
 obtain ⟨p,q,hA0,hV,rfl,hfz,hnd⟩:=hW
 have hA:DataW.TrodAll enc Try.prog W 0 (fun _=>true) true Try.f5.params.toList args.toList ds p:=hA0
 rw [Try.params5] at hA hval
 obtain ⟨v0,vs0,d0,ds0,p0,q0,hargs,rfl,rfl,h0,r0⟩:=trodAll_cons hA
 obtain ⟨v1,vs1,d1,ds1,p1,q1,rfl,rfl,rfl,h1,r1⟩:=trodAll_cons r0
 obtain ⟨rfl,rfl,rfl⟩:=trodAll_nil r1
 obtain rfl:args=#[v0,v1]:=by cases args;simp_all
 obtain ⟨rfl,rfl⟩:=trodVars_none hV
 rw [List.append_nil] at hW'
 obtain ⟨x0,rfl,rfl,rfl,w0⟩:=open_int Try.underlying3 (hval 0 3 v0 rfl rfl) h0
 obtain ⟨y1,m1,z1⟩:=open_fs kids (U:=Go.Sx.Pk.U) (V:=Go.Sx.Pk.V) (d:=6) (i:=6) Try.underlying43 (by decide +kernel) (by kernel_rfl) (hval 1 43 v1 rfl rfl) h1
 refine (walk W w0 m1 z1).mono fun e W' hh=>?_
 obtain ⟨he,hb⟩:=hh
 subst he
 exact ⟨_,rfl,law_post laid rowed full (by kernel_rfl) rfl (by kernel_rfl) Try.underlying4 hW' hA0 rfl hb⟩
theorem proved:Rows.PoolPlaysSaid:=
 OpenClaim.holds_of_wide 5 Try.f5 rfl rfl rfl rfl rfl rfl rfl ⟨rfl,rfl,rfl,rfl,rfl⟩ rfl rfl rfl rfl rfl (by kernel_rfl) Try.func5 (by kernel_rfl)
  (of_decide_eq_true (by kernel_rfl)) (by unfold Func.isWrapper;first | (rw [if_pos (by decide +kernel)];kernel_rfl) | (rw [if_neg (by decide +kernel)];exact ⟨rfl,rfl⟩))
  (fun os started H enc _=>lifted os started H enc)
#print axioms proved
end Go.Proofs.Ytbcbpicfnfkdeaa.PoolPlays
