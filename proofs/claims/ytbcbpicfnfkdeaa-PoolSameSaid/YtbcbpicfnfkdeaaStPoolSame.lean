/- PoolSame: the statement: for every input the law returns true, and each argument reads as it did. -/
import Derived.Test.YtbcbpicfnfkdeaaPkH
import Derived.Test.YtbcbpicfnfkdeaaSxSf
import Derived.Test.YtbcbpicfnfkdeaaPkZs
import Derived.Test.YtbcbpicfnfkdeaaRows
import Derived.SizedLaws
namespace Go.Proofs.Ytbcbpicfnfkdeaa.PoolSame
open Go Go.ChangeShapes Go.WideShapes Go.ChangeAt Go.RowKit Go.Joins Go.Sx
set_option linter.unusedVariables false
set_option linter.unusedSimpArgs false
open Go.Proofs.Ytbcbpicfnfkdeaa
theorem walk (W:World) {v0:Value} {y0:Int} (m0:flenC y0≤maxLen) (z0:∀ kv iv bv,Fz (sta Go.Sx.Pk.FI Go.Sx.Pk.FB kv iv bv) (fun b=>W.heap[b]?) 6 y0 v0) (s0:flenC y0≤3518437208780) {x1_0:Int} (w1_0:(Lit.int .i64 x1_0).wf=true) {x1_1:Int} (w1_1:(Lit.int .i64 x1_1).wf=true) {v1_2:Value} {y1_2:Int} (m1_2:flenC y1_2≤maxLen) (z1_2:∀ kv iv bv,Fz (sta Go.Sx.Pk.FI Go.Sx.Pk.FB kv iv bv) (fun b=>W.heap[b]?) 2 y1_2 v1_2):Calls Try.prog 6 #[v0,.agg #[.int .i64 x1_0,.int .i64 x1_1,v1_2]] W fun e W'=>e=.returned (.bool true)∧Below W.heap.size W W':=by
 unfold maxLen at m0
 have e0:∀ kv iv bv,(sta Go.Sx.Pk.FI Go.Sx.Pk.FB kv iv bv).fi 200 y0 0 0 0 0 0=flenC y0:=fun _ _ _=>by simp [sta,Go.Sx.Pk.FI,mkFI]
 have h1_0:=wf64 w1_0
 have h1_1:=wf64 w1_1
 unfold maxLen at m1_2
 have e1_2:∀ kv iv bv,(sta Go.Sx.Pk.FI Go.Sx.Pk.FB kv iv bv).fi 200 y1_2 0 0 0 0 0=flenC y1_2:=fun _ _ _=>by simp [sta,Go.Sx.Pk.FI,mkFI]
 have u0:∀ kv bv,(sta Go.Sx.Pk.FI Go.Sx.Pk.FB kv (fun i=>match i with | 0=>y0 | 1=>x1_0 | 2=>x1_1 | 3=>y1_2 | _=>0) bv).iv 0=y0:=fun _ _=>rfl
 have u1_2:∀ kv bv,(sta Go.Sx.Pk.FI Go.Sx.Pk.FB kv (fun i=>match i with | 0=>y0 | 1=>x1_0 | 2=>x1_1 | 3=>y1_2 | _=>0) bv).iv 3=y1_2:=fun _ _=>rfl
 refine (Go.Sx.Pk.pSame_ok ⟨fun _=>0,fun _=>ByteArray.empty⟩ (fun i=>match i with | 0=>y0 | 1=>x1_0 | 2=>x1_1 | 3=>y1_2 | _=>0) (fun _=>false) (fun i a b hm=>?_) (fun p hp=>?_) W (fun G hG=>?_) (fun b=>W.heap[b]?) (fun _ _ h=>h) [v0,.agg #[.int .i64 x1_0,.int .i64 x1_1,v1_2]] ?_).mono fun e w' h=>ret_true rfl h
 ·simp only [Go.Sx.Pk.pSame,Go.Sx.Pk.ints,Go.Sx.Pk.i64s,Go.Sx.Pk.i64b,Go.Sx.lmap_eq,Go.Sx.lapp_eq,List.map_cons,List.map_nil,List.cons_append,List.nil_append,Go.Sx.Pk.o1,Go.Sx.Pk.mxF,List.mem_cons,List.not_mem_nil,or_false,Prod.mk.injEq] at hm
  all_goals (first | exact hm.elim | (repeat' (rcases hm with ⟨rfl,rfl,rfl⟩ | hm))<;>(try obtain ⟨rfl,rfl,rfl⟩:=hm)<;>simp only [Int.ofNat_eq_natCast]<;>omega)
 ·simp only [Go.Sx.Pk.pSame,Go.Sx.Pk.ints,Go.Sx.Pk.i64s,Go.Sx.Pk.i64b,Go.Sx.lmap_eq,Go.Sx.lapp_eq,List.map_cons,List.map_nil,List.cons_append,List.nil_append,Go.Sx.Pk.o1,Go.Sx.Pk.mxF,List.mem_cons,List.not_mem_nil,or_false] at hp
  all_goals (first | exact hp.elim | (repeat' (rcases hp with rfl | hp))<;>(try subst hp)<;>simp [SB.den,SI.den,SI.fl,e0,u0,e1_2,u1_2]<;>omega)
 ·simp only [Go.Sx.Pk.pSame,Go.Sx.Pk.ints,Go.Sx.Pk.i64s,Go.Sx.Pk.i64b,Go.Sx.lmap_eq,Go.Sx.lapp_eq,List.map_cons,List.map_nil,List.cons_append,List.nil_append,Go.Sx.Pk.o1,Go.Sx.Pk.mxF,List.mem_cons,List.not_mem_nil,or_false] at hG
  all_goals (exact hG.elim)
 ·simp only [Go.Sx.Pk.pSame,Go.Sx.Pk.ints,Go.Sx.Pk.i64s,Go.Sx.Pk.i64b,Go.Sx.lmap_eq,Go.Sx.lapp_eq,List.map_cons,List.map_nil,List.cons_append,List.nil_append,Go.Sx.Pk.o1,Go.Sx.Pk.mxF,SV.isL_cons,SV.isL_nil,SV.Is,SR.den,SI.den,SB.den,SS.den,sta]
  exact ⟨_,_,rfl,⟨_,rfl,by refine Fz.fi (σ:=sta Go.Sx.Pk.FI Go.Sx.Pk.FB ⟨fun _=>0,fun _=>ByteArray.empty⟩ (fun _=>0) (fun _=>false)) ?_ ?_ (z0 _ _ _)<;>rfl⟩,⟨_,_,rfl,⟨[_,_,_],⟨_,_,rfl,⟨_,rfl,rfl⟩,⟨_,_,rfl,⟨_,rfl,rfl⟩,⟨_,_,rfl,⟨_,rfl,by refine Fz.fi (σ:=sta Go.Sx.Pk.FI Go.Sx.Pk.FB ⟨fun _=>0,fun _=>ByteArray.empty⟩ (fun _=>0) (fun _=>false)) ?_ ?_ (z1_2 _ _ _)<;>rfl⟩,rfl⟩⟩⟩,rfl⟩,rfl⟩⟩
set_option maxRecDepth 100000 in
theorem lifted (os:Os) (started:os.Started) (H:Type) (enc:TypeId×Value→H) :
  ReturnsInHanded {} Try.checked os 6 .any (Rows.poolSameSpec.pre6 enc Try.prog Try.f6 Rows.poolSameRow.domain false) (Rows.poolSameSpec.post enc Try.prog Try.f6 false true false false):=by
 refine returnsInHanded_of_change_sized (C:=Try.checked) own started (by kernel_rfl) Try.func6
  (ChangeSpec.witness6 (enc:=enc) (C:=Try.checked) false ⟨#[],#[.slice none 0 0,.agg #[.int .i64 0,.int .i64 0,.slice none 0 0]],[]⟩ 8 (by kernel_rfl) (by kernel_rfl) (by kernel_rfl) (by kernel_rfl)) ?_
 intro W base args ds gs before hval0 hW hcnd hz _
 have hval:∀ (j:Nat) t v,Try.f6.params[j]? = some t→args[j]? = some v→Value.okWide Try.prog W .any base t v:=hval0
 have hW':=hW
 obtain ⟨p,q,hA0,hV,rfl,hfz,hnd⟩:=hW
 have hA:DataW.TrodAll enc Try.prog W 0 (fun _=>true) true Try.f6.params.toList args.toList ds p:=hA0
 rw [Try.params6] at hA hval
 obtain ⟨v0,vs0,d0,ds0,p0,q0,hargs,rfl,rfl,h0,r0⟩:=trodAll_cons hA
 obtain ⟨v1,vs1,d1,ds1,p1,q1,rfl,rfl,rfl,h1,r1⟩:=trodAll_cons r0
 obtain ⟨rfl,rfl,rfl⟩:=trodAll_nil r1
 obtain rfl:args=#[v0,v1]:=by cases args;simp_all
 obtain ⟨rfl,rfl⟩:=trodVars_none hV
 rw [List.append_nil] at hW'
 obtain ⟨y0,m0,z0⟩:=open_fs kids (U:=Go.Sx.Pk.U) (V:=Go.Sx.Pk.V) (d:=6) (i:=6) Try.underlying43 (by decide +kernel) (by kernel_rfl) (hval 0 43 v0 rfl rfl) h0
 have s0:flenC y0≤3518437208780:=by
  rcases fs_len Try.underlying43 h0 (z0 ⟨fun _=>0,fun _=>ByteArray.empty⟩ (fun _=>0) (fun _=>false)) with e | ⟨elems,spare,e1,e2⟩
  ·omega
  ·subst e1
   have hb:=sized_slice (j:=0) (t:=43) hz (by kernel_rfl) (by rfl) Try.underlying43
   have hq:Try.prog.bytesOf 48=40:=by kernel_rfl
   have hr:reachBytes=140737488351232:=by decide
   have hb':(elems.length+spare.length) * Try.prog.bytesOf 48≤reachBytes:=hb
   rw [hq,hr] at hb'
   omega
 obtain ⟨cs1,rfl,hl1,hc1⟩:=open_aggF kids (U:=Go.Sx.Pk.U) (V:=Go.Sx.Pk.V) (d:=6) (lay:=[.nt .i64,.nt .i64,.fs 2]) Try.underlying48 (by decide +kernel) (by kernel_rfl) (hval 1 48 v1 rfl rfl) h1
 obtain ⟨y1_0,e1_0,w1_0⟩:=ko_nt (hc1 0 (.nt .i64) rfl)
 obtain ⟨y1_1,e1_1,w1_1⟩:=ko_nt (hc1 1 (.nt .i64) rfl)
 obtain ⟨v1_2,y1_2,e1_2,m1_2,z1_2⟩:=ko_fsO (hc1 2 (.fs 2) rfl)
 obtain rfl:cs1=[.int .i64 y1_0,.int .i64 y1_1,v1_2]:=list_of_get hl1 (fun f u hu=>by
  match f,hu with
  | 0,hu=>cases hu;exact e1_0
  | 1,hu=>cases hu;exact e1_1
  | 2,hu=>cases hu;exact e1_2
  | f+3,hu=>simp at hu)
 refine (walk W m0 z0 s0 w1_0 w1_1 m1_2 z1_2).mono fun e W' hh=>?_
 obtain ⟨he,hb⟩:=hh
 subst he
 exact ⟨_,rfl,law_post laid rowed full (by kernel_rfl) rfl (by kernel_rfl) Try.underlying4 hW' hA0 rfl hb⟩
theorem proved:Rows.PoolSameSaid:=
 OpenClaim.holds_of_wide 6 Try.f6 rfl rfl rfl rfl rfl rfl rfl ⟨rfl,rfl,rfl,rfl,rfl⟩ rfl rfl rfl rfl rfl (by kernel_rfl) Try.func6 (by kernel_rfl)
  (of_decide_eq_true (by kernel_rfl)) (by unfold Func.isWrapper;first | (rw [if_pos (by decide +kernel)];kernel_rfl) | (rw [if_neg (by decide +kernel)];exact ⟨rfl,rfl⟩))
  (fun os started H enc _=>lifted os started H enc)
#print axioms proved
end Go.Proofs.Ytbcbpicfnfkdeaa.PoolSame
