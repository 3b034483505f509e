/- TokenChanges: the statement: for every input the law returns true, and each argument reads as it did. -/
import Derived.Test.YtfailpbjhlhhiaaGreatTkH
import Derived.Test.YtfailpbjhlhhiaaGreatSxSf
import Derived.Test.YtfailpbjhlhhiaaGreatTkP
import Derived.Test.YtfailpbjhlhhiaaGreatRows
namespace Go.Proofs.YtfailpbjhlhhiaaGreat.TokenChanges
set_option maxRecDepth 100000
open Go Go.ChangeShapes Go.WideShapes Go.ChangeAt Go.RowKit Go.Joins Go.Sx
set_option linter.unusedVariables false
set_option linter.unusedSimpArgs false
open Go.Proofs.YtfailpbjhlhhiaaGreat
set_option maxHeartbeats 0 in
theorem walk (W:World) {x0_0:Int} (w0_0:(Lit.int .i64 x0_0).wf=true) {x0_1:Int} (w0_1:(Lit.int .i64 x0_1).wf=true) {x0_2:Int} (w0_2:(Lit.int .i64 x0_2).wf=true) {x1_0:Int} (w1_0:(Lit.int .i64 x1_0).wf=true) {v1_1:Value} {y1_1:Int} (m1_1:flenC y1_1≤maxLen) (z1_1:∀ kv iv bv,Fz (sta Go.Sx.Tk.FI Go.Sx.Tk.FB kv iv bv) (fun b=>W.heap[b]?) 1 y1_1 v1_1) {v1_2:Value} {y1_2:Int} (m1_2:flenC y1_2≤maxLen) (z1_2:∀ kv iv bv,Fz (sta Go.Sx.Tk.FI Go.Sx.Tk.FB kv iv bv) (fun b=>W.heap[b]?) 3 y1_2 v1_2) {v1_3:Value} {y1_3:Int} (m1_3:flenC y1_3≤maxLen) (z1_3:∀ kv iv bv,Fz (sta Go.Sx.Tk.FI Go.Sx.Tk.FB kv iv bv) (fun b=>W.heap[b]?) 4 y1_3 v1_3) {x1_4:Int} (w1_4:(Lit.int .i64 x1_4).wf=true) {x1_5:Int} (w1_5:(Lit.int .i64 x1_5).wf=true) {x1_6:Int} (w1_6:(Lit.int .u64 x1_6).wf=true) {x2_0:Int} (w2_0:(Lit.int .i64 x2_0).wf=true) {x2_1:Int} (w2_1:(Lit.int .i64 x2_1).wf=true):Calls Tryz.prog 4 #[.agg #[.int .i64 x0_0,.int .i64 x0_1,.int .i64 x0_2],.agg #[.int .i64 x1_0,v1_1,v1_2,v1_3,.int .i64 x1_4,.int .i64 x1_5,.int .u64 x1_6],.agg #[.int .i64 x2_0,.int .i64 x2_1]] W fun e W'=>e=.returned (.bool true)∧Below W.heap.size W W':=by
 have h0_0:=wf64 w0_0
 have h0_1:=wf64 w0_1
 have h0_2:=wf64 w0_2
 have h1_0:=wf64 w1_0
 unfold maxLen at m1_1
 have e1_1:∀ kv iv bv,(sta Go.Sx.Tk.FI Go.Sx.Tk.FB kv iv bv).fi 200 y1_1 0 0 0 0 0=flenC y1_1:=fun _ _ _=>by simp [sta,Go.Sx.Tk.FI,mkFI]
 unfold maxLen at m1_2
 have e1_2:∀ kv iv bv,(sta Go.Sx.Tk.FI Go.Sx.Tk.FB kv iv bv).fi 200 y1_2 0 0 0 0 0=flenC y1_2:=fun _ _ _=>by simp [sta,Go.Sx.Tk.FI,mkFI]
 unfold maxLen at m1_3
 have e1_3:∀ kv iv bv,(sta Go.Sx.Tk.FI Go.Sx.Tk.FB kv iv bv).fi 200 y1_3 0 0 0 0 0=flenC y1_3:=fun _ _ _=>by simp [sta,Go.Sx.Tk.FI,mkFI]
 have h1_4:=wf64 w1_4
 have h1_5:=wf64 w1_5
 have h1_6:=wfu64 w1_6
 have h2_0:=wf64 w2_0
 have h2_1:=wf64 w2_1
 have u1_1:∀ kv bv,(sta Go.Sx.Tk.FI Go.Sx.Tk.FB kv (fun i=>match i with | 0=>x1_0 | 1=>y1_1 | 2=>y1_2 | 3=>y1_3 | 4=>x1_4 | 5=>x1_5 | 6=>x1_6 | 7=>x0_0 | 8=>x0_1 | 9=>x0_2 | 10=>x2_0 | 11=>x2_1 | _=>0) bv).iv 1=y1_1:=fun _ _=>rfl
 have u1_2:∀ kv bv,(sta Go.Sx.Tk.FI Go.Sx.Tk.FB kv (fun i=>match i with | 0=>x1_0 | 1=>y1_1 | 2=>y1_2 | 3=>y1_3 | 4=>x1_4 | 5=>x1_5 | 6=>x1_6 | 7=>x0_0 | 8=>x0_1 | 9=>x0_2 | 10=>x2_0 | 11=>x2_1 | _=>0) bv).iv 2=y1_2:=fun _ _=>rfl
 have u1_3:∀ kv bv,(sta Go.Sx.Tk.FI Go.Sx.Tk.FB kv (fun i=>match i with | 0=>x1_0 | 1=>y1_1 | 2=>y1_2 | 3=>y1_3 | 4=>x1_4 | 5=>x1_5 | 6=>x1_6 | 7=>x0_0 | 8=>x0_1 | 9=>x0_2 | 10=>x2_0 | 11=>x2_1 | _=>0) bv).iv 3=y1_3:=fun _ _=>rfl
 refine (Go.Sx.Tk.cChanges_ok ⟨fun _=>0,fun _=>ByteArray.empty⟩ (fun i=>match i with | 0=>x1_0 | 1=>y1_1 | 2=>y1_2 | 3=>y1_3 | 4=>x1_4 | 5=>x1_5 | 6=>x1_6 | 7=>x0_0 | 8=>x0_1 | 9=>x0_2 | 10=>x2_0 | 11=>x2_1 | _=>0) (fun _=>false) (fun i a b hm=>?_) (fun p hp=>?_) W (fun G hG=>?_) (fun b=>W.heap[b]?) (fun _ _ h=>h) [.agg #[.int .i64 x0_0,.int .i64 x0_1,.int .i64 x0_2],.agg #[.int .i64 x1_0,v1_1,v1_2,v1_3,.int .i64 x1_4,.int .i64 x1_5,.int .u64 x1_6],.agg #[.int .i64 x2_0,.int .i64 x2_1]] ?_).mono fun e w' h=>ret_true rfl h
 ·simp only [Go.Sx.Tk.cChanges,Go.Sx.Tk.i64s,Go.Sx.Tk.i64b,Go.Sx.Tk.u64b,Go.Sx.Tk.flF,Go.Sx.lmap_eq,Go.Sx.lapp_eq,List.map_cons,List.map_nil,List.cons_append,List.nil_append,Go.Sx.Tk.o1,List.mem_cons,List.not_mem_nil,or_false,Prod.mk.injEq] at hm
  all_goals (first | exact hm.elim | (repeat' (rcases hm with ⟨rfl,rfl,rfl⟩ | hm))<;>(try obtain ⟨rfl,rfl,rfl⟩:=hm)<;>simp only [Int.ofNat_eq_natCast]<;>omega)
 ·simp only [Go.Sx.Tk.cChanges,Go.Sx.Tk.i64s,Go.Sx.Tk.i64b,Go.Sx.Tk.u64b,Go.Sx.Tk.flF,Go.Sx.lmap_eq,Go.Sx.lapp_eq,List.map_cons,List.map_nil,List.cons_append,List.nil_append,Go.Sx.Tk.o1,List.mem_cons,List.not_mem_nil,or_false] at hp
  all_goals (first | exact hp.elim | (repeat' (rcases hp with rfl | hp))<;>(try subst hp)<;>simp [SB.den,SI.den,SI.fl,e1_1,u1_1,e1_2,u1_2,e1_3,u1_3]<;>omega)
 ·simp only [Go.Sx.Tk.cChanges,Go.Sx.Tk.i64s,Go.Sx.Tk.i64b,Go.Sx.Tk.u64b,Go.Sx.Tk.flF,Go.Sx.lmap_eq,Go.Sx.lapp_eq,List.map_cons,List.map_nil,List.cons_append,List.nil_append,Go.Sx.Tk.o1,List.mem_cons,List.not_mem_nil,or_false] at hG
  all_goals (exact hG.elim)
 ·simp only [Go.Sx.Tk.cChanges,Go.Sx.Tk.i64s,Go.Sx.Tk.i64b,Go.Sx.Tk.u64b,Go.Sx.Tk.flF,Go.Sx.lmap_eq,Go.Sx.lapp_eq,List.map_cons,List.map_nil,List.cons_append,List.nil_append,Go.Sx.Tk.o1,SV.isL_cons,SV.isL_nil,SV.Is,SR.den,SI.den,SB.den,SS.den,sta]
  exact ⟨_,_,rfl,⟨[_,_,_],⟨_,_,rfl,⟨_,rfl,rfl⟩,⟨_,_,rfl,⟨_,rfl,rfl⟩,⟨_,_,rfl,⟨_,rfl,rfl⟩,rfl⟩⟩⟩,rfl⟩,⟨_,_,rfl,⟨[_,_,_,_,_,_,_],⟨_,_,rfl,⟨_,rfl,rfl⟩,⟨_,_,rfl,⟨_,rfl,by refine Fz.fi (σ:=sta Go.Sx.Tk.FI Go.Sx.Tk.FB ⟨fun _=>0,fun _=>ByteArray.empty⟩ (fun _=>0) (fun _=>false)) ?_ ?_ (z1_1 _ _ _)<;>rfl⟩,⟨_,_,rfl,⟨_,rfl,by refine Fz.fi (σ:=sta Go.Sx.Tk.FI Go.Sx.Tk.FB ⟨fun _=>0,fun _=>ByteArray.empty⟩ (fun _=>0) (fun _=>false)) ?_ ?_ (z1_2 _ _ _)<;>rfl⟩,⟨_,_,rfl,⟨_,rfl,by refine Fz.fi (σ:=sta Go.Sx.Tk.FI Go.Sx.Tk.FB ⟨fun _=>0,fun _=>ByteArray.empty⟩ (fun _=>0) (fun _=>false)) ?_ ?_ (z1_3 _ _ _)<;>rfl⟩,⟨_,_,rfl,⟨_,rfl,rfl⟩,⟨_,_,rfl,⟨_,rfl,rfl⟩,⟨_,_,rfl,⟨_,rfl,rfl⟩,rfl⟩⟩⟩⟩⟩⟩⟩,rfl⟩,⟨_,_,rfl,⟨[_,_],⟨_,_,rfl,⟨_,rfl,rfl⟩,⟨_,_,rfl,⟨_,rfl,rfl⟩,rfl⟩⟩,rfl⟩,rfl⟩⟩⟩
theorem lifted (os:Os) (started:os.Started) (H:Type) (enc:TypeId×Value→H) :
  ReturnsInHanded {} Tryz.checked os 4 .any (Rows.tokenChangesSpec.pre6 enc Tryz.prog Tryz.f4 Rows.tokenChangesRow.domain false) (Rows.tokenChangesSpec.post enc Tryz.prog Tryz.f4 false true false false):=by
 refine returnsInHanded_of_change (C:=Tryz.checked) own started (by kernel_rfl) Tryz.func4
  (ChangeSpec.witness6 (enc:=enc) (C:=Tryz.checked) false ⟨#[],#[.agg #[.int .i64 0,.int .i64 0,.int .i64 0],.agg #[.int .i64 0,.slice none 0 0,.slice none 0 0,.slice none 0 0,.int .i64 0,.int .i64 0,.int .u64 0],.agg #[.int .i64 0,.int .i64 0]],[]⟩ 8 (by kernel_rfl) (by kernel_rfl) (by kernel_rfl) (by kernel_rfl)) ?_
 intro W base args ds gs before hval0 hW hcnd _
 have hval:∀ (j:Nat) t v,Tryz.f4.params[j]? = some t→args[j]? = some v→Value.okWide Tryz.prog W .any base t v:=hval0
 have hW':=hW
 obtain ⟨p,q,hA0,hV,rfl,hfz,hnd⟩:=hW
 have hA:DataW.TrodAll enc Tryz.prog W 0 (fun _=>true) true Tryz.f4.params.toList args.toList ds p:=hA0
 rw [Tryz.params4] at hA hval
 obtain ⟨v0,vs0,d0,ds0,p0,q0,hargs,rfl,rfl,h0,r0⟩:=trodAll_cons hA
 obtain ⟨v1,vs1,d1,ds1,p1,q1,rfl,rfl,rfl,h1,r1⟩:=trodAll_cons r0
 obtain ⟨v2,vs2,d2,ds2,p2,q2,rfl,rfl,rfl,h2,r2⟩:=trodAll_cons r1
 obtain ⟨rfl,rfl,rfl⟩:=trodAll_nil r2
 obtain rfl:args=#[v0,v1,v2]:=by cases args;simp_all
 obtain ⟨rfl,rfl⟩:=trodVars_none hV
 rw [List.append_nil] at hW'
 obtain ⟨cs0,rfl,hl0,hc0⟩:=open_aggF kids (U:=Go.Sx.Tk.U) (V:=Go.Sx.Tk.V) (d:=6) (lay:=[.nt .i64,.nt .i64,.nt .i64]) Tryz.underlying23 (by decide +kernel) (by kernel_rfl) (hval 0 23 v0 rfl rfl) h0
 obtain ⟨y0_0,e0_0,w0_0⟩:=ko_nt (hc0 0 (.nt .i64) rfl)
 obtain ⟨y0_1,e0_1,w0_1⟩:=ko_nt (hc0 1 (.nt .i64) rfl)
 obtain ⟨y0_2,e0_2,w0_2⟩:=ko_nt (hc0 2 (.nt .i64) rfl)
 obtain rfl:cs0=[.int .i64 y0_0,.int .i64 y0_1,.int .i64 y0_2]:=list_of_get hl0 (fun f u hu=>by
  match f,hu with
  | 0,hu=>cases hu;exact e0_0
  | 1,hu=>cases hu;exact e0_1
  | 2,hu=>cases hu;exact e0_2
  | f+3,hu=>simp at hu)
 obtain ⟨cs1,rfl,hl1,hc1⟩:=open_aggF kids (U:=Go.Sx.Tk.U) (V:=Go.Sx.Tk.V) (d:=6) (lay:=[.nt .i64,.fs 1,.fs 3,.fs 4,.nt .i64,.nt .i64,.nt .u64]) Tryz.underlying31 (by decide +kernel) (by kernel_rfl) (hval 1 31 v1 rfl rfl) h1
 obtain ⟨y1_0,e1_0,w1_0⟩:=ko_nt (hc1 0 (.nt .i64) rfl)
 obtain ⟨v1_1,y1_1,e1_1,m1_1,z1_1⟩:=ko_fsO (hc1 1 (.fs 1) rfl)
 obtain ⟨v1_2,y1_2,e1_2,m1_2,z1_2⟩:=ko_fsO (hc1 2 (.fs 3) rfl)
 obtain ⟨v1_3,y1_3,e1_3,m1_3,z1_3⟩:=ko_fsO (hc1 3 (.fs 4) rfl)
 obtain ⟨y1_4,e1_4,w1_4⟩:=ko_nt (hc1 4 (.nt .i64) rfl)
 obtain ⟨y1_5,e1_5,w1_5⟩:=ko_nt (hc1 5 (.nt .i64) rfl)
 obtain ⟨y1_6,e1_6,w1_6⟩:=ko_nt (hc1 6 (.nt .u64) rfl)
 obtain rfl:cs1=[.int .i64 y1_0,v1_1,v1_2,v1_3,.int .i64 y1_4,.int .i64 y1_5,.int .u64 y1_6]:=list_of_get hl1 (fun f u hu=>by
  match f,hu with
  | 0,hu=>cases hu;exact e1_0
  | 1,hu=>cases hu;exact e1_1
  | 2,hu=>cases hu;exact e1_2
  | 3,hu=>cases hu;exact e1_3
  | 4,hu=>cases hu;exact e1_4
  | 5,hu=>cases hu;exact e1_5
  | 6,hu=>cases hu;exact e1_6
  | f+7,hu=>simp at hu)
 obtain ⟨cs2,rfl,hl2,hc2⟩:=open_aggF kids (U:=Go.Sx.Tk.U) (V:=Go.Sx.Tk.V) (d:=6) (lay:=[.nt .i64,.nt .i64]) Tryz.underlying45 (by decide +kernel) (by kernel_rfl) (hval 2 45 v2 rfl rfl) h2
 obtain ⟨y2_0,e2_0,w2_0⟩:=ko_nt (hc2 0 (.nt .i64) rfl)
 obtain ⟨y2_1,e2_1,w2_1⟩:=ko_nt (hc2 1 (.nt .i64) rfl)
 obtain rfl:cs2=[.int .i64 y2_0,.int .i64 y2_1]:=list_of_get hl2 (fun f u hu=>by
  match f,hu with
  | 0,hu=>cases hu;exact e2_0
  | 1,hu=>cases hu;exact e2_1
  | f+2,hu=>simp at hu)
 refine (walk W w0_0 w0_1 w0_2 w1_0 m1_1 z1_1 m1_2 z1_2 m1_3 z1_3 w1_4 w1_5 w1_6 w2_0 w2_1).mono fun e W' hh=>?_
 obtain ⟨he,hb⟩:=hh
 subst he
 exact ⟨_,rfl,law_post laid rowed full (by kernel_rfl) rfl (by kernel_rfl) Tryz.underlying4 hW' hA0 rfl hb⟩
theorem proved:Rows.TokenChangesSaid:=
 OpenClaim.holds_of_wide 4 Tryz.f4 rfl rfl rfl rfl rfl rfl rfl ⟨rfl,rfl,rfl,rfl,rfl⟩ rfl rfl rfl rfl rfl (by kernel_rfl) Tryz.func4 (by kernel_rfl)
  (of_decide_eq_true (by kernel_rfl)) (by unfold Func.isWrapper;first | (rw [if_pos (by decide +kernel)];kernel_rfl) | (rw [if_neg (by decide +kernel)];exact ⟨rfl,rfl⟩))
  (fun os started H enc _=>lifted os started H enc)
#print axioms proved
end Go.Proofs.YtfailpbjhlhhiaaGreat.TokenChanges
