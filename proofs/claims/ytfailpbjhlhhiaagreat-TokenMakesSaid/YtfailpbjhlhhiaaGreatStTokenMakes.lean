/- TokenMakes: the statement: for every input the law returns true, and each argument reads as it did. -/
import Derived.Test.YtfailpbjhlhhiaaGreatTkH
import Derived.Test.YtfailpbjhlhhiaaGreatSxSf
import Derived.Test.YtfailpbjhlhhiaaGreatTkM
import Derived.Test.YtfailpbjhlhhiaaGreatRows
namespace Go.Proofs.YtfailpbjhlhhiaaGreat.TokenMakes
set_option maxRecDepth 100000
open Go Go.ChangeShapes Go.WideShapes Go.ChangeAt Go.RowKit Go.Joins Go.Sx
set_option linter.unusedVariables false
set_option linter.unusedSimpArgs false
open Go.Proofs.YtfailpbjhlhhiaaGreat
set_option maxHeartbeats 0 in
theorem walk (W:World) {x0_0:Int} (w0_0:(Lit.int .i64 x0_0).wf=true) {x0_1:Int} (w0_1:(Lit.int .i64 x0_1).wf=true) {x0_2:Int} (w0_2:(Lit.int .i64 x0_2).wf=true) {x1_0:Int} (w1_0:(Lit.int .i64 x1_0).wf=true) {x1_1:Int} (w1_1:(Lit.int .i64 x1_1).wf=true) {x1_2:Int} (w1_2:(Lit.int .u64 x1_2).wf=true) {x2_0:Int} (w2_0:(Lit.int .i64 x2_0).wf=true) {v2_1:Value} {y2_1:Int} (m2_1:flenC y2_1≤maxLen) (z2_1:∀ kv iv bv,Fz (sta Go.Sx.Tk.FI Go.Sx.Tk.FB kv iv bv) (fun b=>W.heap[b]?) 1 y2_1 v2_1) {v2_2:Value} {y2_2:Int} (m2_2:flenC y2_2≤maxLen) (z2_2:∀ kv iv bv,Fz (sta Go.Sx.Tk.FI Go.Sx.Tk.FB kv iv bv) (fun b=>W.heap[b]?) 3 y2_2 v2_2) {v2_3:Value} {y2_3:Int} (m2_3:flenC y2_3≤maxLen) (z2_3:∀ kv iv bv,Fz (sta Go.Sx.Tk.FI Go.Sx.Tk.FB kv iv bv) (fun b=>W.heap[b]?) 4 y2_3 v2_3) {x2_4:Int} (w2_4:(Lit.int .i64 x2_4).wf=true) {x2_5:Int} (w2_5:(Lit.int .i64 x2_5).wf=true) {x2_6:Int} (w2_6:(Lit.int .u64 x2_6).wf=true) {x2_7:Int} (w2_7:(Lit.int .i64 x2_7).wf=true) {v2_8:Value} {y2_8:Int} (m2_8:flenC y2_8≤maxLen) (z2_8:∀ kv iv bv,Fz (sta Go.Sx.Tk.FI Go.Sx.Tk.FB kv iv bv) (fun b=>W.heap[b]?) 1 y2_8 v2_8) {v2_9:Value} {y2_9:Int} (m2_9:flenC y2_9≤maxLen) (z2_9:∀ kv iv bv,Fz (sta Go.Sx.Tk.FI Go.Sx.Tk.FB kv iv bv) (fun b=>W.heap[b]?) 3 y2_9 v2_9) {v2_10:Value} {y2_10:Int} (m2_10:flenC y2_10≤maxLen) (z2_10:∀ kv iv bv,Fz (sta Go.Sx.Tk.FI Go.Sx.Tk.FB kv iv bv) (fun b=>W.heap[b]?) 4 y2_10 v2_10) {x2_11:Int} (w2_11:(Lit.int .i64 x2_11).wf=true) {x2_12:Int} (w2_12:(Lit.int .i64 x2_12).wf=true) {x2_13:Int} (w2_13:(Lit.int .u64 x2_13).wf=true):Calls Tryz.prog 5 #[.agg #[.int .i64 x0_0,.int .i64 x0_1,.int .i64 x0_2],.agg #[.int .i64 x1_0,.int .i64 x1_1,.int .u64 x1_2],.agg #[.int .i64 x2_0,v2_1,v2_2,v2_3,.int .i64 x2_4,.int .i64 x2_5,.int .u64 x2_6,.int .i64 x2_7,v2_8,v2_9,v2_10,.int .i64 x2_11,.int .i64 x2_12,.int .u64 x2_13]] W fun e W'=>e=.returned (.bool true)∧Below W.heap.size W W':=by
 have h0_0:=wf64 w0_0
 have h0_1:=wf64 w0_1
 have h0_2:=wf64 w0_2
 have h1_0:=wf64 w1_0
 have h1_1:=wf64 w1_1
 have h1_2:=wfu64 w1_2
 have h2_0:=wf64 w2_0
 unfold maxLen at m2_1
 have e2_1:∀ kv iv bv,(sta Go.Sx.Tk.FI Go.Sx.Tk.FB kv iv bv).fi 200 y2_1 0 0 0 0 0=flenC y2_1:=fun _ _ _=>by simp [sta,Go.Sx.Tk.FI,mkFI]
 unfold maxLen at m2_2
 have e2_2:∀ kv iv bv,(sta Go.Sx.Tk.FI Go.Sx.Tk.FB kv iv bv).fi 200 y2_2 0 0 0 0 0=flenC y2_2:=fun _ _ _=>by simp [sta,Go.Sx.Tk.FI,mkFI]
 unfold maxLen at m2_3
 have e2_3:∀ kv iv bv,(sta Go.Sx.Tk.FI Go.Sx.Tk.FB kv iv bv).fi 200 y2_3 0 0 0 0 0=flenC y2_3:=fun _ _ _=>by simp [sta,Go.Sx.Tk.FI,mkFI]
 have h2_4:=wf64 w2_4
 have h2_5:=wf64 w2_5
 have h2_6:=wfu64 w2_6
 have h2_7:=wf64 w2_7
 unfold maxLen at m2_8
 have e2_8:∀ kv iv bv,(sta Go.Sx.Tk.FI Go.Sx.Tk.FB kv iv bv).fi 200 y2_8 0 0 0 0 0=flenC y2_8:=fun _ _ _=>by simp [sta,Go.Sx.Tk.FI,mkFI]
 unfold maxLen at m2_9
 have e2_9:∀ kv iv bv,(sta Go.Sx.Tk.FI Go.Sx.Tk.FB kv iv bv).fi 200 y2_9 0 0 0 0 0=flenC y2_9:=fun _ _ _=>by simp [sta,Go.Sx.Tk.FI,mkFI]
 unfold maxLen at m2_10
 have e2_10:∀ kv iv bv,(sta Go.Sx.Tk.FI Go.Sx.Tk.FB kv iv bv).fi 200 y2_10 0 0 0 0 0=flenC y2_10:=fun _ _ _=>by simp [sta,Go.Sx.Tk.FI,mkFI]
 have h2_11:=wf64 w2_11
 have h2_12:=wf64 w2_12
 have h2_13:=wfu64 w2_13
 have u2_1:∀ kv bv,(sta Go.Sx.Tk.FI Go.Sx.Tk.FB kv (fun i=>match i with | 0=>x0_0 | 1=>x0_1 | 2=>x0_2 | 3=>x1_0 | 4=>x1_1 | 5=>x1_2 | 6=>x2_0 | 7=>y2_1 | 8=>y2_2 | 9=>y2_3 | 10=>x2_4 | 11=>x2_5 | 12=>x2_6 | 13=>x2_7 | 14=>y2_8 | 15=>y2_9 | 16=>y2_10 | 17=>x2_11 | 18=>x2_12 | 19=>x2_13 | _=>0) bv).iv 7=y2_1:=fun _ _=>rfl
 have u2_2:∀ kv bv,(sta Go.Sx.Tk.FI Go.Sx.Tk.FB kv (fun i=>match i with | 0=>x0_0 | 1=>x0_1 | 2=>x0_2 | 3=>x1_0 | 4=>x1_1 | 5=>x1_2 | 6=>x2_0 | 7=>y2_1 | 8=>y2_2 | 9=>y2_3 | 10=>x2_4 | 11=>x2_5 | 12=>x2_6 | 13=>x2_7 | 14=>y2_8 | 15=>y2_9 | 16=>y2_10 | 17=>x2_11 | 18=>x2_12 | 19=>x2_13 | _=>0) bv).iv 8=y2_2:=fun _ _=>rfl
 have u2_3:∀ kv bv,(sta Go.Sx.Tk.FI Go.Sx.Tk.FB kv (fun i=>match i with | 0=>x0_0 | 1=>x0_1 | 2=>x0_2 | 3=>x1_0 | 4=>x1_1 | 5=>x1_2 | 6=>x2_0 | 7=>y2_1 | 8=>y2_2 | 9=>y2_3 | 10=>x2_4 | 11=>x2_5 | 12=>x2_6 | 13=>x2_7 | 14=>y2_8 | 15=>y2_9 | 16=>y2_10 | 17=>x2_11 | 18=>x2_12 | 19=>x2_13 | _=>0) bv).iv 9=y2_3:=fun _ _=>rfl
 have u2_8:∀ kv bv,(sta Go.Sx.Tk.FI Go.Sx.Tk.FB kv (fun i=>match i with | 0=>x0_0 | 1=>x0_1 | 2=>x0_2 | 3=>x1_0 | 4=>x1_1 | 5=>x1_2 | 6=>x2_0 | 7=>y2_1 | 8=>y2_2 | 9=>y2_3 | 10=>x2_4 | 11=>x2_5 | 12=>x2_6 | 13=>x2_7 | 14=>y2_8 | 15=>y2_9 | 16=>y2_10 | 17=>x2_11 | 18=>x2_12 | 19=>x2_13 | _=>0) bv).iv 14=y2_8:=fun _ _=>rfl
 have u2_9:∀ kv bv,(sta Go.Sx.Tk.FI Go.Sx.Tk.FB kv (fun i=>match i with | 0=>x0_0 | 1=>x0_1 | 2=>x0_2 | 3=>x1_0 | 4=>x1_1 | 5=>x1_2 | 6=>x2_0 | 7=>y2_1 | 8=>y2_2 | 9=>y2_3 | 10=>x2_4 | 11=>x2_5 | 12=>x2_6 | 13=>x2_7 | 14=>y2_8 | 15=>y2_9 | 16=>y2_10 | 17=>x2_11 | 18=>x2_12 | 19=>x2_13 | _=>0) bv).iv 15=y2_9:=fun _ _=>rfl
 have u2_10:∀ kv bv,(sta Go.Sx.Tk.FI Go.Sx.Tk.FB kv (fun i=>match i with | 0=>x0_0 | 1=>x0_1 | 2=>x0_2 | 3=>x1_0 | 4=>x1_1 | 5=>x1_2 | 6=>x2_0 | 7=>y2_1 | 8=>y2_2 | 9=>y2_3 | 10=>x2_4 | 11=>x2_5 | 12=>x2_6 | 13=>x2_7 | 14=>y2_8 | 15=>y2_9 | 16=>y2_10 | 17=>x2_11 | 18=>x2_12 | 19=>x2_13 | _=>0) bv).iv 16=y2_10:=fun _ _=>rfl
 refine (Go.Sx.Tk.cMakes_ok ⟨fun _=>0,fun _=>ByteArray.empty⟩ (fun i=>match i with | 0=>x0_0 | 1=>x0_1 | 2=>x0_2 | 3=>x1_0 | 4=>x1_1 | 5=>x1_2 | 6=>x2_0 | 7=>y2_1 | 8=>y2_2 | 9=>y2_3 | 10=>x2_4 | 11=>x2_5 | 12=>x2_6 | 13=>x2_7 | 14=>y2_8 | 15=>y2_9 | 16=>y2_10 | 17=>x2_11 | 18=>x2_12 | 19=>x2_13 | _=>0) (fun _=>false) (fun i a b hm=>?_) (fun p hp=>?_) W (fun G hG=>?_) (fun b=>W.heap[b]?) (fun _ _ h=>h) [.agg #[.int .i64 x0_0,.int .i64 x0_1,.int .i64 x0_2],.agg #[.int .i64 x1_0,.int .i64 x1_1,.int .u64 x1_2],.agg #[.int .i64 x2_0,v2_1,v2_2,v2_3,.int .i64 x2_4,.int .i64 x2_5,.int .u64 x2_6,.int .i64 x2_7,v2_8,v2_9,v2_10,.int .i64 x2_11,.int .i64 x2_12,.int .u64 x2_13]] ?_).mono fun e w' h=>ret_true rfl h
 ·simp only [Go.Sx.Tk.cMakes,Go.Sx.Tk.i64s,Go.Sx.Tk.i64b,Go.Sx.Tk.u64b,Go.Sx.Tk.flF,Go.Sx.lmap_eq,Go.Sx.lapp_eq,List.map_cons,List.map_nil,List.cons_append,List.nil_append,Go.Sx.Tk.o1,List.mem_cons,List.not_mem_nil,or_false,Prod.mk.injEq] at hm
  all_goals (first | exact hm.elim | (repeat' (rcases hm with ⟨rfl,rfl,rfl⟩ | hm))<;>(try obtain ⟨rfl,rfl,rfl⟩:=hm)<;>simp only [Int.ofNat_eq_natCast]<;>omega)
 ·simp only [Go.Sx.Tk.cMakes,Go.Sx.Tk.i64s,Go.Sx.Tk.i64b,Go.Sx.Tk.u64b,Go.Sx.Tk.flF,Go.Sx.lmap_eq,Go.Sx.lapp_eq,List.map_cons,List.map_nil,List.cons_append,List.nil_append,Go.Sx.Tk.o1,List.mem_cons,List.not_mem_nil,or_false] at hp
  all_goals (first | exact hp.elim | (repeat' (rcases hp with rfl | hp))<;>(try subst hp)<;>simp [SB.den,SI.den,SI.fl,e2_1,u2_1,e2_2,u2_2,e2_3,u2_3,e2_8,u2_8,e2_9,u2_9,e2_10,u2_10]<;>omega)
 ·simp only [Go.Sx.Tk.cMakes,Go.Sx.Tk.i64s,Go.Sx.Tk.i64b,Go.Sx.Tk.u64b,Go.Sx.Tk.flF,Go.Sx.lmap_eq,Go.Sx.lapp_eq,List.map_cons,List.map_nil,List.cons_append,List.nil_append,Go.Sx.Tk.o1,List.mem_cons,List.not_mem_nil,or_false] at hG
  all_goals (exact hG.elim)
 ·simp only [Go.Sx.Tk.cMakes,Go.Sx.Tk.i64s,Go.Sx.Tk.i64b,Go.Sx.Tk.u64b,Go.Sx.Tk.flF,Go.Sx.lmap_eq,Go.Sx.lapp_eq,List.map_cons,List.map_nil,List.cons_append,List.nil_append,Go.Sx.Tk.o1,SV.isL_cons,SV.isL_nil,SV.Is,SR.den,SI.den,SB.den,SS.den,sta]
  exact ⟨_,_,rfl,⟨[_,_,_],⟨_,_,rfl,⟨_,rfl,rfl⟩,⟨_,_,rfl,⟨_,rfl,rfl⟩,⟨_,_,rfl,⟨_,rfl,rfl⟩,rfl⟩⟩⟩,rfl⟩,⟨_,_,rfl,⟨[_,_,_],⟨_,_,rfl,⟨_,rfl,rfl⟩,⟨_,_,rfl,⟨_,rfl,rfl⟩,⟨_,_,rfl,⟨_,rfl,rfl⟩,rfl⟩⟩⟩,rfl⟩,⟨_,_,rfl,⟨[_,_,_,_,_,_,_,_,_,_,_,_,_,_],⟨_,_,rfl,⟨_,rfl,rfl⟩,⟨_,_,rfl,⟨_,rfl,by refine Fz.fi (σ:=sta Go.Sx.Tk.FI Go.Sx.Tk.FB ⟨fun _=>0,fun _=>ByteArray.empty⟩ (fun _=>0) (fun _=>false)) ?_ ?_ (z2_1 _ _ _)<;>rfl⟩,⟨_,_,rfl,⟨_,rfl,by refine Fz.fi (σ:=sta Go.Sx.Tk.FI Go.Sx.Tk.FB ⟨fun _=>0,fun _=>ByteArray.empty⟩ (fun _=>0) (fun _=>false)) ?_ ?_ (z2_2 _ _ _)<;>rfl⟩,⟨_,_,rfl,⟨_,rfl,by refine Fz.fi (σ:=sta Go.Sx.Tk.FI Go.Sx.Tk.FB ⟨fun _=>0,fun _=>ByteArray.empty⟩ (fun _=>0) (fun _=>false)) ?_ ?_ (z2_3 _ _ _)<;>rfl⟩,⟨_,_,rfl,⟨_,rfl,rfl⟩,⟨_,_,rfl,⟨_,rfl,rfl⟩,⟨_,_,rfl,⟨_,rfl,rfl⟩,⟨_,_,rfl,⟨_,rfl,rfl⟩,⟨_,_,rfl,⟨_,rfl,by refine Fz.fi (σ:=sta Go.Sx.Tk.FI Go.Sx.Tk.FB ⟨fun _=>0,fun _=>ByteArray.empty⟩ (fun _=>0) (fun _=>false)) ?_ ?_ (z2_8 _ _ _)<;>rfl⟩,⟨_,_,rfl,⟨_,rfl,by refine Fz.fi (σ:=sta Go.Sx.Tk.FI Go.Sx.Tk.FB ⟨fun _=>0,fun _=>ByteArray.empty⟩ (fun _=>0) (fun _=>false)) ?_ ?_ (z2_9 _ _ _)<;>rfl⟩,⟨_,_,rfl,⟨_,rfl,by refine Fz.fi (σ:=sta Go.Sx.Tk.FI Go.Sx.Tk.FB ⟨fun _=>0,fun _=>ByteArray.empty⟩ (fun _=>0) (fun _=>false)) ?_ ?_ (z2_10 _ _ _)<;>rfl⟩,⟨_,_,rfl,⟨_,rfl,rfl⟩,⟨_,_,rfl,⟨_,rfl,rfl⟩,⟨_,_,rfl,⟨_,rfl,rfl⟩,rfl⟩⟩⟩⟩⟩⟩⟩⟩⟩⟩⟩⟩⟩⟩,rfl⟩,rfl⟩⟩⟩
theorem lifted (os:Os) (started:os.Started) (H:Type) (enc:TypeId×Value→H) :
  ReturnsInHanded {} Tryz.checked os 5 .any (Rows.tokenMakesSpec.pre6 enc Tryz.prog Tryz.f5 Rows.tokenMakesRow.domain false) (Rows.tokenMakesSpec.post enc Tryz.prog Tryz.f5 false true false false):=by
 refine returnsInHanded_of_change (C:=Tryz.checked) own started (by kernel_rfl) Tryz.func5
  (ChangeSpec.witness6 (enc:=enc) (C:=Tryz.checked) false ⟨#[],#[.agg #[.int .i64 0,.int .i64 0,.int .i64 0],.agg #[.int .i64 0,.int .i64 0,.int .u64 0],.agg #[.int .i64 0,.slice none 0 0,.slice none 0 0,.slice none 0 0,.int .i64 0,.int .i64 0,.int .u64 0,.int .i64 0,.slice none 0 0,.slice none 0 0,.slice none 0 0,.int .i64 0,.int .i64 0,.int .u64 0]],[]⟩ 8 (by kernel_rfl) (by kernel_rfl) (by kernel_rfl) (by kernel_rfl)) ?_
 intro W base args ds gs before hval0 hW hcnd _
 have hval:∀ (j:Nat) t v,Tryz.f5.params[j]? = some t→args[j]? = some v→Value.okWide Tryz.prog W .any base t v:=hval0
 have hW':=hW
 obtain ⟨p,q,hA0,hV,rfl,hfz,hnd⟩:=hW
 have hA:DataW.TrodAll enc Tryz.prog W 0 (fun _=>true) true Tryz.f5.params.toList args.toList ds p:=hA0
 rw [Tryz.params5] at hA hval
 obtain ⟨v0,vs0,d0,ds0,p0,q0,hargs,rfl,rfl,h0,r0⟩:=trodAll_cons hA
 obtain ⟨v1,vs1,d1,ds1,p1,q1,rfl,rfl,rfl,h1,r1⟩:=trodAll_cons r0
 obtain ⟨v2,vs2,d2,ds2,p2,q2,rfl,rfl,rfl,h2,r2⟩:=trodAll_cons r1
 obtain ⟨rfl,rfl,rfl⟩:=trodAll_nil r2
 obtain rfl:args=#[v0,v1,v2]:=by cases args;simp_all
 obtain ⟨rfl,rfl⟩:=trodVars_none hV
 rw [List.append_nil] at hW'
 obtain ⟨cs0,rfl,hl0,hc0⟩:=open_aggF kids (U:=Go.Sx.Tk.U) (V:=Go.Sx.Tk.V) (d:=6) (lay:=[.nt .i64,.nt .i64,.nt .i64]) Tryz.underlying23 (by decide +kernel) (by kernel_rfl) (hval 0 23 v0 rfl rfl) h0
 obtain ⟨y0_0,e0_0,w0_0⟩:=ko_nt (hc0 0 (.nt .i64) rfl)
 obtain ⟨y0_1,e0_1,w0_1⟩:=ko_nt (hc0 1 (.nt .i64) rfl)
 obtain ⟨y0_2,e0_2,w0_2⟩:=ko_nt (hc0 2 (.nt .i64) rfl)
 obtain rfl:cs0=[.int .i64 y0_0,.int .i64 y0_1,.int .i64 y0_2]:=list_of_get hl0 (fun f u hu=>by
  match f,hu with
  | 0,hu=>cases hu;exact e0_0
  | 1,hu=>cases hu;exact e0_1
  | 2,hu=>cases hu;exact e0_2
  | f+3,hu=>simp at hu)
 obtain ⟨cs1,rfl,hl1,hc1⟩:=open_aggF kids (U:=Go.Sx.Tk.U) (V:=Go.Sx.Tk.V) (d:=6) (lay:=[.nt .i64,.nt .i64,.nt .u64]) Tryz.underlying29 (by decide +kernel) (by kernel_rfl) (hval 1 29 v1 rfl rfl) h1
 obtain ⟨y1_0,e1_0,w1_0⟩:=ko_nt (hc1 0 (.nt .i64) rfl)
 obtain ⟨y1_1,e1_1,w1_1⟩:=ko_nt (hc1 1 (.nt .i64) rfl)
 obtain ⟨y1_2,e1_2,w1_2⟩:=ko_nt (hc1 2 (.nt .u64) rfl)
 obtain rfl:cs1=[.int .i64 y1_0,.int .i64 y1_1,.int .u64 y1_2]:=list_of_get hl1 (fun f u hu=>by
  match f,hu with
  | 0,hu=>cases hu;exact e1_0
  | 1,hu=>cases hu;exact e1_1
  | 2,hu=>cases hu;exact e1_2
  | f+3,hu=>simp at hu)
 obtain ⟨cs2,rfl,hl2,hc2⟩:=open_arrF kids (U:=Go.Sx.Tk.U) (V:=Go.Sx.Tk.V) (d:=6) (lay:=[.nt .i64,.fs 1,.fs 3,.fs 4,.nt .i64,.nt .i64,.nt .u64,.nt .i64,.fs 1,.fs 3,.fs 4,.nt .i64,.nt .i64,.nt .u64]) Tryz.underlying53 (by decide +kernel) (by kernel_rfl) (hval 2 53 v2 rfl rfl) h2
 obtain ⟨y2_0,e2_0,w2_0⟩:=ko_nt (hc2 0 (.nt .i64) rfl)
 obtain ⟨v2_1,y2_1,e2_1,m2_1,z2_1⟩:=ko_fsO (hc2 1 (.fs 1) rfl)
 obtain ⟨v2_2,y2_2,e2_2,m2_2,z2_2⟩:=ko_fsO (hc2 2 (.fs 3) rfl)
 obtain ⟨v2_3,y2_3,e2_3,m2_3,z2_3⟩:=ko_fsO (hc2 3 (.fs 4) rfl)
 obtain ⟨y2_4,e2_4,w2_4⟩:=ko_nt (hc2 4 (.nt .i64) rfl)
 obtain ⟨y2_5,e2_5,w2_5⟩:=ko_nt (hc2 5 (.nt .i64) rfl)
 obtain ⟨y2_6,e2_6,w2_6⟩:=ko_nt (hc2 6 (.nt .u64) rfl)
 obtain ⟨y2_7,e2_7,w2_7⟩:=ko_nt (hc2 7 (.nt .i64) rfl)
 obtain ⟨v2_8,y2_8,e2_8,m2_8,z2_8⟩:=ko_fsO (hc2 8 (.fs 1) rfl)
 obtain ⟨v2_9,y2_9,e2_9,m2_9,z2_9⟩:=ko_fsO (hc2 9 (.fs 3) rfl)
 obtain ⟨v2_10,y2_10,e2_10,m2_10,z2_10⟩:=ko_fsO (hc2 10 (.fs 4) rfl)
 obtain ⟨y2_11,e2_11,w2_11⟩:=ko_nt (hc2 11 (.nt .i64) rfl)
 obtain ⟨y2_12,e2_12,w2_12⟩:=ko_nt (hc2 12 (.nt .i64) rfl)
 obtain ⟨y2_13,e2_13,w2_13⟩:=ko_nt (hc2 13 (.nt .u64) rfl)
 obtain rfl:cs2=[.int .i64 y2_0,v2_1,v2_2,v2_3,.int .i64 y2_4,.int .i64 y2_5,.int .u64 y2_6,.int .i64 y2_7,v2_8,v2_9,v2_10,.int .i64 y2_11,.int .i64 y2_12,.int .u64 y2_13]:=list_of_get hl2 (fun f u hu=>by
  match f,hu with
  | 0,hu=>cases hu;exact e2_0
  | 1,hu=>cases hu;exact e2_1
  | 2,hu=>cases hu;exact e2_2
  | 3,hu=>cases hu;exact e2_3
  | 4,hu=>cases hu;exact e2_4
  | 5,hu=>cases hu;exact e2_5
  | 6,hu=>cases hu;exact e2_6
  | 7,hu=>cases hu;exact e2_7
  | 8,hu=>cases hu;exact e2_8
  | 9,hu=>cases hu;exact e2_9
  | 10,hu=>cases hu;exact e2_10
  | 11,hu=>cases hu;exact e2_11
  | 12,hu=>cases hu;exact e2_12
  | 13,hu=>cases hu;exact e2_13
  | f+14,hu=>simp at hu)
 refine (walk W w0_0 w0_1 w0_2 w1_0 w1_1 w1_2 w2_0 m2_1 z2_1 m2_2 z2_2 m2_3 z2_3 w2_4 w2_5 w2_6 w2_7 m2_8 z2_8 m2_9 z2_9 m2_10 z2_10 w2_11 w2_12 w2_13).mono fun e W' hh=>?_
 obtain ⟨he,hb⟩:=hh
 subst he
 exact ⟨_,rfl,law_post laid rowed full (by kernel_rfl) rfl (by kernel_rfl) Tryz.underlying4 hW' hA0 rfl hb⟩
theorem proved:Rows.TokenMakesSaid:=
 OpenClaim.holds_of_wide 5 Tryz.f5 rfl rfl rfl rfl rfl rfl rfl ⟨rfl,rfl,rfl,rfl,rfl⟩ rfl rfl rfl rfl rfl (by kernel_rfl) Tryz.func5 (by kernel_rfl)
  (of_decide_eq_true (by kernel_rfl)) (by unfold Func.isWrapper;first | (rw [if_pos (by decide +kernel)];kernel_rfl) | (rw [if_neg (by decide +kernel)];exact ⟨rfl,rfl⟩))
  (fun os started H enc _=>lifted os started H enc)
#print axioms proved
end Go.Proofs.YtfailpbjhlhhiaaGreat.TokenMakes
