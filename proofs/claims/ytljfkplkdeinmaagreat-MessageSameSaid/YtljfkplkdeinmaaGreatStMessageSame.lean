/- MessageSame: the statement: for every input the law returns true, and each argument reads as it did. -/
import Derived.Test.YtljfkplkdeinmaaGreatMgH
import Derived.Test.YtljfkplkdeinmaaGreatSxSf
import Derived.Test.YtljfkplkdeinmaaGreatMgM
import Derived.Test.YtljfkplkdeinmaaGreatRows
namespace Go.Proofs.YtljfkplkdeinmaaGreat.MessageSame
set_option maxRecDepth 100000
open Go Go.ChangeShapes Go.WideShapes Go.ChangeAt Go.RowKit Go.Joins Go.Sx
set_option linter.unusedVariables false
set_option linter.unusedSimpArgs false
open Go.Proofs.YtljfkplkdeinmaaGreat
set_option maxHeartbeats 0 in
theorem walk (W:World) {x0_0:Int} (w0_0:(Lit.int .i64 x0_0).wf=true) {x0_1:Int} (w0_1:(Lit.int .i64 x0_1).wf=true) {x0_2:Int} (w0_2:(Lit.int .i64 x0_2).wf=true) {x0_3:Int} (w0_3:(Lit.int .i64 x0_3).wf=true) {x0_4:Int} (w0_4:(Lit.int .i64 x0_4).wf=true) {x0_5:Int} (w0_5:(Lit.int .i64 x0_5).wf=true) {x0_6:Int} (w0_6:(Lit.int .i64 x0_6).wf=true) {x0_7:Int} (w0_7:(Lit.int .i64 x0_7).wf=true) {x0_8:Bool} {x0_9:Int} (w0_9:(Lit.int .i64 x0_9).wf=true) {x0_10:Int} (w0_10:(Lit.int .i64 x0_10).wf=true) {x0_11:Int} (w0_11:(Lit.int .i64 x0_11).wf=true) {x0_12:Int} (w0_12:(Lit.int .i64 x0_12).wf=true) {x0_13:Int} (w0_13:(Lit.int .i64 x0_13).wf=true) {x0_14:Int} (w0_14:(Lit.int .i64 x0_14).wf=true) {x0_15:Int} (w0_15:(Lit.int .i64 x0_15).wf=true) {x0_16:Int} (w0_16:(Lit.int .u64 x0_16).wf=true) {x0_17:Int} (w0_17:(Lit.int .i64 x0_17).wf=true) {v0_18:Value} {y0_18:Int} (m0_18:flenC y0_18≤maxLen) (z0_18:∀ kv iv bv,Fz (sta Go.Sx.Mg.FI Go.Sx.Mg.FB kv iv bv) (fun b=>W.heap[b]?) 1 y0_18 v0_18) {v0_19:Value} {y0_19:Int} (m0_19:flenC y0_19≤maxLen) (z0_19:∀ kv iv bv,Fz (sta Go.Sx.Mg.FI Go.Sx.Mg.FB kv iv bv) (fun b=>W.heap[b]?) 3 y0_19 v0_19) {v0_20:Value} {y0_20:Int} (m0_20:flenC y0_20≤maxLen) (z0_20:∀ kv iv bv,Fz (sta Go.Sx.Mg.FI Go.Sx.Mg.FB kv iv bv) (fun b=>W.heap[b]?) 4 y0_20 v0_20) {x0_21:Int} (w0_21:(Lit.int .i64 x0_21).wf=true) {x0_22:Int} (w0_22:(Lit.int .i64 x0_22).wf=true) {x0_23:Int} (w0_23:(Lit.int .u64 x0_23).wf=true) {v0_24:Value} {y0_24:Int} (m0_24:flenC y0_24≤maxLen) (z0_24:∀ kv iv bv,Fz (sta Go.Sx.Mg.FI Go.Sx.Mg.FB kv iv bv) (fun b=>W.heap[b]?) 8 y0_24 v0_24) {v0_25:Value} {y0_25:Int} (m0_25:flenC y0_25≤maxLen) (z0_25:∀ kv iv bv,Fz (sta Go.Sx.Mg.FI Go.Sx.Mg.FB kv iv bv) (fun b=>W.heap[b]?) 4 y0_25 v0_25) {x1_0:Int} (w1_0:(Lit.int .i64 x1_0).wf=true) {x1_1:Int} (w1_1:(Lit.int .i64 x1_1).wf=true) {x1_2:Int} (w1_2:(Lit.int .i64 x1_2).wf=true) {x1_3:Int} (w1_3:(Lit.int .i64 x1_3).wf=true) {x1_4:Int} (w1_4:(Lit.int .i64 x1_4).wf=true) {x1_5:Int} (w1_5:(Lit.int .i64 x1_5).wf=true) {x1_6:Int} (w1_6:(Lit.int .i64 x1_6).wf=true) {x1_7:Int} (w1_7:(Lit.int .i64 x1_7).wf=true) {x1_8:Bool} {x1_9:Int} (w1_9:(Lit.int .i64 x1_9).wf=true) {x1_10:Int} (w1_10:(Lit.int .i64 x1_10).wf=true) {x1_11:Int} (w1_11:(Lit.int .i64 x1_11).wf=true) {x1_12:Int} (w1_12:(Lit.int .i64 x1_12).wf=true) {x1_13:Int} (w1_13:(Lit.int .i64 x1_13).wf=true) {x1_14:Int} (w1_14:(Lit.int .i64 x1_14).wf=true) {x1_15:Int} (w1_15:(Lit.int .i64 x1_15).wf=true) {x1_16:Int} (w1_16:(Lit.int .u64 x1_16).wf=true) {x1_17:Int} (w1_17:(Lit.int .i64 x1_17).wf=true) {v1_18:Value} {y1_18:Int} (m1_18:flenC y1_18≤maxLen) (z1_18:∀ kv iv bv,Fz (sta Go.Sx.Mg.FI Go.Sx.Mg.FB kv iv bv) (fun b=>W.heap[b]?) 1 y1_18 v1_18) {v1_19:Value} {y1_19:Int} (m1_19:flenC y1_19≤maxLen) (z1_19:∀ kv iv bv,Fz (sta Go.Sx.Mg.FI Go.Sx.Mg.FB kv iv bv) (fun b=>W.heap[b]?) 3 y1_19 v1_19) {v1_20:Value} {y1_20:Int} (m1_20:flenC y1_20≤maxLen) (z1_20:∀ kv iv bv,Fz (sta Go.Sx.Mg.FI Go.Sx.Mg.FB kv iv bv) (fun b=>W.heap[b]?) 4 y1_20 v1_20) {x1_21:Int} (w1_21:(Lit.int .i64 x1_21).wf=true) {x1_22:Int} (w1_22:(Lit.int .i64 x1_22).wf=true) {x1_23:Int} (w1_23:(Lit.int .u64 x1_23).wf=true) {v1_24:Value} {y1_24:Int} (m1_24:flenC y1_24≤maxLen) (z1_24:∀ kv iv bv,Fz (sta Go.Sx.Mg.FI Go.Sx.Mg.FB kv iv bv) (fun b=>W.heap[b]?) 8 y1_24 v1_24) {v1_25:Value} {y1_25:Int} (m1_25:flenC y1_25≤maxLen) (z1_25:∀ kv iv bv,Fz (sta Go.Sx.Mg.FI Go.Sx.Mg.FB kv iv bv) (fun b=>W.heap[b]?) 4 y1_25 v1_25):Calls Tryz.prog 3 #[.agg #[.int .i64 x0_0,.int .i64 x0_1,.int .i64 x0_2,.int .i64 x0_3,.int .i64 x0_4,.int .i64 x0_5,.int .i64 x0_6,.int .i64 x0_7,.bool x0_8,.int .i64 x0_9,.int .i64 x0_10,.int .i64 x0_11,.int .i64 x0_12,.int .i64 x0_13,.int .i64 x0_14,.int .i64 x0_15,.int .u64 x0_16,.int .i64 x0_17,v0_18,v0_19,v0_20,.int .i64 x0_21,.int .i64 x0_22,.int .u64 x0_23,v0_24,v0_25],.agg #[.int .i64 x1_0,.int .i64 x1_1,.int .i64 x1_2,.int .i64 x1_3,.int .i64 x1_4,.int .i64 x1_5,.int .i64 x1_6,.int .i64 x1_7,.bool x1_8,.int .i64 x1_9,.int .i64 x1_10,.int .i64 x1_11,.int .i64 x1_12,.int .i64 x1_13,.int .i64 x1_14,.int .i64 x1_15,.int .u64 x1_16,.int .i64 x1_17,v1_18,v1_19,v1_20,.int .i64 x1_21,.int .i64 x1_22,.int .u64 x1_23,v1_24,v1_25]] W fun e W'=>e=.returned (.bool true)∧Below W.heap.size W W':=by
 have h0_0:=wf64 w0_0
 have h0_1:=wf64 w0_1
 have h0_2:=wf64 w0_2
 have h0_3:=wf64 w0_3
 have h0_4:=wf64 w0_4
 have h0_5:=wf64 w0_5
 have h0_6:=wf64 w0_6
 have h0_7:=wf64 w0_7
 have h0_9:=wf64 w0_9
 have h0_10:=wf64 w0_10
 have h0_11:=wf64 w0_11
 have h0_12:=wf64 w0_12
 have h0_13:=wf64 w0_13
 have h0_14:=wf64 w0_14
 have h0_15:=wf64 w0_15
 have h0_16:=wfu64 w0_16
 have h0_17:=wf64 w0_17
 unfold maxLen at m0_18
 have e0_18:∀ kv iv bv,(sta Go.Sx.Mg.FI Go.Sx.Mg.FB kv iv bv).fi 200 y0_18 0 0 0 0 0=flenC y0_18:=fun _ _ _=>by simp [sta,Go.Sx.Mg.FI,mkFI]
 unfold maxLen at m0_19
 have e0_19:∀ kv iv bv,(sta Go.Sx.Mg.FI Go.Sx.Mg.FB kv iv bv).fi 200 y0_19 0 0 0 0 0=flenC y0_19:=fun _ _ _=>by simp [sta,Go.Sx.Mg.FI,mkFI]
 unfold maxLen at m0_20
 have e0_20:∀ kv iv bv,(sta Go.Sx.Mg.FI Go.Sx.Mg.FB kv iv bv).fi 200 y0_20 0 0 0 0 0=flenC y0_20:=fun _ _ _=>by simp [sta,Go.Sx.Mg.FI,mkFI]
 have h0_21:=wf64 w0_21
 have h0_22:=wf64 w0_22
 have h0_23:=wfu64 w0_23
 unfold maxLen at m0_24
 have e0_24:∀ kv iv bv,(sta Go.Sx.Mg.FI Go.Sx.Mg.FB kv iv bv).fi 200 y0_24 0 0 0 0 0=flenC y0_24:=fun _ _ _=>by simp [sta,Go.Sx.Mg.FI,mkFI]
 unfold maxLen at m0_25
 have e0_25:∀ kv iv bv,(sta Go.Sx.Mg.FI Go.Sx.Mg.FB kv iv bv).fi 200 y0_25 0 0 0 0 0=flenC y0_25:=fun _ _ _=>by simp [sta,Go.Sx.Mg.FI,mkFI]
 have h1_0:=wf64 w1_0
 have h1_1:=wf64 w1_1
 have h1_2:=wf64 w1_2
 have h1_3:=wf64 w1_3
 have h1_4:=wf64 w1_4
 have h1_5:=wf64 w1_5
 have h1_6:=wf64 w1_6
 have h1_7:=wf64 w1_7
 have h1_9:=wf64 w1_9
 have h1_10:=wf64 w1_10
 have h1_11:=wf64 w1_11
 have h1_12:=wf64 w1_12
 have h1_13:=wf64 w1_13
 have h1_14:=wf64 w1_14
 have h1_15:=wf64 w1_15
 have h1_16:=wfu64 w1_16
 have h1_17:=wf64 w1_17
 unfold maxLen at m1_18
 have e1_18:∀ kv iv bv,(sta Go.Sx.Mg.FI Go.Sx.Mg.FB kv iv bv).fi 200 y1_18 0 0 0 0 0=flenC y1_18:=fun _ _ _=>by simp [sta,Go.Sx.Mg.FI,mkFI]
 unfold maxLen at m1_19
 have e1_19:∀ kv iv bv,(sta Go.Sx.Mg.FI Go.Sx.Mg.FB kv iv bv).fi 200 y1_19 0 0 0 0 0=flenC y1_19:=fun _ _ _=>by simp [sta,Go.Sx.Mg.FI,mkFI]
 unfold maxLen at m1_20
 have e1_20:∀ kv iv bv,(sta Go.Sx.Mg.FI Go.Sx.Mg.FB kv iv bv).fi 200 y1_20 0 0 0 0 0=flenC y1_20:=fun _ _ _=>by simp [sta,Go.Sx.Mg.FI,mkFI]
 have h1_21:=wf64 w1_21
 have h1_22:=wf64 w1_22
 have h1_23:=wfu64 w1_23
 unfold maxLen at m1_24
 have e1_24:∀ kv iv bv,(sta Go.Sx.Mg.FI Go.Sx.Mg.FB kv iv bv).fi 200 y1_24 0 0 0 0 0=flenC y1_24:=fun _ _ _=>by simp [sta,Go.Sx.Mg.FI,mkFI]
 unfold maxLen at m1_25
 have e1_25:∀ kv iv bv,(sta Go.Sx.Mg.FI Go.Sx.Mg.FB kv iv bv).fi 200 y1_25 0 0 0 0 0=flenC y1_25:=fun _ _ _=>by simp [sta,Go.Sx.Mg.FI,mkFI]
 have u0_18:∀ kv bv,(sta Go.Sx.Mg.FI Go.Sx.Mg.FB kv (fun i=>match i with | 0=>x0_0 | 1=>x0_1 | 2=>x0_2 | 3=>x0_3 | 4=>x0_4 | 5=>x0_5 | 6=>x0_6 | 7=>x0_7 | 9=>x0_9 | 10=>x0_10 | 11=>x0_11 | 12=>x0_12 | 13=>x0_13 | 14=>x0_14 | 15=>x0_15 | 16=>x0_16 | 17=>x0_17 | 18=>y0_18 | 19=>y0_19 | 20=>y0_20 | 21=>x0_21 | 22=>x0_22 | 23=>x0_23 | 24=>y0_24 | 25=>y0_25 | 30=>x1_0 | 31=>x1_1 | 32=>x1_2 | 33=>x1_3 | 34=>x1_4 | 35=>x1_5 | 36=>x1_6 | 37=>x1_7 | 39=>x1_9 | 40=>x1_10 | 41=>x1_11 | 42=>x1_12 | 43=>x1_13 | 44=>x1_14 | 45=>x1_15 | 46=>x1_16 | 47=>x1_17 | 48=>y1_18 | 49=>y1_19 | 50=>y1_20 | 51=>x1_21 | 52=>x1_22 | 53=>x1_23 | 54=>y1_24 | 55=>y1_25 | _=>0) bv).iv 18=y0_18:=fun _ _=>rfl
 have u0_19:∀ kv bv,(sta Go.Sx.Mg.FI Go.Sx.Mg.FB kv (fun i=>match i with | 0=>x0_0 | 1=>x0_1 | 2=>x0_2 | 3=>x0_3 | 4=>x0_4 | 5=>x0_5 | 6=>x0_6 | 7=>x0_7 | 9=>x0_9 | 10=>x0_10 | 11=>x0_11 | 12=>x0_12 | 13=>x0_13 | 14=>x0_14 | 15=>x0_15 | 16=>x0_16 | 17=>x0_17 | 18=>y0_18 | 19=>y0_19 | 20=>y0_20 | 21=>x0_21 | 22=>x0_22 | 23=>x0_23 | 24=>y0_24 | 25=>y0_25 | 30=>x1_0 | 31=>x1_1 | 32=>x1_2 | 33=>x1_3 | 34=>x1_4 | 35=>x1_5 | 36=>x1_6 | 37=>x1_7 | 39=>x1_9 | 40=>x1_10 | 41=>x1_11 | 42=>x1_12 | 43=>x1_13 | 44=>x1_14 | 45=>x1_15 | 46=>x1_16 | 47=>x1_17 | 48=>y1_18 | 49=>y1_19 | 50=>y1_20 | 51=>x1_21 | 52=>x1_22 | 53=>x1_23 | 54=>y1_24 | 55=>y1_25 | _=>0) bv).iv 19=y0_19:=fun _ _=>rfl
 have u0_20:∀ kv bv,(sta Go.Sx.Mg.FI Go.Sx.Mg.FB kv (fun i=>match i with | 0=>x0_0 | 1=>x0_1 | 2=>x0_2 | 3=>x0_3 | 4=>x0_4 | 5=>x0_5 | 6=>x0_6 | 7=>x0_7 | 9=>x0_9 | 10=>x0_10 | 11=>x0_11 | 12=>x0_12 | 13=>x0_13 | 14=>x0_14 | 15=>x0_15 | 16=>x0_16 | 17=>x0_17 | 18=>y0_18 | 19=>y0_19 | 20=>y0_20 | 21=>x0_21 | 22=>x0_22 | 23=>x0_23 | 24=>y0_24 | 25=>y0_25 | 30=>x1_0 | 31=>x1_1 | 32=>x1_2 | 33=>x1_3 | 34=>x1_4 | 35=>x1_5 | 36=>x1_6 | 37=>x1_7 | 39=>x1_9 | 40=>x1_10 | 41=>x1_11 | 42=>x1_12 | 43=>x1_13 | 44=>x1_14 | 45=>x1_15 | 46=>x1_16 | 47=>x1_17 | 48=>y1_18 | 49=>y1_19 | 50=>y1_20 | 51=>x1_21 | 52=>x1_22 | 53=>x1_23 | 54=>y1_24 | 55=>y1_25 | _=>0) bv).iv 20=y0_20:=fun _ _=>rfl
 have u0_24:∀ kv bv,(sta Go.Sx.Mg.FI Go.Sx.Mg.FB kv (fun i=>match i with | 0=>x0_0 | 1=>x0_1 | 2=>x0_2 | 3=>x0_3 | 4=>x0_4 | 5=>x0_5 | 6=>x0_6 | 7=>x0_7 | 9=>x0_9 | 10=>x0_10 | 11=>x0_11 | 12=>x0_12 | 13=>x0_13 | 14=>x0_14 | 15=>x0_15 | 16=>x0_16 | 17=>x0_17 | 18=>y0_18 | 19=>y0_19 | 20=>y0_20 | 21=>x0_21 | 22=>x0_22 | 23=>x0_23 | 24=>y0_24 | 25=>y0_25 | 30=>x1_0 | 31=>x1_1 | 32=>x1_2 | 33=>x1_3 | 34=>x1_4 | 35=>x1_5 | 36=>x1_6 | 37=>x1_7 | 39=>x1_9 | 40=>x1_10 | 41=>x1_11 | 42=>x1_12 | 43=>x1_13 | 44=>x1_14 | 45=>x1_15 | 46=>x1_16 | 47=>x1_17 | 48=>y1_18 | 49=>y1_19 | 50=>y1_20 | 51=>x1_21 | 52=>x1_22 | 53=>x1_23 | 54=>y1_24 | 55=>y1_25 | _=>0) bv).iv 24=y0_24:=fun _ _=>rfl
 have u0_25:∀ kv bv,(sta Go.Sx.Mg.FI Go.Sx.Mg.FB kv (fun i=>match i with | 0=>x0_0 | 1=>x0_1 | 2=>x0_2 | 3=>x0_3 | 4=>x0_4 | 5=>x0_5 | 6=>x0_6 | 7=>x0_7 | 9=>x0_9 | 10=>x0_10 | 11=>x0_11 | 12=>x0_12 | 13=>x0_13 | 14=>x0_14 | 15=>x0_15 | 16=>x0_16 | 17=>x0_17 | 18=>y0_18 | 19=>y0_19 | 20=>y0_20 | 21=>x0_21 | 22=>x0_22 | 23=>x0_23 | 24=>y0_24 | 25=>y0_25 | 30=>x1_0 | 31=>x1_1 | 32=>x1_2 | 33=>x1_3 | 34=>x1_4 | 35=>x1_5 | 36=>x1_6 | 37=>x1_7 | 39=>x1_9 | 40=>x1_10 | 41=>x1_11 | 42=>x1_12 | 43=>x1_13 | 44=>x1_14 | 45=>x1_15 | 46=>x1_16 | 47=>x1_17 | 48=>y1_18 | 49=>y1_19 | 50=>y1_20 | 51=>x1_21 | 52=>x1_22 | 53=>x1_23 | 54=>y1_24 | 55=>y1_25 | _=>0) bv).iv 25=y0_25:=fun _ _=>rfl
 have u1_18:∀ kv bv,(sta Go.Sx.Mg.FI Go.Sx.Mg.FB kv (fun i=>match i with | 0=>x0_0 | 1=>x0_1 | 2=>x0_2 | 3=>x0_3 | 4=>x0_4 | 5=>x0_5 | 6=>x0_6 | 7=>x0_7 | 9=>x0_9 | 10=>x0_10 | 11=>x0_11 | 12=>x0_12 | 13=>x0_13 | 14=>x0_14 | 15=>x0_15 | 16=>x0_16 | 17=>x0_17 | 18=>y0_18 | 19=>y0_19 | 20=>y0_20 | 21=>x0_21 | 22=>x0_22 | 23=>x0_23 | 24=>y0_24 | 25=>y0_25 | 30=>x1_0 | 31=>x1_1 | 32=>x1_2 | 33=>x1_3 | 34=>x1_4 | 35=>x1_5 | 36=>x1_6 | 37=>x1_7 | 39=>x1_9 | 40=>x1_10 | 41=>x1_11 | 42=>x1_12 | 43=>x1_13 | 44=>x1_14 | 45=>x1_15 | 46=>x1_16 | 47=>x1_17 | 48=>y1_18 | 49=>y1_19 | 50=>y1_20 | 51=>x1_21 | 52=>x1_22 | 53=>x1_23 | 54=>y1_24 | 55=>y1_25 | _=>0) bv).iv 48=y1_18:=fun _ _=>rfl
 have u1_19:∀ kv bv,(sta Go.Sx.Mg.FI Go.Sx.Mg.FB kv (fun i=>match i with | 0=>x0_0 | 1=>x0_1 | 2=>x0_2 | 3=>x0_3 | 4=>x0_4 | 5=>x0_5 | 6=>x0_6 | 7=>x0_7 | 9=>x0_9 | 10=>x0_10 | 11=>x0_11 | 12=>x0_12 | 13=>x0_13 | 14=>x0_14 | 15=>x0_15 | 16=>x0_16 | 17=>x0_17 | 18=>y0_18 | 19=>y0_19 | 20=>y0_20 | 21=>x0_21 | 22=>x0_22 | 23=>x0_23 | 24=>y0_24 | 25=>y0_25 | 30=>x1_0 | 31=>x1_1 | 32=>x1_2 | 33=>x1_3 | 34=>x1_4 | 35=>x1_5 | 36=>x1_6 | 37=>x1_7 | 39=>x1_9 | 40=>x1_10 | 41=>x1_11 | 42=>x1_12 | 43=>x1_13 | 44=>x1_14 | 45=>x1_15 | 46=>x1_16 | 47=>x1_17 | 48=>y1_18 | 49=>y1_19 | 50=>y1_20 | 51=>x1_21 | 52=>x1_22 | 53=>x1_23 | 54=>y1_24 | 55=>y1_25 | _=>0) bv).iv 49=y1_19:=fun _ _=>rfl
 have u1_20:∀ kv bv,(sta Go.Sx.Mg.FI Go.Sx.Mg.FB kv (fun i=>match i with | 0=>x0_0 | 1=>x0_1 | 2=>x0_2 | 3=>x0_3 | 4=>x0_4 | 5=>x0_5 | 6=>x0_6 | 7=>x0_7 | 9=>x0_9 | 10=>x0_10 | 11=>x0_11 | 12=>x0_12 | 13=>x0_13 | 14=>x0_14 | 15=>x0_15 | 16=>x0_16 | 17=>x0_17 | 18=>y0_18 | 19=>y0_19 | 20=>y0_20 | 21=>x0_21 | 22=>x0_22 | 23=>x0_23 | 24=>y0_24 | 25=>y0_25 | 30=>x1_0 | 31=>x1_1 | 32=>x1_2 | 33=>x1_3 | 34=>x1_4 | 35=>x1_5 | 36=>x1_6 | 37=>x1_7 | 39=>x1_9 | 40=>x1_10 | 41=>x1_11 | 42=>x1_12 | 43=>x1_13 | 44=>x1_14 | 45=>x1_15 | 46=>x1_16 | 47=>x1_17 | 48=>y1_18 | 49=>y1_19 | 50=>y1_20 | 51=>x1_21 | 52=>x1_22 | 53=>x1_23 | 54=>y1_24 | 55=>y1_25 | _=>0) bv).iv 50=y1_20:=fun _ _=>rfl
 have u1_24:∀ kv bv,(sta Go.Sx.Mg.FI Go.Sx.Mg.FB kv (fun i=>match i with | 0=>x0_0 | 1=>x0_1 | 2=>x0_2 | 3=>x0_3 | 4=>x0_4 | 5=>x0_5 | 6=>x0_6 | 7=>x0_7 | 9=>x0_9 | 10=>x0_10 | 11=>x0_11 | 12=>x0_12 | 13=>x0_13 | 14=>x0_14 | 15=>x0_15 | 16=>x0_16 | 17=>x0_17 | 18=>y0_18 | 19=>y0_19 | 20=>y0_20 | 21=>x0_21 | 22=>x0_22 | 23=>x0_23 | 24=>y0_24 | 25=>y0_25 | 30=>x1_0 | 31=>x1_1 | 32=>x1_2 | 33=>x1_3 | 34=>x1_4 | 35=>x1_5 | 36=>x1_6 | 37=>x1_7 | 39=>x1_9 | 40=>x1_10 | 41=>x1_11 | 42=>x1_12 | 43=>x1_13 | 44=>x1_14 | 45=>x1_15 | 46=>x1_16 | 47=>x1_17 | 48=>y1_18 | 49=>y1_19 | 50=>y1_20 | 51=>x1_21 | 52=>x1_22 | 53=>x1_23 | 54=>y1_24 | 55=>y1_25 | _=>0) bv).iv 54=y1_24:=fun _ _=>rfl
 have u1_25:∀ kv bv,(sta Go.Sx.Mg.FI Go.Sx.Mg.FB kv (fun i=>match i with | 0=>x0_0 | 1=>x0_1 | 2=>x0_2 | 3=>x0_3 | 4=>x0_4 | 5=>x0_5 | 6=>x0_6 | 7=>x0_7 | 9=>x0_9 | 10=>x0_10 | 11=>x0_11 | 12=>x0_12 | 13=>x0_13 | 14=>x0_14 | 15=>x0_15 | 16=>x0_16 | 17=>x0_17 | 18=>y0_18 | 19=>y0_19 | 20=>y0_20 | 21=>x0_21 | 22=>x0_22 | 23=>x0_23 | 24=>y0_24 | 25=>y0_25 | 30=>x1_0 | 31=>x1_1 | 32=>x1_2 | 33=>x1_3 | 34=>x1_4 | 35=>x1_5 | 36=>x1_6 | 37=>x1_7 | 39=>x1_9 | 40=>x1_10 | 41=>x1_11 | 42=>x1_12 | 43=>x1_13 | 44=>x1_14 | 45=>x1_15 | 46=>x1_16 | 47=>x1_17 | 48=>y1_18 | 49=>y1_19 | 50=>y1_20 | 51=>x1_21 | 52=>x1_22 | 53=>x1_23 | 54=>y1_24 | 55=>y1_25 | _=>0) bv).iv 55=y1_25:=fun _ _=>rfl
 refine (Go.Sx.Mg.cMSame_ok ⟨fun _=>0,fun _=>ByteArray.empty⟩ (fun i=>match i with | 0=>x0_0 | 1=>x0_1 | 2=>x0_2 | 3=>x0_3 | 4=>x0_4 | 5=>x0_5 | 6=>x0_6 | 7=>x0_7 | 9=>x0_9 | 10=>x0_10 | 11=>x0_11 | 12=>x0_12 | 13=>x0_13 | 14=>x0_14 | 15=>x0_15 | 16=>x0_16 | 17=>x0_17 | 18=>y0_18 | 19=>y0_19 | 20=>y0_20 | 21=>x0_21 | 22=>x0_22 | 23=>x0_23 | 24=>y0_24 | 25=>y0_25 | 30=>x1_0 | 31=>x1_1 | 32=>x1_2 | 33=>x1_3 | 34=>x1_4 | 35=>x1_5 | 36=>x1_6 | 37=>x1_7 | 39=>x1_9 | 40=>x1_10 | 41=>x1_11 | 42=>x1_12 | 43=>x1_13 | 44=>x1_14 | 45=>x1_15 | 46=>x1_16 | 47=>x1_17 | 48=>y1_18 | 49=>y1_19 | 50=>y1_20 | 51=>x1_21 | 52=>x1_22 | 53=>x1_23 | 54=>y1_24 | 55=>y1_25 | _=>0) (fun i=>match i with | 0=>x0_8 | 1=>x1_8 | _=>false) (fun i a b hm=>?_) (fun p hp=>?_) W (fun G hG=>?_) (fun b=>W.heap[b]?) (fun _ _ h=>h) [.agg #[.int .i64 x0_0,.int .i64 x0_1,.int .i64 x0_2,.int .i64 x0_3,.int .i64 x0_4,.int .i64 x0_5,.int .i64 x0_6,.int .i64 x0_7,.bool x0_8,.int .i64 x0_9,.int .i64 x0_10,.int .i64 x0_11,.int .i64 x0_12,.int .i64 x0_13,.int .i64 x0_14,.int .i64 x0_15,.int .u64 x0_16,.int .i64 x0_17,v0_18,v0_19,v0_20,.int .i64 x0_21,.int .i64 x0_22,.int .u64 x0_23,v0_24,v0_25],.agg #[.int .i64 x1_0,.int .i64 x1_1,.int .i64 x1_2,.int .i64 x1_3,.int .i64 x1_4,.int .i64 x1_5,.int .i64 x1_6,.int .i64 x1_7,.bool x1_8,.int .i64 x1_9,.int .i64 x1_10,.int .i64 x1_11,.int .i64 x1_12,.int .i64 x1_13,.int .i64 x1_14,.int .i64 x1_15,.int .u64 x1_16,.int .i64 x1_17,v1_18,v1_19,v1_20,.int .i64 x1_21,.int .i64 x1_22,.int .u64 x1_23,v1_24,v1_25]] ?_).mono fun e w' h=>ret_true rfl h
 ·simp only [Go.Sx.Mg.cMSame,Go.Sx.Mg.i64s,Go.Sx.Mg.i64b,Go.Sx.lmap_eq,Go.Sx.lapp_eq,List.map_cons,List.map_nil,List.cons_append,List.nil_append,Go.Sx.Mg.o1,Go.Sx.Mg.u64b,Go.Sx.Mg.mSB,Go.Sx.Mg.mA,Go.Sx.Mg.mV,Go.Sx.Mg.mB,Go.Sx.Mg.flF,Go.Sx.Mg.eqB,List.mem_cons,List.not_mem_nil,or_false,Prod.mk.injEq] at hm
  all_goals (first | exact hm.elim | (repeat' (rcases hm with ⟨rfl,rfl,rfl⟩ | hm))<;>(try obtain ⟨rfl,rfl,rfl⟩:=hm)<;>simp only [Int.ofNat_eq_natCast]<;>omega)
 ·simp only [Go.Sx.Mg.cMSame,Go.Sx.Mg.i64s,Go.Sx.Mg.i64b,Go.Sx.lmap_eq,Go.Sx.lapp_eq,List.map_cons,List.map_nil,List.cons_append,List.nil_append,Go.Sx.Mg.o1,Go.Sx.Mg.u64b,Go.Sx.Mg.mSB,Go.Sx.Mg.mA,Go.Sx.Mg.mV,Go.Sx.Mg.mB,Go.Sx.Mg.flF,Go.Sx.Mg.eqB,List.mem_cons,List.not_mem_nil,or_false] at hp
  all_goals (first | exact hp.elim | (repeat' (rcases hp with rfl | hp))<;>(try subst hp)<;>simp [SB.den,SI.den,SI.fl,e0_18,u0_18,e0_19,u0_19,e0_20,u0_20,e0_24,u0_24,e0_25,u0_25,e1_18,u1_18,e1_19,u1_19,e1_20,u1_20,e1_24,u1_24,e1_25,u1_25]<;>omega)
 ·simp only [Go.Sx.Mg.cMSame,Go.Sx.Mg.i64s,Go.Sx.Mg.i64b,Go.Sx.lmap_eq,Go.Sx.lapp_eq,List.map_cons,List.map_nil,List.cons_append,List.nil_append,Go.Sx.Mg.o1,Go.Sx.Mg.u64b,Go.Sx.Mg.mSB,Go.Sx.Mg.mA,Go.Sx.Mg.mV,Go.Sx.Mg.mB,Go.Sx.Mg.flF,Go.Sx.Mg.eqB,List.mem_cons,List.not_mem_nil,or_false] at hG
  all_goals (exact hG.elim)
 ·simp only [Go.Sx.Mg.cMSame,Go.Sx.Mg.i64s,Go.Sx.Mg.i64b,Go.Sx.lmap_eq,Go.Sx.lapp_eq,List.map_cons,List.map_nil,List.cons_append,List.nil_append,Go.Sx.Mg.o1,Go.Sx.Mg.u64b,Go.Sx.Mg.mSB,Go.Sx.Mg.mA,Go.Sx.Mg.mV,Go.Sx.Mg.mB,Go.Sx.Mg.flF,Go.Sx.Mg.eqB,SV.isL_cons,SV.isL_nil,SV.Is,SR.den,SI.den,SB.den,SS.den,sta]
  exact ⟨_,_,rfl,⟨[_,_,_,_,_,_,_,_,_,_,_,_,_,_,_,_,_,_,_,_,_,_,_,_,_,_],⟨_,_,rfl,⟨_,rfl,rfl⟩,⟨_,_,rfl,⟨_,rfl,rfl⟩,⟨_,_,rfl,⟨_,rfl,rfl⟩,⟨_,_,rfl,⟨_,rfl,rfl⟩,⟨_,_,rfl,⟨_,rfl,rfl⟩,⟨_,_,rfl,⟨_,rfl,rfl⟩,⟨_,_,rfl,⟨_,rfl,rfl⟩,⟨_,_,rfl,⟨_,rfl,rfl⟩,⟨_,_,rfl,⟨_,rfl,rfl⟩,⟨_,_,rfl,⟨_,rfl,rfl⟩,⟨_,_,rfl,⟨_,rfl,rfl⟩,⟨_,_,rfl,⟨_,rfl,rfl⟩,⟨_,_,rfl,⟨_,rfl,rfl⟩,⟨_,_,rfl,⟨_,rfl,rfl⟩,⟨_,_,rfl,⟨_,rfl,rfl⟩,⟨_,_,rfl,⟨_,rfl,rfl⟩,⟨_,_,rfl,⟨_,rfl,rfl⟩,⟨_,_,rfl,⟨_,rfl,rfl⟩,⟨_,_,rfl,⟨_,rfl,by refine Fz.fi (σ:=sta Go.Sx.Mg.FI Go.Sx.Mg.FB ⟨fun _=>0,fun _=>ByteArray.empty⟩ (fun _=>0) (fun _=>false)) ?_ ?_ (z0_18 _ _ _)<;>rfl⟩,⟨_,_,rfl,⟨_,rfl,by refine Fz.fi (σ:=sta Go.Sx.Mg.FI Go.Sx.Mg.FB ⟨fun _=>0,fun _=>ByteArray.empty⟩ (fun _=>0) (fun _=>false)) ?_ ?_ (z0_19 _ _ _)<;>rfl⟩,⟨_,_,rfl,⟨_,rfl,by refine Fz.fi (σ:=sta Go.Sx.Mg.FI Go.Sx.Mg.FB ⟨fun _=>0,fun _=>ByteArray.empty⟩ (fun _=>0) (fun _=>false)) ?_ ?_ (z0_20 _ _ _)<;>rfl⟩,⟨_,_,rfl,⟨_,rfl,rfl⟩,⟨_,_,rfl,⟨_,rfl,rfl⟩,⟨_,_,rfl,⟨_,rfl,rfl⟩,⟨_,_,rfl,⟨_,rfl,by refine Fz.fi (σ:=sta Go.Sx.Mg.FI Go.Sx.Mg.FB ⟨fun _=>0,fun _=>ByteArray.empty⟩ (fun _=>0) (fun _=>false)) ?_ ?_ (z0_24 _ _ _)<;>rfl⟩,⟨_,_,rfl,⟨_,rfl,by refine Fz.fi (σ:=sta Go.Sx.Mg.FI Go.Sx.Mg.FB ⟨fun _=>0,fun _=>ByteArray.empty⟩ (fun _=>0) (fun _=>false)) ?_ ?_ (z0_25 _ _ _)<;>rfl⟩,rfl⟩⟩⟩⟩⟩⟩⟩⟩⟩⟩⟩⟩⟩⟩⟩⟩⟩⟩⟩⟩⟩⟩⟩⟩⟩⟩,rfl⟩,⟨_,_,rfl,⟨[_,_,_,_,_,_,_,_,_,_,_,_,_,_,_,_,_,_,_,_,_,_,_,_,_,_],⟨_,_,rfl,⟨_,rfl,rfl⟩,⟨_,_,rfl,⟨_,rfl,rfl⟩,⟨_,_,rfl,⟨_,rfl,rfl⟩,⟨_,_,rfl,⟨_,rfl,rfl⟩,⟨_,_,rfl,⟨_,rfl,rfl⟩,⟨_,_,rfl,⟨_,rfl,rfl⟩,⟨_,_,rfl,⟨_,rfl,rfl⟩,⟨_,_,rfl,⟨_,rfl,rfl⟩,⟨_,_,rfl,⟨_,rfl,rfl⟩,⟨_,_,rfl,⟨_,rfl,rfl⟩,⟨_,_,rfl,⟨_,rfl,rfl⟩,⟨_,_,rfl,⟨_,rfl,rfl⟩,⟨_,_,rfl,⟨_,rfl,rfl⟩,⟨_,_,rfl,⟨_,rfl,rfl⟩,⟨_,_,rfl,⟨_,rfl,rfl⟩,⟨_,_,rfl,⟨_,rfl,rfl⟩,⟨_,_,rfl,⟨_,rfl,rfl⟩,⟨_,_,rfl,⟨_,rfl,rfl⟩,⟨_,_,rfl,⟨_,rfl,by refine Fz.fi (σ:=sta Go.Sx.Mg.FI Go.Sx.Mg.FB ⟨fun _=>0,fun _=>ByteArray.empty⟩ (fun _=>0) (fun _=>false)) ?_ ?_ (z1_18 _ _ _)<;>rfl⟩,⟨_,_,rfl,⟨_,rfl,by refine Fz.fi (σ:=sta Go.Sx.Mg.FI Go.Sx.Mg.FB ⟨fun _=>0,fun _=>ByteArray.empty⟩ (fun _=>0) (fun _=>false)) ?_ ?_ (z1_19 _ _ _)<;>rfl⟩,⟨_,_,rfl,⟨_,rfl,by refine Fz.fi (σ:=sta Go.Sx.Mg.FI Go.Sx.Mg.FB ⟨fun _=>0,fun _=>ByteArray.empty⟩ (fun _=>0) (fun _=>false)) ?_ ?_ (z1_20 _ _ _)<;>rfl⟩,⟨_,_,rfl,⟨_,rfl,rfl⟩,⟨_,_,rfl,⟨_,rfl,rfl⟩,⟨_,_,rfl,⟨_,rfl,rfl⟩,⟨_,_,rfl,⟨_,rfl,by refine Fz.fi (σ:=sta Go.Sx.Mg.FI Go.Sx.Mg.FB ⟨fun _=>0,fun _=>ByteArray.empty⟩ (fun _=>0) (fun _=>false)) ?_ ?_ (z1_24 _ _ _)<;>rfl⟩,⟨_,_,rfl,⟨_,rfl,by refine Fz.fi (σ:=sta Go.Sx.Mg.FI Go.Sx.Mg.FB ⟨fun _=>0,fun _=>ByteArray.empty⟩ (fun _=>0) (fun _=>false)) ?_ ?_ (z1_25 _ _ _)<;>rfl⟩,rfl⟩⟩⟩⟩⟩⟩⟩⟩⟩⟩⟩⟩⟩⟩⟩⟩⟩⟩⟩⟩⟩⟩⟩⟩⟩⟩,rfl⟩,rfl⟩⟩
theorem lifted (os:Os) (started:os.Started) (H:Type) (enc:TypeId×Value→H) :
  ReturnsInHanded {} Tryz.checked os 3 .any (Rows.messageSameSpec.pre6 enc Tryz.prog Tryz.f3 Rows.messageSameRow.domain false) (Rows.messageSameSpec.post enc Tryz.prog Tryz.f3 false true false false):=by
 refine returnsInHanded_of_change (C:=Tryz.checked) own started (by kernel_rfl) Tryz.func3
  (ChangeSpec.witness6 (enc:=enc) (C:=Tryz.checked) false ⟨#[],#[.agg #[.int .i64 0,.int .i64 0,.int .i64 0,.int .i64 0,.int .i64 0,.int .i64 0,.int .i64 0,.int .i64 0,.bool false,.int .i64 0,.int .i64 0,.int .i64 0,.int .i64 0,.int .i64 0,.int .i64 0,.int .i64 0,.int .u64 0,.int .i64 0,.slice none 0 0,.slice none 0 0,.slice none 0 0,.int .i64 0,.int .i64 0,.int .u64 0,.slice none 0 0,.slice none 0 0],.agg #[.int .i64 0,.int .i64 0,.int .i64 0,.int .i64 0,.int .i64 0,.int .i64 0,.int .i64 0,.int .i64 0,.bool false,.int .i64 0,.int .i64 0,.int .i64 0,.int .i64 0,.int .i64 0,.int .i64 0,.int .i64 0,.int .u64 0,.int .i64 0,.slice none 0 0,.slice none 0 0,.slice none 0 0,.int .i64 0,.int .i64 0,.int .u64 0,.slice none 0 0,.slice none 0 0]],[]⟩ 8 (by kernel_rfl) (by kernel_rfl) (by kernel_rfl) (by kernel_rfl)) ?_
 intro W base args ds gs before hval0 hW hcnd _
 have hval:∀ (j:Nat) t v,Tryz.f3.params[j]? = some t→args[j]? = some v→Value.okWide Tryz.prog W .any base t v:=hval0
 have hW':=hW
 obtain ⟨p,q,hA0,hV,rfl,hfz,hnd⟩:=hW
 have hA:DataW.TrodAll enc Tryz.prog W 0 (fun _=>true) true Tryz.f3.params.toList args.toList ds p:=hA0
 rw [Tryz.params3] at hA hval
 obtain ⟨v0,vs0,d0,ds0,p0,q0,hargs,rfl,rfl,h0,r0⟩:=trodAll_cons hA
 obtain ⟨v1,vs1,d1,ds1,p1,q1,rfl,rfl,rfl,h1,r1⟩:=trodAll_cons r0
 obtain ⟨rfl,rfl,rfl⟩:=trodAll_nil r1
 obtain rfl:args=#[v0,v1]:=by cases args;simp_all
 obtain ⟨rfl,rfl⟩:=trodVars_none hV
 rw [List.append_nil] at hW'
 obtain ⟨cs0,rfl,hl0,hc0⟩:=open_aggF kids (U:=Go.Sx.Mg.U) (V:=Go.Sx.Mg.V) (d:=6) (lay:=[.nt .i64,.nt .i64,.nt .i64,.nt .i64,.nt .i64,.nt .i64,.nt .i64,.nt .i64,.tv,.nt .i64,.nt .i64,.nt .i64,.nt .i64,.nt .i64,.nt .i64,.nt .i64,.nt .u64,.nt .i64,.fs 1,.fs 3,.fs 4,.nt .i64,.nt .i64,.nt .u64,.fs 8,.fs 4]) Tryz.underlying41 (by decide +kernel) (by kernel_rfl) (hval 0 41 v0 rfl rfl) h0
 obtain ⟨y0_0,e0_0,w0_0⟩:=ko_nt (hc0 0 (.nt .i64) rfl)
 obtain ⟨y0_1,e0_1,w0_1⟩:=ko_nt (hc0 1 (.nt .i64) rfl)
 obtain ⟨y0_2,e0_2,w0_2⟩:=ko_nt (hc0 2 (.nt .i64) rfl)
 obtain ⟨y0_3,e0_3,w0_3⟩:=ko_nt (hc0 3 (.nt .i64) rfl)
 obtain ⟨y0_4,e0_4,w0_4⟩:=ko_nt (hc0 4 (.nt .i64) rfl)
 obtain ⟨y0_5,e0_5,w0_5⟩:=ko_nt (hc0 5 (.nt .i64) rfl)
 obtain ⟨y0_6,e0_6,w0_6⟩:=ko_nt (hc0 6 (.nt .i64) rfl)
 obtain ⟨y0_7,e0_7,w0_7⟩:=ko_nt (hc0 7 (.nt .i64) rfl)
 obtain ⟨y0_8,e0_8⟩:=ko_tv (hc0 8 .tv rfl)
 obtain ⟨y0_9,e0_9,w0_9⟩:=ko_nt (hc0 9 (.nt .i64) rfl)
 obtain ⟨y0_10,e0_10,w0_10⟩:=ko_nt (hc0 10 (.nt .i64) rfl)
 obtain ⟨y0_11,e0_11,w0_11⟩:=ko_nt (hc0 11 (.nt .i64) rfl)
 obtain ⟨y0_12,e0_12,w0_12⟩:=ko_nt (hc0 12 (.nt .i64) rfl)
 obtain ⟨y0_13,e0_13,w0_13⟩:=ko_nt (hc0 13 (.nt .i64) rfl)
 obtain ⟨y0_14,e0_14,w0_14⟩:=ko_nt (hc0 14 (.nt .i64) rfl)
 obtain ⟨y0_15,e0_15,w0_15⟩:=ko_nt (hc0 15 (.nt .i64) rfl)
 obtain ⟨y0_16,e0_16,w0_16⟩:=ko_nt (hc0 16 (.nt .u64) rfl)
 obtain ⟨y0_17,e0_17,w0_17⟩:=ko_nt (hc0 17 (.nt .i64) rfl)
 obtain ⟨v0_18,y0_18,e0_18,m0_18,z0_18⟩:=ko_fsO (hc0 18 (.fs 1) rfl)
 obtain ⟨v0_19,y0_19,e0_19,m0_19,z0_19⟩:=ko_fsO (hc0 19 (.fs 3) rfl)
 obtain ⟨v0_20,y0_20,e0_20,m0_20,z0_20⟩:=ko_fsO (hc0 20 (.fs 4) rfl)
 obtain ⟨y0_21,e0_21,w0_21⟩:=ko_nt (hc0 21 (.nt .i64) rfl)
 obtain ⟨y0_22,e0_22,w0_22⟩:=ko_nt (hc0 22 (.nt .i64) rfl)
 obtain ⟨y0_23,e0_23,w0_23⟩:=ko_nt (hc0 23 (.nt .u64) rfl)
 obtain ⟨v0_24,y0_24,e0_24,m0_24,z0_24⟩:=ko_fsO (hc0 24 (.fs 8) rfl)
 obtain ⟨v0_25,y0_25,e0_25,m0_25,z0_25⟩:=ko_fsO (hc0 25 (.fs 4) rfl)
 obtain rfl:cs0=[.int .i64 y0_0,.int .i64 y0_1,.int .i64 y0_2,.int .i64 y0_3,.int .i64 y0_4,.int .i64 y0_5,.int .i64 y0_6,.int .i64 y0_7,.bool y0_8,.int .i64 y0_9,.int .i64 y0_10,.int .i64 y0_11,.int .i64 y0_12,.int .i64 y0_13,.int .i64 y0_14,.int .i64 y0_15,.int .u64 y0_16,.int .i64 y0_17,v0_18,v0_19,v0_20,.int .i64 y0_21,.int .i64 y0_22,.int .u64 y0_23,v0_24,v0_25]:=list_of_get hl0 (fun f u hu=>by
  match f,hu with
  | 0,hu=>cases hu;exact e0_0
  | 1,hu=>cases hu;exact e0_1
  | 2,hu=>cases hu;exact e0_2
  | 3,hu=>cases hu;exact e0_3
  | 4,hu=>cases hu;exact e0_4
  | 5,hu=>cases hu;exact e0_5
  | 6,hu=>cases hu;exact e0_6
  | 7,hu=>cases hu;exact e0_7
  | 8,hu=>cases hu;exact e0_8
  | 9,hu=>cases hu;exact e0_9
  | 10,hu=>cases hu;exact e0_10
  | 11,hu=>cases hu;exact e0_11
  | 12,hu=>cases hu;exact e0_12
  | 13,hu=>cases hu;exact e0_13
  | 14,hu=>cases hu;exact e0_14
  | 15,hu=>cases hu;exact e0_15
  | 16,hu=>cases hu;exact e0_16
  | 17,hu=>cases hu;exact e0_17
  | 18,hu=>cases hu;exact e0_18
  | 19,hu=>cases hu;exact e0_19
  | 20,hu=>cases hu;exact e0_20
  | 21,hu=>cases hu;exact e0_21
  | 22,hu=>cases hu;exact e0_22
  | 23,hu=>cases hu;exact e0_23
  | 24,hu=>cases hu;exact e0_24
  | 25,hu=>cases hu;exact e0_25
  | f+26,hu=>simp at hu)
 obtain ⟨cs1,rfl,hl1,hc1⟩:=open_aggF kids (U:=Go.Sx.Mg.U) (V:=Go.Sx.Mg.V) (d:=6) (lay:=[.nt .i64,.nt .i64,.nt .i64,.nt .i64,.nt .i64,.nt .i64,.nt .i64,.nt .i64,.tv,.nt .i64,.nt .i64,.nt .i64,.nt .i64,.nt .i64,.nt .i64,.nt .i64,.nt .u64,.nt .i64,.fs 1,.fs 3,.fs 4,.nt .i64,.nt .i64,.nt .u64,.fs 8,.fs 4]) Tryz.underlying41 (by decide +kernel) (by kernel_rfl) (hval 1 41 v1 rfl rfl) h1
 obtain ⟨y1_0,e1_0,w1_0⟩:=ko_nt (hc1 0 (.nt .i64) rfl)
 obtain ⟨y1_1,e1_1,w1_1⟩:=ko_nt (hc1 1 (.nt .i64) rfl)
 obtain ⟨y1_2,e1_2,w1_2⟩:=ko_nt (hc1 2 (.nt .i64) rfl)
 obtain ⟨y1_3,e1_3,w1_3⟩:=ko_nt (hc1 3 (.nt .i64) rfl)
 obtain ⟨y1_4,e1_4,w1_4⟩:=ko_nt (hc1 4 (.nt .i64) rfl)
 obtain ⟨y1_5,e1_5,w1_5⟩:=ko_nt (hc1 5 (.nt .i64) rfl)
 obtain ⟨y1_6,e1_6,w1_6⟩:=ko_nt (hc1 6 (.nt .i64) rfl)
 obtain ⟨y1_7,e1_7,w1_7⟩:=ko_nt (hc1 7 (.nt .i64) rfl)
 obtain ⟨y1_8,e1_8⟩:=ko_tv (hc1 8 .tv rfl)
 obtain ⟨y1_9,e1_9,w1_9⟩:=ko_nt (hc1 9 (.nt .i64) rfl)
 obtain ⟨y1_10,e1_10,w1_10⟩:=ko_nt (hc1 10 (.nt .i64) rfl)
 obtain ⟨y1_11,e1_11,w1_11⟩:=ko_nt (hc1 11 (.nt .i64) rfl)
 obtain ⟨y1_12,e1_12,w1_12⟩:=ko_nt (hc1 12 (.nt .i64) rfl)
 obtain ⟨y1_13,e1_13,w1_13⟩:=ko_nt (hc1 13 (.nt .i64) rfl)
 obtain ⟨y1_14,e1_14,w1_14⟩:=ko_nt (hc1 14 (.nt .i64) rfl)
 obtain ⟨y1_15,e1_15,w1_15⟩:=ko_nt (hc1 15 (.nt .i64) rfl)
 obtain ⟨y1_16,e1_16,w1_16⟩:=ko_nt (hc1 16 (.nt .u64) rfl)
 obtain ⟨y1_17,e1_17,w1_17⟩:=ko_nt (hc1 17 (.nt .i64) rfl)
 obtain ⟨v1_18,y1_18,e1_18,m1_18,z1_18⟩:=ko_fsO (hc1 18 (.fs 1) rfl)
 obtain ⟨v1_19,y1_19,e1_19,m1_19,z1_19⟩:=ko_fsO (hc1 19 (.fs 3) rfl)
 obtain ⟨v1_20,y1_20,e1_20,m1_20,z1_20⟩:=ko_fsO (hc1 20 (.fs 4) rfl)
 obtain ⟨y1_21,e1_21,w1_21⟩:=ko_nt (hc1 21 (.nt .i64) rfl)
 obtain ⟨y1_22,e1_22,w1_22⟩:=ko_nt (hc1 22 (.nt .i64) rfl)
 obtain ⟨y1_23,e1_23,w1_23⟩:=ko_nt (hc1 23 (.nt .u64) rfl)
 obtain ⟨v1_24,y1_24,e1_24,m1_24,z1_24⟩:=ko_fsO (hc1 24 (.fs 8) rfl)
 obtain ⟨v1_25,y1_25,e1_25,m1_25,z1_25⟩:=ko_fsO (hc1 25 (.fs 4) rfl)
 obtain rfl:cs1=[.int .i64 y1_0,.int .i64 y1_1,.int .i64 y1_2,.int .i64 y1_3,.int .i64 y1_4,.int .i64 y1_5,.int .i64 y1_6,.int .i64 y1_7,.bool y1_8,.int .i64 y1_9,.int .i64 y1_10,.int .i64 y1_11,.int .i64 y1_12,.int .i64 y1_13,.int .i64 y1_14,.int .i64 y1_15,.int .u64 y1_16,.int .i64 y1_17,v1_18,v1_19,v1_20,.int .i64 y1_21,.int .i64 y1_22,.int .u64 y1_23,v1_24,v1_25]:=list_of_get hl1 (fun f u hu=>by
  match f,hu with
  | 0,hu=>cases hu;exact e1_0
  | 1,hu=>cases hu;exact e1_1
  | 2,hu=>cases hu;exact e1_2
  | 3,hu=>cases hu;exact e1_3
  | 4,hu=>cases hu;exact e1_4
  | 5,hu=>cases hu;exact e1_5
  | 6,hu=>cases hu;exact e1_6
  | 7,hu=>cases hu;exact e1_7
  | 8,hu=>cases hu;exact e1_8
  | 9,hu=>cases hu;exact e1_9
  | 10,hu=>cases hu;exact e1_10
  | 11,hu=>cases hu;exact e1_11
  | 12,hu=>cases hu;exact e1_12
  | 13,hu=>cases hu;exact e1_13
  | 14,hu=>cases hu;exact e1_14
  | 15,hu=>cases hu;exact e1_15
  | 16,hu=>cases hu;exact e1_16
  | 17,hu=>cases hu;exact e1_17
  | 18,hu=>cases hu;exact e1_18
  | 19,hu=>cases hu;exact e1_19
  | 20,hu=>cases hu;exact e1_20
  | 21,hu=>cases hu;exact e1_21
  | 22,hu=>cases hu;exact e1_22
  | 23,hu=>cases hu;exact e1_23
  | 24,hu=>cases hu;exact e1_24
  | 25,hu=>cases hu;exact e1_25
  | f+26,hu=>simp at hu)
 refine (walk W w0_0 w0_1 w0_2 w0_3 w0_4 w0_5 w0_6 w0_7 w0_9 w0_10 w0_11 w0_12 w0_13 w0_14 w0_15 w0_16 w0_17 m0_18 z0_18 m0_19 z0_19 m0_20 z0_20 w0_21 w0_22 w0_23 m0_24 z0_24 m0_25 z0_25 w1_0 w1_1 w1_2 w1_3 w1_4 w1_5 w1_6 w1_7 w1_9 w1_10 w1_11 w1_12 w1_13 w1_14 w1_15 w1_16 w1_17 m1_18 z1_18 m1_19 z1_19 m1_20 z1_20 w1_21 w1_22 w1_23 m1_24 z1_24 m1_25 z1_25).mono fun e W' hh=>?_
 obtain ⟨he,hb⟩:=hh
 subst he
 exact ⟨_,rfl,law_post laid rowed full (by kernel_rfl) rfl (by kernel_rfl) Tryz.underlying4 hW' hA0 rfl hb⟩
theorem proved:Rows.MessageSameSaid:=
 OpenClaim.holds_of_wide 3 Tryz.f3 rfl rfl rfl rfl rfl rfl rfl ⟨rfl,rfl,rfl,rfl,rfl⟩ rfl rfl rfl rfl rfl (by kernel_rfl) Tryz.func3 (by kernel_rfl)
  (of_decide_eq_true (by kernel_rfl)) (by unfold Func.isWrapper;first | (rw [if_pos (by decide +kernel)];kernel_rfl) | (rw [if_neg (by decide +kernel)];exact ⟨rfl,rfl⟩))
  (fun os started H enc _=>lifted os started H enc)
#print axioms proved
end Go.Proofs.YtljfkplkdeinmaaGreat.MessageSame
