/- Timers: the document's at no list, by contract. -/
import Derived.Test.YtkhklaomjcgjcaaTiT
namespace Go.Sx.Ti
set_option linter.unusedVariables false
set_option linter.unusedSimpArgs false
set_option maxRecDepth 100000
set_option maxHeartbeats 0
noncomputable section
open Go Go.Sx Go.Proofs
def qN:SV:=.ag [.it .i64 (.v 0),.sn]
def oN (cs:List (SB×Bool)) (n:Int):Out:=⟨cs,.tp [qN,.it .i64 (.c n)],[],0,0,[]⟩
def ngT:SB×Bool:=(.lt (.v 1) (.c 0),true)
def ngF:SB×Bool:=(.lt (.v 1) (.c 0),false)
def agF:SB×Bool:=(.lt (.v 2) (.c 0),false)
def nwN:SI:=.op .imin (.op .add (.v 0) (.c 1)) (.c 1099511627776)
def rFind0:Con:=⟨38,[0,1],[qN,.it .i64 (.v 1)],[],i64s [0,1],[],o1 (.it .i64 (.c (-1)))⟩
def rCancel0:Con:=⟨36,[0,1],[qN,.it .i64 (.v 1)],[],i64s [0,1],[],[oN [ngT] 2,oN [ngF] 5]⟩
def rTick0:Con:=⟨37,[0],[qN],[],[(0,0,1099511627776)],[],o1 (.tp [.ag [.it .i64 nwN,.sn],.sn])⟩
def rArm0:Con:=⟨35,[0,1,2],[qN,.it .i64 (.v 1),.it .i64 (.v 2)],[],i64s [0,1,2],[],
 [oN [ngT] 2,oN [ngF,(.lt (.v 2) (.c 0),true)] 2,oN [ngF,agF,(.le (.v 2) (.c 1099511627776),false)] 2,
  ⟨[ngF,agF,(.le (.v 2) (.c 1099511627776),true)],.tp [.ag [.it .i64 (.v 0),.sl (.n 0) (.c 0) (.c 1) (.d 0)],.it .i64 (.c 0)],[(0,.arr kT (.ap 25 (.c 0) (.c 0) (.c 0) (.v 1) (.v 2) (.c 0)) (.c 1) 62 (.d 0))],1,1,[(.le (.c 1) (.d 0),true)]⟩]⟩
theorem ins_0 {k a:Int} (hk:in64 k) (ha:in64 a):fl (insT 0 0 0 k a) 0 0=k∧fl (insT 0 0 0 k a) 0 1=a:=by
 rw [fl_ins hk ha (by omega) (by omega),fl_ins hk ha (by omega) (by omega)];simp
def rFind0_L0:List Lf:=
 [(.fin ([]) 0 ⟨⟨[],[]⟩,[],[],[]⟩ [] [])]
def rFind0_run (T:Tm):=(ex (ccOf Try.prog BF [62,32] rFind0) ((fun _=>[]) (ccOf Try.prog BF [62,32] rFind0)) (dw (ccOf Try.prog BF [62,32] rFind0) ((fun _=>[]) (ccOf Try.prog BF [62,32] rFind0)) 1000 4) (stopX [38]) 4000 T.f T.fs T.H).lfs (ccOf Try.prog BF [62,32] rFind0) ((tm0 rFind0 Try.f38 (Try.f38.body.getD .skip))::[]) rFind0.os
theorem rFind0_h0:rFind0_run (tm0 rFind0 Try.f38 (Try.f38.body.getD .skip))=some rFind0_L0:=by kernel_rfl
def rFind0_inv:(Nat→Int)→(Nat→Bool)→Nat→(Nat→Int)→(Nat→Bool)→Prop:=fun _ _ _ _ _=>True
def rFind0_mu:(Nat→Int)→(Nat→Bool)→Nat→(Nat→Int)→(Nat→Bool)→Nat:=fun _ _ _ _ _=>0
theorem rFind0_b {iv0:Nat→Int} (hin:InB rFind0.B iv0):((-9223372036854775808)≤iv0 0∧iv0 0≤9223372036854775807)∧((-9223372036854775808)≤iv0 1∧iv0 1≤9223372036854775807):=by
 have b0:=hin 0 (-9223372036854775808) 9223372036854775807 (by simp [rFind0,kI,kT,i64b,i64s,lmap,qN,oN,ngT,ngF,agF,nwN])
 simp only [Int.reduceLE,reduceIte,Int.reduceNeg] at b0
 have b1:=hin 1 (-9223372036854775808) 9223372036854775807 (by simp [rFind0,kI,kT,i64b,i64s,lmap,qN,oN,ngT,ngF,agF,nwN])
 simp only [Int.reduceLE,reduceIte,Int.reduceNeg] at b1
 exact ⟨b0,b1⟩
def rFind0_ob (k:Nat) (l:List Lf):Prop:=∀ (kv:Kv) (iv0:Nat→Int) (bv0:Nat→Bool),InB rFind0.B iv0→FT (sta FI FB kv iv0 bv0) (dlt dyn0) rFind0.F→∀ (iv:Nat→Int) (bv:Nat→Bool),Agr 2 iv0 bv0 iv bv→rFind0_inv iv0 bv0 k iv bv→∀ lf∈l,LfT (sta FI FB kv) rFind0.os (rFind0_inv iv0 bv0) (rFind0_mu iv0 bv0) k iv bv lf
theorem rFind0_o0:rFind0_ob 0 rFind0_L0:=by
 intro kv iv0 bv0 hin hF iv bv ha hi
 unfold rFind0_L0
 refine List.forall_mem_cons.2 ⟨?_,List.forall_mem_nil _⟩
 all_goals
  intro δ hf
 all_goals
  obtain ⟨b0,b1⟩:=rFind0_b hin
 all_goals
  have a0:=ha.1 0 (by omega)
  have a1:=ha.1 1 (by omega)
 all_goals
  simp only [FT,TP,SB.tp,SI.tv,sta,IB.eval,and_true,true_and,ObsT,Ob.Tv,rowT,kix,In.tiv,↓tbvT,In.tbv,get_cons,get_nil,reduceIte,Nat.reduceEqDiff,Int.reduceToNat,Int.reduceAdd,Int.reduceSub,Int.reduceLE,Int.reduceLT,Int.reduceEq,ne_eq,Bool.false_eq_true,not_true_eq_false,not_false_eq_true,true_iff,false_iff,iff_true,iff_false,false_implies,implies_true,decT,decide_true,decide_false,Bool.decide_eq_true,ap2,pb2,FI_3,FI_8,FI_9,FI_3g,FI_3k,FI_8s,FI_8l,FI_8d,FB_1h,FB_1a,Int.toNat_natCast,Int.toNat_zero,rFind0_inv,rFind0_mu,rFind0,o1,othT,kI,kT,i64b,i64s,lmap,qN,oN,ngT,ngF,agF,nwN,a0,a1] at hf hi ⊢
 all_goals
  (repeat' (with_reducible apply And.intro))<;>first
  | omega
  | assumption
  | (unfold inM;omega)
  | exact trivial
  | (clear hin hF ha;grind)
theorem rFind0_c:LsC ((tm0 rFind0 Try.f38 (Try.f38.body.getD .skip))::[]) rFind0.os [rFind0_L0]:=by
 unfold rFind0_L0
 exact ⟨List.forall_mem_cons.2 ⟨⟨⟨_,rfl,rfl⟩,by kernel_rfl⟩,List.forall_mem_nil _⟩,trivial⟩
theorem rFind0_ok:rFind0.Ok Try.prog FI FB:=
 Con.of_plain (body:=Try.f38.body.getD .skip) pok fiok EntsFor.nil rFind0 Try.func38 (by kernel_rfl) 2 [] (by kernel_rfl) [rFind0_L0] ⟨rFind0_h0,trivial⟩ rFind0_c
  rFind0_inv rFind0_mu (fun _ _ _=>trivial) fun kv iv0 bv0 hin hF k l iv bv hk ha hi=>match k,hk,hi with
  | 0,hk,hi=>by
    cases hk
    exact rFind0_o0 kv iv0 bv0 hin hF iv bv ha hi
  | k+1,hk,_=>by simp at hk
def rCancel0_L0:List Lf:=
 [(.fin ([((.lt (.v 1) (.c 0)),.true)]) 0 ⟨⟨[],[]⟩,[],[],[]⟩ [] []),
  (.fin ([((.lt (.v 1) (.c 0)),.false)]) 1 ⟨⟨[],[]⟩,[],[],[]⟩ [] [])]
def rCancel0_run (T:Tm):=(ex (ccOf Try.prog BF [62,32] rCancel0) ((fun cc=>[rFind0.ent cc]) (ccOf Try.prog BF [62,32] rCancel0)) (dw (ccOf Try.prog BF [62,32] rCancel0) ((fun cc=>[rFind0.ent cc]) (ccOf Try.prog BF [62,32] rCancel0)) 1000 4) (stopX [35,36,37,38]) 4000 T.f T.fs T.H).lfs (ccOf Try.prog BF [62,32] rCancel0) ((tm0 rCancel0 Try.f36 (Try.f36.body.getD .skip))::[]) rCancel0.os
theorem rCancel0_h0:rCancel0_run (tm0 rCancel0 Try.f36 (Try.f36.body.getD .skip))=some rCancel0_L0:=by kernel_rfl
def rCancel0_inv:(Nat→Int)→(Nat→Bool)→Nat→(Nat→Int)→(Nat→Bool)→Prop:=fun _ _ _ _ _=>True
def rCancel0_mu:(Nat→Int)→(Nat→Bool)→Nat→(Nat→Int)→(Nat→Bool)→Nat:=fun _ _ _ _ _=>0
theorem rCancel0_b {iv0:Nat→Int} (hin:InB rCancel0.B iv0):((-9223372036854775808)≤iv0 0∧iv0 0≤9223372036854775807)∧((-9223372036854775808)≤iv0 1∧iv0 1≤9223372036854775807):=by
 have b0:=hin 0 (-9223372036854775808) 9223372036854775807 (by simp [rCancel0,kI,kT,i64b,i64s,lmap,qN,oN,ngT,ngF,agF,nwN])
 simp only [Int.reduceLE,reduceIte,Int.reduceNeg] at b0
 have b1:=hin 1 (-9223372036854775808) 9223372036854775807 (by simp [rCancel0,kI,kT,i64b,i64s,lmap,qN,oN,ngT,ngF,agF,nwN])
 simp only [Int.reduceLE,reduceIte,Int.reduceNeg] at b1
 exact ⟨b0,b1⟩
def rCancel0_ob (k:Nat) (l:List Lf):Prop:=∀ (kv:Kv) (iv0:Nat→Int) (bv0:Nat→Bool),InB rCancel0.B iv0→FT (sta FI FB kv iv0 bv0) (dlt dyn0) rCancel0.F→∀ (iv:Nat→Int) (bv:Nat→Bool),Agr 2 iv0 bv0 iv bv→rCancel0_inv iv0 bv0 k iv bv→∀ lf∈l,LfT (sta FI FB kv) rCancel0.os (rCancel0_inv iv0 bv0) (rCancel0_mu iv0 bv0) k iv bv lf
theorem rCancel0_o0:rCancel0_ob 0 rCancel0_L0:=by
 intro kv iv0 bv0 hin hF iv bv ha hi
 unfold rCancel0_L0
 refine List.forall_mem_cons.2 ⟨?_,List.forall_mem_cons.2 ⟨?_,List.forall_mem_nil _⟩⟩
 all_goals
  intro δ hf
 all_goals
  obtain ⟨b0,b1⟩:=rCancel0_b hin
 all_goals
  have a0:=ha.1 0 (by omega)
  have a1:=ha.1 1 (by omega)
 all_goals
  simp only [FT,TP,SB.tp,SI.tv,sta,IB.eval,and_true,true_and,ObsT,Ob.Tv,rowT,kix,In.tiv,↓tbvT,In.tbv,get_cons,get_nil,reduceIte,Nat.reduceEqDiff,Int.reduceToNat,Int.reduceAdd,Int.reduceSub,Int.reduceLE,Int.reduceLT,Int.reduceEq,ne_eq,Bool.false_eq_true,not_true_eq_false,not_false_eq_true,true_iff,false_iff,iff_true,iff_false,false_implies,implies_true,decT,decide_true,decide_false,Bool.decide_eq_true,ap2,pb2,FI_3,FI_8,FI_9,FI_3g,FI_3k,FI_8s,FI_8l,FI_8d,FB_1h,FB_1a,Int.toNat_natCast,Int.toNat_zero,rCancel0_inv,rCancel0_mu,rCancel0,o1,othT,kI,kT,i64b,i64s,lmap,qN,oN,ngT,ngF,agF,nwN,a0,a1] at hf hi ⊢
 all_goals
  (repeat' (with_reducible apply And.intro))<;>first
  | omega
  | assumption
  | (unfold inM;omega)
  | exact trivial
  | (clear hin hF ha;grind)
theorem rCancel0_c:LsC ((tm0 rCancel0 Try.f36 (Try.f36.body.getD .skip))::[]) rCancel0.os [rCancel0_L0]:=by
 unfold rCancel0_L0
 exact ⟨List.forall_mem_cons.2 ⟨⟨⟨_,rfl,rfl⟩,by kernel_rfl⟩,List.forall_mem_cons.2 ⟨⟨⟨_,rfl,rfl⟩,by kernel_rfl⟩,List.forall_mem_nil _⟩⟩,trivial⟩
theorem rCancel0_ok:rCancel0.Ok Try.prog FI FB:=
 Con.of_plain (body:=Try.f36.body.getD .skip) pok fiok (EntsFor.cons rFind0_ok EntsFor.nil) rCancel0 Try.func36 (by kernel_rfl) 2 [] (by kernel_rfl) [rCancel0_L0] ⟨rCancel0_h0,trivial⟩ rCancel0_c
  rCancel0_inv rCancel0_mu (fun _ _ _=>trivial) fun kv iv0 bv0 hin hF k l iv bv hk ha hi=>match k,hk,hi with
  | 0,hk,hi=>by
    cases hk
    exact rCancel0_o0 kv iv0 bv0 hin hF iv bv ha hi
  | k+1,hk,_=>by simp at hk
def rTick0_L0:List Lf:=
 [(.fin ([]) 0 ⟨⟨[],[]⟩,[],[],[]⟩ [] [])]
def rTick0_run (T:Tm):=(ex (ccOf Try.prog BF [62,32] rTick0) ((fun cc=>[rFind0.ent cc]) (ccOf Try.prog BF [62,32] rTick0)) (dw (ccOf Try.prog BF [62,32] rTick0) ((fun cc=>[rFind0.ent cc]) (ccOf Try.prog BF [62,32] rTick0)) 1000 4) (stopX [35,36,37,38]) 4000 T.f T.fs T.H).lfs (ccOf Try.prog BF [62,32] rTick0) ((tm0 rTick0 Try.f37 (Try.f37.body.getD .skip))::[]) rTick0.os
theorem rTick0_h0:rTick0_run (tm0 rTick0 Try.f37 (Try.f37.body.getD .skip))=some rTick0_L0:=by kernel_rfl
def rTick0_inv:(Nat→Int)→(Nat→Bool)→Nat→(Nat→Int)→(Nat→Bool)→Prop:=fun _ _ _ _ _=>True
def rTick0_mu:(Nat→Int)→(Nat→Bool)→Nat→(Nat→Int)→(Nat→Bool)→Nat:=fun _ _ _ _ _=>0
theorem rTick0_b {iv0:Nat→Int} (hin:InB rTick0.B iv0):(0≤iv0 0∧iv0 0≤1099511627776):=by
 have b0:=hin 0 0 1099511627776 (by simp [rTick0,kI,kT,i64b,i64s,lmap,qN,oN,ngT,ngF,agF,nwN])
 simp only [Int.reduceLE,reduceIte,Int.reduceNeg] at b0
 exact b0
def rTick0_ob (k:Nat) (l:List Lf):Prop:=∀ (kv:Kv) (iv0:Nat→Int) (bv0:Nat→Bool),InB rTick0.B iv0→FT (sta FI FB kv iv0 bv0) (dlt dyn0) rTick0.F→∀ (iv:Nat→Int) (bv:Nat→Bool),Agr 1 iv0 bv0 iv bv→rTick0_inv iv0 bv0 k iv bv→∀ lf∈l,LfT (sta FI FB kv) rTick0.os (rTick0_inv iv0 bv0) (rTick0_mu iv0 bv0) k iv bv lf
theorem rTick0_o0:rTick0_ob 0 rTick0_L0:=by
 intro kv iv0 bv0 hin hF iv bv ha hi
 unfold rTick0_L0
 refine List.forall_mem_cons.2 ⟨?_,List.forall_mem_nil _⟩
 all_goals
  intro δ hf
 all_goals
  have b0:=rTick0_b hin
 all_goals
  have a0:=ha.1 0 (by omega)
 all_goals
  simp only [FT,TP,SB.tp,SI.tv,sta,IB.eval,and_true,true_and,ObsT,Ob.Tv,rowT,kix,In.tiv,↓tbvT,In.tbv,get_cons,get_nil,reduceIte,Nat.reduceEqDiff,Int.reduceToNat,Int.reduceAdd,Int.reduceSub,Int.reduceLE,Int.reduceLT,Int.reduceEq,ne_eq,Bool.false_eq_true,not_true_eq_false,not_false_eq_true,true_iff,false_iff,iff_true,iff_false,false_implies,implies_true,decT,decide_true,decide_false,Bool.decide_eq_true,ap2,pb2,FI_3,FI_8,FI_9,FI_3g,FI_3k,FI_8s,FI_8l,FI_8d,FB_1h,FB_1a,Int.toNat_natCast,Int.toNat_zero,rTick0_inv,rTick0_mu,rTick0,o1,othT,kI,kT,i64b,i64s,lmap,qN,oN,ngT,ngF,agF,nwN,a0] at hf hi ⊢
 all_goals
  (repeat' (with_reducible apply And.intro))<;>first
  | omega
  | assumption
  | (unfold inM;omega)
  | exact trivial
  | (clear hin hF ha;grind)
theorem rTick0_c:LsC ((tm0 rTick0 Try.f37 (Try.f37.body.getD .skip))::[]) rTick0.os [rTick0_L0]:=by
 unfold rTick0_L0
 exact ⟨List.forall_mem_cons.2 ⟨⟨⟨_,rfl,rfl⟩,by kernel_rfl⟩,List.forall_mem_nil _⟩,trivial⟩
theorem rTick0_ok:rTick0.Ok Try.prog FI FB:=
 Con.of_plain (body:=Try.f37.body.getD .skip) pok fiok (EntsFor.cons rFind0_ok EntsFor.nil) rTick0 Try.func37 (by kernel_rfl) 1 [] (by kernel_rfl) [rTick0_L0] ⟨rTick0_h0,trivial⟩ rTick0_c
  rTick0_inv rTick0_mu (fun _ _ _=>trivial) fun kv iv0 bv0 hin hF k l iv bv hk ha hi=>match k,hk,hi with
  | 0,hk,hi=>by
    cases hk
    exact rTick0_o0 kv iv0 bv0 hin hF iv bv ha hi
  | k+1,hk,_=>by simp at hk
def rArm0_L0:List Lf:=
 let f0_:List (SB×Bool):=[((.le (.c 0) (.v 2)),.true),((.lt (.v 1) (.c 0)),.false)]
 [(.fin ([((.lt (.v 1) (.c 0)),.true)]) 0 ⟨⟨[],[]⟩,[],[],[]⟩ [] []),
  (.fin (((.le (.c 1) (.d 0)),.true)::((.le (.v 2) (.c 1099511627776)),.true)::f0_) 3 ⟨⟨[],[]⟩,[(0,4)],[(0,(.d 0))],[]⟩ [(.ar [(.nt .i64),(.nt .i64)] (.ap 25 (.c 0) (.c 0) (.c 0) (.v 1) (.v 2) (.c 0)) (.ap 8 (.ap 8 (.c 0) (.c 0) (.c 0) (.v 1) (.c 0) (.c 0)) (.c 0) (.c 1) (.v 2) (.c 0) (.c 0)) (.c 1))] [.none]),
  (.fin (((.le (.v 2) (.c 1099511627776)),.false)::f0_) 2 ⟨⟨[],[]⟩,[],[],[]⟩ [] []),
  (.fin ([((.le (.c 0) (.v 2)),.false),((.lt (.v 1) (.c 0)),.false)]) 1 ⟨⟨[],[]⟩,[],[],[]⟩ [] [])]
def rArm0_run (T:Tm):=(ex (ccOf Try.prog BF [62,32] rArm0) ((fun cc=>[rFind0.ent cc]) (ccOf Try.prog BF [62,32] rArm0)) (dw (ccOf Try.prog BF [62,32] rArm0) ((fun cc=>[rFind0.ent cc]) (ccOf Try.prog BF [62,32] rArm0)) 1000 4) (stopX [35,36,37,38]) 4000 T.f T.fs T.H).lfs (ccOf Try.prog BF [62,32] rArm0) ((tm0 rArm0 Try.f35 (Try.f35.body.getD .skip))::[]) rArm0.os
theorem rArm0_h0:rArm0_run (tm0 rArm0 Try.f35 (Try.f35.body.getD .skip))=some rArm0_L0:=by kernel_rfl
def rArm0_inv:(Nat→Int)→(Nat→Bool)→Nat→(Nat→Int)→(Nat→Bool)→Prop:=fun _ _ _ _ _=>True
def rArm0_mu:(Nat→Int)→(Nat→Bool)→Nat→(Nat→Int)→(Nat→Bool)→Nat:=fun _ _ _ _ _=>0
theorem rArm0_b {iv0:Nat→Int} (hin:InB rArm0.B iv0):((-9223372036854775808)≤iv0 0∧iv0 0≤9223372036854775807)∧((-9223372036854775808)≤iv0 1∧iv0 1≤9223372036854775807)∧((-9223372036854775808)≤iv0 2∧iv0 2≤9223372036854775807):=by
 have b0:=hin 0 (-9223372036854775808) 9223372036854775807 (by simp [rArm0,kI,kT,i64b,i64s,lmap,qN,oN,ngT,ngF,agF,nwN])
 simp only [Int.reduceLE,reduceIte,Int.reduceNeg] at b0
 have b1:=hin 1 (-9223372036854775808) 9223372036854775807 (by simp [rArm0,kI,kT,i64b,i64s,lmap,qN,oN,ngT,ngF,agF,nwN])
 simp only [Int.reduceLE,reduceIte,Int.reduceNeg] at b1
 have b2:=hin 2 (-9223372036854775808) 9223372036854775807 (by simp [rArm0,kI,kT,i64b,i64s,lmap,qN,oN,ngT,ngF,agF,nwN])
 simp only [Int.reduceLE,reduceIte,Int.reduceNeg] at b2
 exact ⟨b0,b1,b2⟩
def rArm0_ob (k:Nat) (l:List Lf):Prop:=∀ (kv:Kv) (iv0:Nat→Int) (bv0:Nat→Bool),InB rArm0.B iv0→FT (sta FI FB kv iv0 bv0) (dlt dyn0) rArm0.F→∀ (iv:Nat→Int) (bv:Nat→Bool),Agr 3 iv0 bv0 iv bv→rArm0_inv iv0 bv0 k iv bv→∀ lf∈l,LfT (sta FI FB kv) rArm0.os (rArm0_inv iv0 bv0) (rArm0_mu iv0 bv0) k iv bv lf
theorem rArm0_o0:rArm0_ob 0 rArm0_L0:=by
 intro kv iv0 bv0 hin hF iv bv ha hi
 unfold rArm0_L0
 refine List.forall_mem_cons.2 ⟨?_,List.forall_mem_cons.2 ⟨?_,List.forall_mem_cons.2 ⟨?_,List.forall_mem_cons.2 ⟨?_,List.forall_mem_nil _⟩⟩⟩⟩
 all_goals
  intro δ hf
 all_goals
  obtain ⟨b0,b1,b2⟩:=rArm0_b hin
 all_goals
  have a0:=ha.1 0 (by omega)
  have a1:=ha.1 1 (by omega)
  have a2:=ha.1 2 (by omega)
 all_goals
  simp only [FT,TP,SB.tp,SI.tv,sta,IB.eval,and_true,true_and,ObsT,Ob.Tv,rowT,kix,In.tiv,↓tbvT,In.tbv,get_cons,get_nil,reduceIte,Nat.reduceEqDiff,Int.reduceToNat,Int.reduceAdd,Int.reduceSub,Int.reduceLE,Int.reduceLT,Int.reduceEq,ne_eq,Bool.false_eq_true,not_true_eq_false,not_false_eq_true,true_iff,false_iff,iff_true,iff_false,false_implies,implies_true,decT,decide_true,decide_false,Bool.decide_eq_true,ap2,pb2,FI_3,FI_8,FI_9,FI_3g,FI_3k,FI_8s,FI_8l,FI_8d,FB_1h,FB_1a,Int.toNat_natCast,Int.toNat_zero,FI_25,rArm0_inv,rArm0_mu,rArm0,o1,othT,kI,kT,i64b,i64s,lmap,qN,oN,ngT,ngF,agF,nwN,a0,a1,a2] at hf hi ⊢
 all_goals
  have h0:=ins_0 (k:=iv0 1) (a:=iv0 2) b1 b2
 all_goals
  (repeat' (with_reducible apply And.intro))<;>first
  | omega
  | assumption
  | (unfold inM;omega)
  | exact trivial
  | (intro j hj;have e:j=0:=(by omega);subst e;rw [h0.1,h0.2,fl_set2 _ _ _ _ b1 b2 _ _ (by omega),fl_set2 _ _ _ _ b1 b2 _ _ (by omega)];simp)
  | (clear hin hF ha;grind)
theorem rArm0_c:LsC ((tm0 rArm0 Try.f35 (Try.f35.body.getD .skip))::[]) rArm0.os [rArm0_L0]:=by
 unfold rArm0_L0
 exact ⟨List.forall_mem_cons.2 ⟨⟨⟨_,rfl,rfl⟩,by kernel_rfl⟩,List.forall_mem_cons.2 ⟨⟨⟨_,rfl,rfl⟩,by kernel_rfl⟩,List.forall_mem_cons.2 ⟨⟨⟨_,rfl,rfl⟩,by kernel_rfl⟩,List.forall_mem_cons.2 ⟨⟨⟨_,rfl,rfl⟩,by kernel_rfl⟩,List.forall_mem_nil _⟩⟩⟩⟩,trivial⟩
theorem rArm0_ok:rArm0.Ok Try.prog FI FB:=
 Con.of_plain (body:=Try.f35.body.getD .skip) pok fiok (EntsFor.cons rFind0_ok EntsFor.nil) rArm0 Try.func35 (by kernel_rfl) 3 [] (by kernel_rfl) [rArm0_L0] ⟨rArm0_h0,trivial⟩ rArm0_c
  rArm0_inv rArm0_mu (fun _ _ _=>trivial) fun kv iv0 bv0 hin hF k l iv bv hk ha hi=>match k,hk,hi with
  | 0,hk,hi=>by
    cases hk
    exact rArm0_o0 kv iv0 bv0 hin hF iv bv ha hi
  | k+1,hk,_=>by simp at hk
end
end Go.Sx.Ti
