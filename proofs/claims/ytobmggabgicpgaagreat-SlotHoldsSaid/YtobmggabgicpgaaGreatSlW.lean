/- Slots: the example that all statements run. -/
import Derived.Test.YtobmggabgicpgaaGreatSlC
import Derived.Test.YtobmggabgicpgaaGreatSlNa
namespace Go.Sx.Sl
set_option linter.unusedVariables false
set_option linter.unusedSimpArgs false
set_option maxRecDepth 100000
set_option maxHeartbeats 0
noncomputable section
open Go Go.Sx Go.Sx.Ti Go.Proofs
def w0:SI:=.c 0
def w1:SI:=stS (stS (stS (stS (stS (stS (stS (stS w0 (.c 0) (.c 0) (.c 1)) (.c 0) (.c 1) (.c 1)) (.c 0) (.c 2) (.c 3)) (.c 0) (.c 3) (.c 1)) (.c 0) (.c 4) (.c 5)) (.c 0) (.c 5) (.c 0)) (.c 0) (.c 6) (.c 0)) (.c 0) (.c 7) (.c 0)
def w2:SI:=stS (stS (stS (stS (stS (stS (stS (stS w1 (.c 1) (.c 0) (.c 1)) (.c 1) (.c 1) (.c 1)) (.c 1) (.c 2) (.c 5)) (.c 1) (.c 3) (.c 0)) (.c 1) (.c 4) (.c 0)) (.c 1) (.c 5) (.c 0)) (.c 1) (.c 6) (.c 0)) (.c 1) (.c 7) (.c 0)
def w3:SI:=stS (stS (stS (stS (stS (stS (stS (stS w2 (.c 0) (.c 0) (.c 1)) (.c 0) (.c 1) (.c 5)) (.c 0) (.c 2) (.c 0)) (.c 0) (.c 3) (.c 0)) (.c 0) (.c 4) (.c 0)) (.c 0) (.c 5) (.c 0)) (.c 0) (.c 6) (.c 0)) (.c 0) (.c 7) (.c 0)
def mW (c:SI):List (Nat×Bk):=[(0,.arr kS c (.c 2) 55 (.v 3))]
def okW (r:SV) (c d:SI):Out:=⟨[],r,(1,.arr kS d (.c 2) 55 (.d 0))::mW c,2,1,[(.le (.c 2) (.d 0),true)]⟩
def wA1:Com:=⟨9,[3],[(.ag [(.it .i64 (.c 1)),(.it .i64 (.c 1)),(.it .i64 (.c 2))]),(.sl (.n 0) (.c 0) (.c 2) (.v 3)),(.it .i64 (.c 3)),(.it .i64 (.c 1)),(.it .i64 (.c 5))],mW w0,1,[(3,0,-1)],[(.le (.c 2) (.v 3),true)],[okW (.tp [(.sl (.n 1) (.c 0) (.c 2) (.d 0)),(.it .i64 (.c 0)),(.it .i64 (.c 0))]) w0 w1],.c 0⟩
def wA2:Com:=⟨9,[3],[(.ag [(.it .i64 (.c 1)),(.it .i64 (.c 1)),(.it .i64 (.c 2))]),(.sl (.n 0) (.c 0) (.c 2) (.v 3)),(.it .i64 (.c 5)),(.it .i64 (.c 0)),(.it .i64 (.c 0))],mW w1,1,[(3,0,-1)],[(.le (.c 2) (.v 3),true)],[okW (.tp [(.sl (.n 1) (.c 0) (.c 2) (.d 0)),(.it .i64 (.c 1)),(.it .i64 (.c 0))]) w1 w2],.c 0⟩
def wA3:Com:=⟨9,[3],[(.ag [(.it .i64 (.c 1)),(.it .i64 (.c 1)),(.it .i64 (.c 2))]),(.sl (.n 0) (.c 0) (.c 2) (.v 3)),(.it .i64 (.c 1)),(.it .i64 (.c 0)),(.it .i64 (.c 0))],mW w2,1,[(3,0,-1)],[(.le (.c 2) (.v 3),true)],[⟨[],.tp [.sn,(.it .i64 (.c 0)),(.it .i64 (.c 300))],mW w2,1,0,[]⟩],.c 0⟩
def wCa:Com:=⟨55,[3],[(.ag [(.it .i64 (.c 1)),(.it .i64 (.c 1)),(.it .i64 (.c 2))]),(.sl (.n 0) (.c 0) (.c 2) (.v 3)),(.it .i64 (.c 0)),(.it .i64 (.c 1)),(.it .i64 (.c 1)),(.it .i64 (.c 2)),(.it .i64 (.c 4)),(.it .i64 (.c 302))],mW w3,1,[(3,0,-1)],[(.le (.c 2) (.v 3),true)],[⟨[],.tp [.sn,(.it .i64 (.c 303))],mW w3,1,0,[]⟩],.c 0⟩
def wRe:Com:=⟨55,[3],[(.ag [(.it .i64 (.c 1)),(.it .i64 (.c 1)),(.it .i64 (.c 2))]),(.sl (.n 0) (.c 0) (.c 2) (.v 3)),(.it .i64 (.c 1)),(.it .i64 (.c 1)),(.it .i64 (.c 2)),(.it .i64 (.c 1)),(.it .i64 (.c 3)),(.it .i64 (.c 301))],mW w3,1,[(3,0,-1)],[(.le (.c 2) (.v 3),true)],[⟨[],.tp [.sn,(.it .i64 (.c 301))],mW w3,1,0,[]⟩],.c 0⟩
def wPo:Com:=⟨28,[3],[(.ag [(.it .i64 (.c 1)),(.it .i64 (.c 1)),(.it .i64 (.c 2))]),(.sl (.n 0) (.c 0) (.c 2) (.v 3)),(.it .i64 (.c 1)),(.it .i64 (.c 2))],mW w3,1,[(3,0,-1)],[(.le (.c 2) (.v 3),true)],[⟨[],.tp [(.it .i64 (.c 0)),(.it .i64 (.c 5))],mW w3,1,0,[]⟩],.c 0⟩
def wLa:Com:=⟨18,[3],[(.ag [(.it .i64 (.c 1)),(.it .i64 (.c 1)),(.it .i64 (.c 2))]),(.sl (.n 0) (.c 0) (.c 2) (.v 3)),(.it .i64 (.c 5))],mW w2,1,[(3,0,-1)],[(.le (.c 2) (.v 3),true)],[⟨[],.tp [(.sl (.n 1) (.c 0) (.c 2) (.d 0)),.sl (.n 2) (.c 0) (.c 1) (.d 1),.it .i64 (.c 0)],(1,.arr kS w3 (.c 2) 55 (.d 0))::(2,.row .none [(.it .i64 (.c 0))] 3 (.d 1) 1)::mW w2,3,2,[(.le (.c 2) (.d 0),true),(.le (.c 1) (.d 1),true)]⟩],.c 0⟩
def cWorks:Con:=⟨7,[],[],[],[],[],o1 (.bo (.c true))⟩
def wA1_L0:List Lf:=
 [(.fin ([((.le (.c 2) (.d 0)),.true),((.le (.c 2) (.v 3)),.true)]) 0 ⟨⟨[],[]⟩,[(1,41),(0,0)],[(0,(.d 0))],[]⟩ [] [.none,.none])]
def wA1_run (T:Tm):=(ex (ccM Tryz.prog BF [55,53,52,54]) ((fun _=>[]) (ccM Tryz.prog BF [55,53,52,54])) (dw (ccM Tryz.prog BF [55,53,52,54]) ((fun _=>[]) (ccM Tryz.prog BF [55,53,52,54])) 1000 4) (stopX [0,1,2,3,4,5,6,7,8,9,10,11,12,13,14,15,16,17,18,19,20,21,22,23,24,25,26,27,28,29,30,31,32,33,34,35,36,37,38,39,40,41,42,43,44,45,46,47,48,49,50,51,52,53,54,55,56,57,58,59,60,61,62,63,64,65,66,67,68,69,70,71,72,73,74,75,76,77,78,79,80,81,82,83,84,85,86,87,88,89,90,91,92,93,94,95,96,97,98,99,100,101,102,103,104,105,106,107,108,109,110,111,112,113,114,115,116,117,118,119,120,121,122,123,124,125,126,127,128,129,130,131,132,133,134,135,136,137,138,139,140,141,142,143,144,145,146,147,148,149,150,151,152,153,154,155,156,157,158,159,160,161,162,163,164,165,166,167,168,169,170,171,172,173,174,175,176,177,178,179,180,181,182,183,184,185,186,187,188,189,190,191,192,193,194,195,196,197,198,199,200,201,202,203,204,205,206,207,208,209,210,211,212,213,214,215,216,217,218,219,220,221,222,223,224,225,226,227,228,229,230,231,232,233,234,235,236,237,238,239,240,241,242,243,244,245,246,247,248,249]) 8000 T.f T.fs T.H).lfsM 1 (ccM Tryz.prog BF [55,53,52,54]) ((tmM wA1 Tryz.f9 (Tryz.f9.body.getD .skip))::[]) wA1.os
theorem wA1_h0:wA1_run (tmM wA1 Tryz.f9 (Tryz.f9.body.getD .skip))=some wA1_L0:=by kernel_rfl
def wA1_inv:(Nat→Int)→(Nat→Bool)→Nat→(Nat→Int)→(Nat→Bool)→Prop:=fun _ _ _ _ _=>True
def wA1_mu:(Nat→Int)→(Nat→Bool)→Nat→(Nat→Int)→(Nat→Bool)→Nat:=fun _ _ _ _ _=>0
theorem wA1_b {iv0:Nat→Int} (hin:InB wA1.B iv0):0≤iv0 3:=by
 have b3:=hin 3 0 (-1) (by simp [wA1,kS,slV,mayV,i64s,i64b,lmap,lS,gS,bS,fS,bdS,shV,o1,frS,stS,chS,mAS,usS,acS,erS,chE,gS2,lS2,bS2,fS2,sAcq,w0,w1,w2,w3,mW,okW,kI])
 simp only [Int.reduceLE,reduceIte,Int.reduceNeg] at b3
 exact b3.1
def wA1_ob (k:Nat) (l:List Lf):Prop:=∀ (kv:Kv) (iv0:Nat→Int) (bv0:Nat→Bool),InB wA1.B iv0→FT (sta FI FB kv iv0 bv0) (dlt dyn0) wA1.F→∀ (iv:Nat→Int) (bv:Nat→Bool),Agr 4 iv0 bv0 iv bv→wA1_inv iv0 bv0 k iv bv→∀ lf∈l,LfT (sta FI FB kv) wA1.os (wA1_inv iv0 bv0) (wA1_mu iv0 bv0) k iv bv lf
theorem wA1_o0:wA1_ob 0 wA1_L0:=by
 intro kv iv0 bv0 hin hF iv bv ha hi
 unfold wA1_L0
 refine List.forall_mem_cons.2 ⟨?_,List.forall_mem_nil _⟩
 all_goals
  intro δ hf
 all_goals
  have b3:=wA1_b hin
 all_goals
  have a3:=ha.1 3 (by omega)
 all_goals
  simp only [FT,TP,SB.tp,SI.tv,sta,IB.eval,and_true,true_and,ObsT,Ob.Tv,rowT,kix,In.tiv,↓tbvT,In.tbv,get_cons,get_nil,reduceIte,Nat.reduceEqDiff,Int.reduceToNat,Int.reduceAdd,Int.reduceSub,Int.reduceLE,Int.reduceLT,Int.reduceEq,ne_eq,Bool.false_eq_true,not_true_eq_false,not_false_eq_true,true_iff,false_iff,iff_true,iff_false,false_implies,implies_true,decT,decide_true,decide_false,Bool.decide_eq_true,ap2,pb2,FI_3,FI_3u,FI_8,FI_9,FI_3g,FI_3k,FI_8s,FI_8l,FI_8d,FB_1h,FB_1a,Int.toNat_natCast,Int.toNat_zero,wA1_inv,wA1_mu,wA1,o1,othT,kS,slV,mayV,i64s,i64b,lmap,lS,gS,bS,fS,bdS,shV,o1,frS,stS,chS,mAS,usS,acS,erS,chE,gS2,lS2,bS2,fS2,sAcq,w0,w1,w2,w3,mW,okW,kI,a3] at hf hi ⊢
 all_goals
  (repeat' (with_reducible apply And.intro))<;>first
  | omega
  | assumption
  | (unfold inM;omega)
  | exact trivial
  | (clear hin hF ha;grind)
theorem wA1_c:LsCM 1 ((tmM wA1 Tryz.f9 (Tryz.f9.body.getD .skip))::[]) wA1.os [wA1_L0]:=by
 unfold wA1_L0
 exact ⟨List.forall_mem_cons.2 ⟨⟨⟨⟨_,rfl,rfl⟩,by kernel_rfl⟩,by kernel_rfl⟩,List.forall_mem_nil _⟩,trivial⟩
theorem wA1_ok:wA1.Ok Tryz.prog FI FB:=
 Com.of_plain (body:=Tryz.f9.body.getD .skip) pok fiok EntsFor.nil wA1 Tryz.func9 (by kernel_rfl) 4 [] (by kernel_rfl) [wA1_L0] ⟨wA1_h0,trivial⟩ wA1_c
  wA1_inv wA1_mu (fun _ _ _=>trivial) fun kv iv0 bv0 hin hF k l iv bv hk ha hi=>match k,hk,hi with
  | 0,hk,hi=>by
    cases hk
    exact wA1_o0 kv iv0 bv0 hin hF iv bv ha hi
  | k+1,hk,_=>by simp at hk
def wA2_L0:List Lf:=
 [(.fin ([((.le (.c 2) (.d 0)),.true),((.le (.c 2) (.v 3)),.true)]) 0 ⟨⟨[],[]⟩,[(1,54),(0,0)],[(0,(.d 0))],[]⟩ [] [.none,.none])]
def wA2_run (T:Tm):=(ex (ccM Tryz.prog BF [55,53,52,54]) ((fun _=>[]) (ccM Tryz.prog BF [55,53,52,54])) (dw (ccM Tryz.prog BF [55,53,52,54]) ((fun _=>[]) (ccM Tryz.prog BF [55,53,52,54])) 1000 4) (stopX [0,1,2,3,4,5,6,7,8,9,10,11,12,13,14,15,16,17,18,19,20,21,22,23,24,25,26,27,28,29,30,31,32,33,34,35,36,37,38,39,40,41,42,43,44,45,46,47,48,49,50,51,52,53,54,55,56,57,58,59,60,61,62,63,64,65,66,67,68,69,70,71,72,73,74,75,76,77,78,79,80,81,82,83,84,85,86,87,88,89,90,91,92,93,94,95,96,97,98,99,100,101,102,103,104,105,106,107,108,109,110,111,112,113,114,115,116,117,118,119,120,121,122,123,124,125,126,127,128,129,130,131,132,133,134,135,136,137,138,139,140,141,142,143,144,145,146,147,148,149,150,151,152,153,154,155,156,157,158,159,160,161,162,163,164,165,166,167,168,169,170,171,172,173,174,175,176,177,178,179,180,181,182,183,184,185,186,187,188,189,190,191,192,193,194,195,196,197,198,199,200,201,202,203,204,205,206,207,208,209,210,211,212,213,214,215,216,217,218,219,220,221,222,223,224,225,226,227,228,229,230,231,232,233,234,235,236,237,238,239,240,241,242,243,244,245,246,247,248,249]) 8000 T.f T.fs T.H).lfsM 1 (ccM Tryz.prog BF [55,53,52,54]) ((tmM wA2 Tryz.f9 (Tryz.f9.body.getD .skip))::[]) wA2.os
theorem wA2_h0:wA2_run (tmM wA2 Tryz.f9 (Tryz.f9.body.getD .skip))=some wA2_L0:=by kernel_rfl
def wA2_inv:(Nat→Int)→(Nat→Bool)→Nat→(Nat→Int)→(Nat→Bool)→Prop:=fun _ _ _ _ _=>True
def wA2_mu:(Nat→Int)→(Nat→Bool)→Nat→(Nat→Int)→(Nat→Bool)→Nat:=fun _ _ _ _ _=>0
theorem wA2_b {iv0:Nat→Int} (hin:InB wA2.B iv0):0≤iv0 3:=by
 have b3:=hin 3 0 (-1) (by simp [wA2,kS,slV,mayV,i64s,i64b,lmap,lS,gS,bS,fS,bdS,shV,o1,frS,stS,chS,mAS,usS,acS,erS,chE,gS2,lS2,bS2,fS2,sAcq,w0,w1,w2,w3,mW,okW,kI])
 simp only [Int.reduceLE,reduceIte,Int.reduceNeg] at b3
 exact b3.1
def wA2_ob (k:Nat) (l:List Lf):Prop:=∀ (kv:Kv) (iv0:Nat→Int) (bv0:Nat→Bool),InB wA2.B iv0→FT (sta FI FB kv iv0 bv0) (dlt dyn0) wA2.F→∀ (iv:Nat→Int) (bv:Nat→Bool),Agr 4 iv0 bv0 iv bv→wA2_inv iv0 bv0 k iv bv→∀ lf∈l,LfT (sta FI FB kv) wA2.os (wA2_inv iv0 bv0) (wA2_mu iv0 bv0) k iv bv lf
theorem wA2_o0:wA2_ob 0 wA2_L0:=by
 intro kv iv0 bv0 hin hF iv bv ha hi
 unfold wA2_L0
 refine List.forall_mem_cons.2 ⟨?_,List.forall_mem_nil _⟩
 all_goals
  intro δ hf
 all_goals
  have b3:=wA2_b hin
 all_goals
  have a3:=ha.1 3 (by omega)
 all_goals
  simp only [FT,TP,SB.tp,SI.tv,sta,IB.eval,and_true,true_and,ObsT,Ob.Tv,rowT,kix,In.tiv,↓tbvT,In.tbv,get_cons,get_nil,reduceIte,Nat.reduceEqDiff,Int.reduceToNat,Int.reduceAdd,Int.reduceSub,Int.reduceLE,Int.reduceLT,Int.reduceEq,ne_eq,Bool.false_eq_true,not_true_eq_false,not_false_eq_true,true_iff,false_iff,iff_true,iff_false,false_implies,implies_true,decT,decide_true,decide_false,Bool.decide_eq_true,ap2,pb2,FI_3,FI_3u,FI_8,FI_9,FI_3g,FI_3k,FI_8s,FI_8l,FI_8d,FB_1h,FB_1a,Int.toNat_natCast,Int.toNat_zero,wA2_inv,wA2_mu,wA2,o1,othT,kS,slV,mayV,i64s,i64b,lmap,lS,gS,bS,fS,bdS,shV,o1,frS,stS,chS,mAS,usS,acS,erS,chE,gS2,lS2,bS2,fS2,sAcq,w0,w1,w2,w3,mW,okW,kI,a3] at hf hi ⊢
 all_goals
  (repeat' (with_reducible apply And.intro))<;>first
  | omega
  | assumption
  | (unfold inM;omega)
  | exact trivial
  | (clear hin hF ha;grind)
theorem wA2_c:LsCM 1 ((tmM wA2 Tryz.f9 (Tryz.f9.body.getD .skip))::[]) wA2.os [wA2_L0]:=by
 unfold wA2_L0
 exact ⟨List.forall_mem_cons.2 ⟨⟨⟨⟨_,rfl,rfl⟩,by kernel_rfl⟩,by kernel_rfl⟩,List.forall_mem_nil _⟩,trivial⟩
theorem wA2_ok:wA2.Ok Tryz.prog FI FB:=
 Com.of_plain (body:=Tryz.f9.body.getD .skip) pok fiok EntsFor.nil wA2 Tryz.func9 (by kernel_rfl) 4 [] (by kernel_rfl) [wA2_L0] ⟨wA2_h0,trivial⟩ wA2_c
  wA2_inv wA2_mu (fun _ _ _=>trivial) fun kv iv0 bv0 hin hF k l iv bv hk ha hi=>match k,hk,hi with
  | 0,hk,hi=>by
    cases hk
    exact wA2_o0 kv iv0 bv0 hin hF iv bv ha hi
  | k+1,hk,_=>by simp at hk
def wA3_L0:List Lf:=
 [(.fin ([((.le (.c 2) (.v 3)),.true)]) 0 ⟨⟨[],[]⟩,[(0,0)],[],[]⟩ [] [.none])]
def wA3_run (T:Tm):=(ex (ccM Tryz.prog BF [55,53,52,54]) ((fun _=>[]) (ccM Tryz.prog BF [55,53,52,54])) (dw (ccM Tryz.prog BF [55,53,52,54]) ((fun _=>[]) (ccM Tryz.prog BF [55,53,52,54])) 1000 4) (stopX [0,1,2,3,4,5,6,7,8,9,10,11,12,13,14,15,16,17,18,19,20,21,22,23,24,25,26,27,28,29,30,31,32,33,34,35,36,37,38,39,40,41,42,43,44,45,46,47,48,49,50,51,52,53,54,55,56,57,58,59,60,61,62,63,64,65,66,67,68,69,70,71,72,73,74,75,76,77,78,79,80,81,82,83,84,85,86,87,88,89,90,91,92,93,94,95,96,97,98,99,100,101,102,103,104,105,106,107,108,109,110,111,112,113,114,115,116,117,118,119,120,121,122,123,124,125,126,127,128,129,130,131,132,133,134,135,136,137,138,139,140,141,142,143,144,145,146,147,148,149,150,151,152,153,154,155,156,157,158,159,160,161,162,163,164,165,166,167,168,169,170,171,172,173,174,175,176,177,178,179,180,181,182,183,184,185,186,187,188,189,190,191,192,193,194,195,196,197,198,199,200,201,202,203,204,205,206,207,208,209,210,211,212,213,214,215,216,217,218,219,220,221,222,223,224,225,226,227,228,229,230,231,232,233,234,235,236,237,238,239,240,241,242,243,244,245,246,247,248,249]) 8000 T.f T.fs T.H).lfsM 1 (ccM Tryz.prog BF [55,53,52,54]) ((tmM wA3 Tryz.f9 (Tryz.f9.body.getD .skip))::[]) wA3.os
theorem wA3_h0:wA3_run (tmM wA3 Tryz.f9 (Tryz.f9.body.getD .skip))=some wA3_L0:=by kernel_rfl
def wA3_inv:(Nat→Int)→(Nat→Bool)→Nat→(Nat→Int)→(Nat→Bool)→Prop:=fun _ _ _ _ _=>True
def wA3_mu:(Nat→Int)→(Nat→Bool)→Nat→(Nat→Int)→(Nat→Bool)→Nat:=fun _ _ _ _ _=>0
theorem wA3_b {iv0:Nat→Int} (hin:InB wA3.B iv0):0≤iv0 3:=by
 have b3:=hin 3 0 (-1) (by simp [wA3,kS,slV,mayV,i64s,i64b,lmap,lS,gS,bS,fS,bdS,shV,o1,frS,stS,chS,mAS,usS,acS,erS,chE,gS2,lS2,bS2,fS2,sAcq,w0,w1,w2,w3,mW,okW,kI])
 simp only [Int.reduceLE,reduceIte,Int.reduceNeg] at b3
 exact b3.1
def wA3_ob (k:Nat) (l:List Lf):Prop:=∀ (kv:Kv) (iv0:Nat→Int) (bv0:Nat→Bool),InB wA3.B iv0→FT (sta FI FB kv iv0 bv0) (dlt dyn0) wA3.F→∀ (iv:Nat→Int) (bv:Nat→Bool),Agr 4 iv0 bv0 iv bv→wA3_inv iv0 bv0 k iv bv→∀ lf∈l,LfT (sta FI FB kv) wA3.os (wA3_inv iv0 bv0) (wA3_mu iv0 bv0) k iv bv lf
theorem wA3_o0:wA3_ob 0 wA3_L0:=by
 intro kv iv0 bv0 hin hF iv bv ha hi
 unfold wA3_L0
 refine List.forall_mem_cons.2 ⟨?_,List.forall_mem_nil _⟩
 all_goals
  intro δ hf
 all_goals
  have b3:=wA3_b hin
 all_goals
  have a3:=ha.1 3 (by omega)
 all_goals
  simp only [FT,TP,SB.tp,SI.tv,sta,IB.eval,and_true,true_and,ObsT,Ob.Tv,rowT,kix,In.tiv,↓tbvT,In.tbv,get_cons,get_nil,reduceIte,Nat.reduceEqDiff,Int.reduceToNat,Int.reduceAdd,Int.reduceSub,Int.reduceLE,Int.reduceLT,Int.reduceEq,ne_eq,Bool.false_eq_true,not_true_eq_false,not_false_eq_true,true_iff,false_iff,iff_true,iff_false,false_implies,implies_true,decT,decide_true,decide_false,Bool.decide_eq_true,ap2,pb2,FI_3,FI_3u,FI_8,FI_9,FI_3g,FI_3k,FI_8s,FI_8l,FI_8d,FB_1h,FB_1a,Int.toNat_natCast,Int.toNat_zero,wA3_inv,wA3_mu,wA3,o1,othT,kS,slV,mayV,i64s,i64b,lmap,lS,gS,bS,fS,bdS,shV,o1,frS,stS,chS,mAS,usS,acS,erS,chE,gS2,lS2,bS2,fS2,sAcq,w0,w1,w2,w3,mW,okW,kI,a3] at hf hi ⊢
 all_goals
  (repeat' (with_reducible apply And.intro))<;>first
  | omega
  | assumption
  | (unfold inM;omega)
  | exact trivial
  | (clear hin hF ha;grind)
theorem wA3_c:LsCM 1 ((tmM wA3 Tryz.f9 (Tryz.f9.body.getD .skip))::[]) wA3.os [wA3_L0]:=by
 unfold wA3_L0
 exact ⟨List.forall_mem_cons.2 ⟨⟨⟨⟨_,rfl,rfl⟩,by kernel_rfl⟩,by kernel_rfl⟩,List.forall_mem_nil _⟩,trivial⟩
theorem wA3_ok:wA3.Ok Tryz.prog FI FB:=
 Com.of_plain (body:=Tryz.f9.body.getD .skip) pok fiok EntsFor.nil wA3 Tryz.func9 (by kernel_rfl) 4 [] (by kernel_rfl) [wA3_L0] ⟨wA3_h0,trivial⟩ wA3_c
  wA3_inv wA3_mu (fun _ _ _=>trivial) fun kv iv0 bv0 hin hF k l iv bv hk ha hi=>match k,hk,hi with
  | 0,hk,hi=>by
    cases hk
    exact wA3_o0 kv iv0 bv0 hin hF iv bv ha hi
  | k+1,hk,_=>by simp at hk
def wCa_L0:List Lf:=
 [(.fin ([((.le (.c 2) (.v 3)),.true)]) 0 ⟨⟨[],[]⟩,[(0,0)],[],[]⟩ [] [.none])]
def wCa_run (T:Tm):=(ex (ccM Tryz.prog BF [55,53,52,54]) ((fun _=>[]) (ccM Tryz.prog BF [55,53,52,54])) (dw (ccM Tryz.prog BF [55,53,52,54]) ((fun _=>[]) (ccM Tryz.prog BF [55,53,52,54])) 1000 4) (stopX [0,1,2,3,4,5,6,7,8,9,10,11,12,13,14,15,16,17,18,19,20,21,22,23,24,25,26,27,28,29,30,31,32,33,34,35,36,37,38,39,40,41,42,43,44,45,46,47,48,49,50,51,52,53,54,55,56,57,58,59,60,61,62,63,64,65,66,67,68,69,70,71,72,73,74,75,76,77,78,79,80,81,82,83,84,85,86,87,88,89,90,91,92,93,94,95,96,97,98,99,100,101,102,103,104,105,106,107,108,109,110,111,112,113,114,115,116,117,118,119,120,121,122,123,124,125,126,127,128,129,130,131,132,133,134,135,136,137,138,139,140,141,142,143,144,145,146,147,148,149,150,151,152,153,154,155,156,157,158,159,160,161,162,163,164,165,166,167,168,169,170,171,172,173,174,175,176,177,178,179,180,181,182,183,184,185,186,187,188,189,190,191,192,193,194,195,196,197,198,199,200,201,202,203,204,205,206,207,208,209,210,211,212,213,214,215,216,217,218,219,220,221,222,223,224,225,226,227,228,229,230,231,232,233,234,235,236,237,238,239,240,241,242,243,244,245,246,247,248,249]) 8000 T.f T.fs T.H).lfsM 1 (ccM Tryz.prog BF [55,53,52,54]) ((tmM wCa Tryz.f55 (Tryz.f55.body.getD .skip))::[]) wCa.os
theorem wCa_h0:wCa_run (tmM wCa Tryz.f55 (Tryz.f55.body.getD .skip))=some wCa_L0:=by kernel_rfl
def wCa_inv:(Nat→Int)→(Nat→Bool)→Nat→(Nat→Int)→(Nat→Bool)→Prop:=fun _ _ _ _ _=>True
def wCa_mu:(Nat→Int)→(Nat→Bool)→Nat→(Nat→Int)→(Nat→Bool)→Nat:=fun _ _ _ _ _=>0
theorem wCa_b {iv0:Nat→Int} (hin:InB wCa.B iv0):0≤iv0 3:=by
 have b3:=hin 3 0 (-1) (by simp [wCa,kS,slV,mayV,i64s,i64b,lmap,lS,gS,bS,fS,bdS,shV,o1,frS,stS,chS,mAS,usS,acS,erS,chE,gS2,lS2,bS2,fS2,sAcq,w0,w1,w2,w3,mW,okW,kI])
 simp only [Int.reduceLE,reduceIte,Int.reduceNeg] at b3
 exact b3.1
def wCa_ob (k:Nat) (l:List Lf):Prop:=∀ (kv:Kv) (iv0:Nat→Int) (bv0:Nat→Bool),InB wCa.B iv0→FT (sta FI FB kv iv0 bv0) (dlt dyn0) wCa.F→∀ (iv:Nat→Int) (bv:Nat→Bool),Agr 4 iv0 bv0 iv bv→wCa_inv iv0 bv0 k iv bv→∀ lf∈l,LfT (sta FI FB kv) wCa.os (wCa_inv iv0 bv0) (wCa_mu iv0 bv0) k iv bv lf
theorem wCa_o0:wCa_ob 0 wCa_L0:=by
 intro kv iv0 bv0 hin hF iv bv ha hi
 unfold wCa_L0
 refine List.forall_mem_cons.2 ⟨?_,List.forall_mem_nil _⟩
 all_goals
  intro δ hf
 all_goals
  have b3:=wCa_b hin
 all_goals
  have a3:=ha.1 3 (by omega)
 all_goals
  simp only [FT,TP,SB.tp,SI.tv,sta,IB.eval,and_true,true_and,ObsT,Ob.Tv,rowT,kix,In.tiv,↓tbvT,In.tbv,get_cons,get_nil,reduceIte,Nat.reduceEqDiff,Int.reduceToNat,Int.reduceAdd,Int.reduceSub,Int.reduceLE,Int.reduceLT,Int.reduceEq,ne_eq,Bool.false_eq_true,not_true_eq_false,not_false_eq_true,true_iff,false_iff,iff_true,iff_false,false_implies,implies_true,decT,decide_true,decide_false,Bool.decide_eq_true,ap2,pb2,FI_3,FI_3u,FI_8,FI_9,FI_3g,FI_3k,FI_8s,FI_8l,FI_8d,FB_1h,FB_1a,Int.toNat_natCast,Int.toNat_zero,wCa_inv,wCa_mu,wCa,o1,othT,kS,slV,mayV,i64s,i64b,lmap,lS,gS,bS,fS,bdS,shV,o1,frS,stS,chS,mAS,usS,acS,erS,chE,gS2,lS2,bS2,fS2,sAcq,w0,w1,w2,w3,mW,okW,kI,a3] at hf hi ⊢
 all_goals
  (repeat' (with_reducible apply And.intro))<;>first
  | omega
  | assumption
  | (unfold inM;omega)
  | exact trivial
  | (clear hin hF ha;grind)
theorem wCa_c:LsCM 1 ((tmM wCa Tryz.f55 (Tryz.f55.body.getD .skip))::[]) wCa.os [wCa_L0]:=by
 unfold wCa_L0
 exact ⟨List.forall_mem_cons.2 ⟨⟨⟨⟨_,rfl,rfl⟩,by kernel_rfl⟩,by kernel_rfl⟩,List.forall_mem_nil _⟩,trivial⟩
theorem wCa_ok:wCa.Ok Tryz.prog FI FB:=
 Com.of_plain (body:=Tryz.f55.body.getD .skip) pok fiok EntsFor.nil wCa Tryz.func55 (by kernel_rfl) 4 [] (by kernel_rfl) [wCa_L0] ⟨wCa_h0,trivial⟩ wCa_c
  wCa_inv wCa_mu (fun _ _ _=>trivial) fun kv iv0 bv0 hin hF k l iv bv hk ha hi=>match k,hk,hi with
  | 0,hk,hi=>by
    cases hk
    exact wCa_o0 kv iv0 bv0 hin hF iv bv ha hi
  | k+1,hk,_=>by simp at hk
def wRe_L0:List Lf:=
 [(.fin ([((.le (.c 2) (.v 3)),.true)]) 0 ⟨⟨[],[]⟩,[(0,0)],[],[]⟩ [] [.none])]
def wRe_run (T:Tm):=(ex (ccM Tryz.prog BF [55,53,52,54]) ((fun _=>[]) (ccM Tryz.prog BF [55,53,52,54])) (dw (ccM Tryz.prog BF [55,53,52,54]) ((fun _=>[]) (ccM Tryz.prog BF [55,53,52,54])) 1000 4) (stopX [0,1,2,3,4,5,6,7,8,9,10,11,12,13,14,15,16,17,18,19,20,21,22,23,24,25,26,27,28,29,30,31,32,33,34,35,36,37,38,39,40,41,42,43,44,45,46,47,48,49,50,51,52,53,54,55,56,57,58,59,60,61,62,63,64,65,66,67,68,69,70,71,72,73,74,75,76,77,78,79,80,81,82,83,84,85,86,87,88,89,90,91,92,93,94,95,96,97,98,99,100,101,102,103,104,105,106,107,108,109,110,111,112,113,114,115,116,117,118,119,120,121,122,123,124,125,126,127,128,129,130,131,132,133,134,135,136,137,138,139,140,141,142,143,144,145,146,147,148,149,150,151,152,153,154,155,156,157,158,159,160,161,162,163,164,165,166,167,168,169,170,171,172,173,174,175,176,177,178,179,180,181,182,183,184,185,186,187,188,189,190,191,192,193,194,195,196,197,198,199,200,201,202,203,204,205,206,207,208,209,210,211,212,213,214,215,216,217,218,219,220,221,222,223,224,225,226,227,228,229,230,231,232,233,234,235,236,237,238,239,240,241,242,243,244,245,246,247,248,249]) 8000 T.f T.fs T.H).lfsM 1 (ccM Tryz.prog BF [55,53,52,54]) ((tmM wRe Tryz.f55 (Tryz.f55.body.getD .skip))::[]) wRe.os
theorem wRe_h0:wRe_run (tmM wRe Tryz.f55 (Tryz.f55.body.getD .skip))=some wRe_L0:=by kernel_rfl
def wRe_inv:(Nat→Int)→(Nat→Bool)→Nat→(Nat→Int)→(Nat→Bool)→Prop:=fun _ _ _ _ _=>True
def wRe_mu:(Nat→Int)→(Nat→Bool)→Nat→(Nat→Int)→(Nat→Bool)→Nat:=fun _ _ _ _ _=>0
theorem wRe_b {iv0:Nat→Int} (hin:InB wRe.B iv0):0≤iv0 3:=by
 have b3:=hin 3 0 (-1) (by simp [wRe,kS,slV,mayV,i64s,i64b,lmap,lS,gS,bS,fS,bdS,shV,o1,frS,stS,chS,mAS,usS,acS,erS,chE,gS2,lS2,bS2,fS2,sAcq,w0,w1,w2,w3,mW,okW,kI])
 simp only [Int.reduceLE,reduceIte,Int.reduceNeg] at b3
 exact b3.1
def wRe_ob (k:Nat) (l:List Lf):Prop:=∀ (kv:Kv) (iv0:Nat→Int) (bv0:Nat→Bool),InB wRe.B iv0→FT (sta FI FB kv iv0 bv0) (dlt dyn0) wRe.F→∀ (iv:Nat→Int) (bv:Nat→Bool),Agr 4 iv0 bv0 iv bv→wRe_inv iv0 bv0 k iv bv→∀ lf∈l,LfT (sta FI FB kv) wRe.os (wRe_inv iv0 bv0) (wRe_mu iv0 bv0) k iv bv lf
theorem wRe_o0:wRe_ob 0 wRe_L0:=by
 intro kv iv0 bv0 hin hF iv bv ha hi
 unfold wRe_L0
 refine List.forall_mem_cons.2 ⟨?_,List.forall_mem_nil _⟩
 all_goals
  intro δ hf
 all_goals
  have b3:=wRe_b hin
 all_goals
  have a3:=ha.1 3 (by omega)
 all_goals
  simp only [FT,TP,SB.tp,SI.tv,sta,IB.eval,and_true,true_and,ObsT,Ob.Tv,rowT,kix,In.tiv,↓tbvT,In.tbv,get_cons,get_nil,reduceIte,Nat.reduceEqDiff,Int.reduceToNat,Int.reduceAdd,Int.reduceSub,Int.reduceLE,Int.reduceLT,Int.reduceEq,ne_eq,Bool.false_eq_true,not_true_eq_false,not_false_eq_true,true_iff,false_iff,iff_true,iff_false,false_implies,implies_true,decT,decide_true,decide_false,Bool.decide_eq_true,ap2,pb2,FI_3,FI_3u,FI_8,FI_9,FI_3g,FI_3k,FI_8s,FI_8l,FI_8d,FB_1h,FB_1a,Int.toNat_natCast,Int.toNat_zero,wRe_inv,wRe_mu,wRe,o1,othT,kS,slV,mayV,i64s,i64b,lmap,lS,gS,bS,fS,bdS,shV,o1,frS,stS,chS,mAS,usS,acS,erS,chE,gS2,lS2,bS2,fS2,sAcq,w0,w1,w2,w3,mW,okW,kI,a3] at hf hi ⊢
 all_goals
  (repeat' (with_reducible apply And.intro))<;>first
  | omega
  | assumption
  | (unfold inM;omega)
  | exact trivial
  | (clear hin hF ha;grind)
theorem wRe_c:LsCM 1 ((tmM wRe Tryz.f55 (Tryz.f55.body.getD .skip))::[]) wRe.os [wRe_L0]:=by
 unfold wRe_L0
 exact ⟨List.forall_mem_cons.2 ⟨⟨⟨⟨_,rfl,rfl⟩,by kernel_rfl⟩,by kernel_rfl⟩,List.forall_mem_nil _⟩,trivial⟩
theorem wRe_ok:wRe.Ok Tryz.prog FI FB:=
 Com.of_plain (body:=Tryz.f55.body.getD .skip) pok fiok EntsFor.nil wRe Tryz.func55 (by kernel_rfl) 4 [] (by kernel_rfl) [wRe_L0] ⟨wRe_h0,trivial⟩ wRe_c
  wRe_inv wRe_mu (fun _ _ _=>trivial) fun kv iv0 bv0 hin hF k l iv bv hk ha hi=>match k,hk,hi with
  | 0,hk,hi=>by
    cases hk
    exact wRe_o0 kv iv0 bv0 hin hF iv bv ha hi
  | k+1,hk,_=>by simp at hk
def wPo_L0:List Lf:=
 [(.fin ([((.le (.c 2) (.v 3)),.true)]) 0 ⟨⟨[],[]⟩,[(0,0)],[],[]⟩ [] [.none])]
def wPo_run (T:Tm):=(ex (ccM Tryz.prog BF [55,53,52,54]) ((fun _=>[]) (ccM Tryz.prog BF [55,53,52,54])) (dw (ccM Tryz.prog BF [55,53,52,54]) ((fun _=>[]) (ccM Tryz.prog BF [55,53,52,54])) 1000 4) (stopX [0,1,2,3,4,5,6,7,8,9,10,11,12,13,14,15,16,17,18,19,20,21,22,23,24,25,26,27,28,29,30,31,32,33,34,35,36,37,38,39,40,41,42,43,44,45,46,47,48,49,50,51,52,53,54,55,56,57,58,59,60,61,62,63,64,65,66,67,68,69,70,71,72,73,74,75,76,77,78,79,80,81,82,83,84,85,86,87,88,89,90,91,92,93,94,95,96,97,98,99,100,101,102,103,104,105,106,107,108,109,110,111,112,113,114,115,116,117,118,119,120,121,122,123,124,125,126,127,128,129,130,131,132,133,134,135,136,137,138,139,140,141,142,143,144,145,146,147,148,149,150,151,152,153,154,155,156,157,158,159,160,161,162,163,164,165,166,167,168,169,170,171,172,173,174,175,176,177,178,179,180,181,182,183,184,185,186,187,188,189,190,191,192,193,194,195,196,197,198,199,200,201,202,203,204,205,206,207,208,209,210,211,212,213,214,215,216,217,218,219,220,221,222,223,224,225,226,227,228,229,230,231,232,233,234,235,236,237,238,239,240,241,242,243,244,245,246,247,248,249]) 8000 T.f T.fs T.H).lfsM 1 (ccM Tryz.prog BF [55,53,52,54]) ((tmM wPo Tryz.f28 (Tryz.f28.body.getD .skip))::[]) wPo.os
theorem wPo_h0:wPo_run (tmM wPo Tryz.f28 (Tryz.f28.body.getD .skip))=some wPo_L0:=by kernel_rfl
def wPo_inv:(Nat→Int)→(Nat→Bool)→Nat→(Nat→Int)→(Nat→Bool)→Prop:=fun _ _ _ _ _=>True
def wPo_mu:(Nat→Int)→(Nat→Bool)→Nat→(Nat→Int)→(Nat→Bool)→Nat:=fun _ _ _ _ _=>0
theorem wPo_b {iv0:Nat→Int} (hin:InB wPo.B iv0):0≤iv0 3:=by
 have b3:=hin 3 0 (-1) (by simp [wPo,kS,slV,mayV,i64s,i64b,lmap,lS,gS,bS,fS,bdS,shV,o1,frS,stS,chS,mAS,usS,acS,erS,chE,gS2,lS2,bS2,fS2,sAcq,w0,w1,w2,w3,mW,okW,kI])
 simp only [Int.reduceLE,reduceIte,Int.reduceNeg] at b3
 exact b3.1
def wPo_ob (k:Nat) (l:List Lf):Prop:=∀ (kv:Kv) (iv0:Nat→Int) (bv0:Nat→Bool),InB wPo.B iv0→FT (sta FI FB kv iv0 bv0) (dlt dyn0) wPo.F→∀ (iv:Nat→Int) (bv:Nat→Bool),Agr 4 iv0 bv0 iv bv→wPo_inv iv0 bv0 k iv bv→∀ lf∈l,LfT (sta FI FB kv) wPo.os (wPo_inv iv0 bv0) (wPo_mu iv0 bv0) k iv bv lf
theorem wPo_o0:wPo_ob 0 wPo_L0:=by
 intro kv iv0 bv0 hin hF iv bv ha hi
 unfold wPo_L0
 refine List.forall_mem_cons.2 ⟨?_,List.forall_mem_nil _⟩
 all_goals
  intro δ hf
 all_goals
  have b3:=wPo_b hin
 all_goals
  have a3:=ha.1 3 (by omega)
 all_goals
  simp only [FT,TP,SB.tp,SI.tv,sta,IB.eval,and_true,true_and,ObsT,Ob.Tv,rowT,kix,In.tiv,↓tbvT,In.tbv,get_cons,get_nil,reduceIte,Nat.reduceEqDiff,Int.reduceToNat,Int.reduceAdd,Int.reduceSub,Int.reduceLE,Int.reduceLT,Int.reduceEq,ne_eq,Bool.false_eq_true,not_true_eq_false,not_false_eq_true,true_iff,false_iff,iff_true,iff_false,false_implies,implies_true,decT,decide_true,decide_false,Bool.decide_eq_true,ap2,pb2,FI_3,FI_3u,FI_8,FI_9,FI_3g,FI_3k,FI_8s,FI_8l,FI_8d,FB_1h,FB_1a,Int.toNat_natCast,Int.toNat_zero,wPo_inv,wPo_mu,wPo,o1,othT,kS,slV,mayV,i64s,i64b,lmap,lS,gS,bS,fS,bdS,shV,o1,frS,stS,chS,mAS,usS,acS,erS,chE,gS2,lS2,bS2,fS2,sAcq,w0,w1,w2,w3,mW,okW,kI,a3] at hf hi ⊢
 all_goals
  (repeat' (with_reducible apply And.intro))<;>first
  | omega
  | assumption
  | (unfold inM;omega)
  | exact trivial
  | (clear hin hF ha;grind)
theorem wPo_c:LsCM 1 ((tmM wPo Tryz.f28 (Tryz.f28.body.getD .skip))::[]) wPo.os [wPo_L0]:=by
 unfold wPo_L0
 exact ⟨List.forall_mem_cons.2 ⟨⟨⟨⟨_,rfl,rfl⟩,by kernel_rfl⟩,by kernel_rfl⟩,List.forall_mem_nil _⟩,trivial⟩
theorem wPo_ok:wPo.Ok Tryz.prog FI FB:=
 Com.of_plain (body:=Tryz.f28.body.getD .skip) pok fiok EntsFor.nil wPo Tryz.func28 (by kernel_rfl) 4 [] (by kernel_rfl) [wPo_L0] ⟨wPo_h0,trivial⟩ wPo_c
  wPo_inv wPo_mu (fun _ _ _=>trivial) fun kv iv0 bv0 hin hF k l iv bv hk ha hi=>match k,hk,hi with
  | 0,hk,hi=>by
    cases hk
    exact wPo_o0 kv iv0 bv0 hin hF iv bv ha hi
  | k+1,hk,_=>by simp at hk
def wLa_L0:List Lf:=
 [(.fin ([((.le (.c 1) (.d 2)),.true),((.le (.c 1) (.d 1)),.true),((.le (.c 2) (.d 0)),.true),((.le (.c 2) (.v 3)),.true)]) 0 ⟨⟨[],[]⟩,[(2,72),(1,65),(0,0)],[(1,(.d 2)),(0,(.d 0))],[]⟩ [] [.none,.none,.none])]
def wLa_run (T:Tm):=(ex (ccM Tryz.prog BF [55,53,52,54]) ((fun cc=>[tKeys1.ent cc,tClone.ent cc]) (ccM Tryz.prog BF [55,53,52,54])) (dw (ccM Tryz.prog BF [55,53,52,54]) ((fun cc=>[tKeys1.ent cc,tClone.ent cc]) (ccM Tryz.prog BF [55,53,52,54])) 1000 4) (stopX [0,1,2,3,4,5,6,7,8,9,10,11,12,13,14,15,16,17,18,19,20,21,22,23,24,25,26,27,28,29,30,31,32,33,34,35,36,37,38,39,40,41,42,43,44,45,46,47,48,49,50,51,52,53,54,55,56,57,58,59,60,61,62,63,64,65,66,67,68,69,70,71,72,73,74,75,76,77,78,79,80,81,82,83,84,85,86,87,88,89,90,91,92,93,94,95,96,97,98,99,100,101,102,103,104,105,106,107,108,109,110,111,112,113,114,115,116,117,118,119,120,121,122,123,124,125,126,127,128,129,130,131,132,133,134,135,136,137,138,139,140,141,142,143,144,145,146,147,148,149,150,151,152,153,154,155,156,157,158,159,160,161,162,163,164,165,166,167,168,169,170,171,172,173,174,175,176,177,178,179,180,181,182,183,184,185,186,187,188,189,190,191,192,193,194,195,196,197,198,199,200,201,202,203,204,205,206,207,208,209,210,211,212,213,214,215,216,217,218,219,220,221,222,223,224,225,226,227,228,229,230,231,232,233,234,235,236,237,238,239,240,241,242,243,244,245,246,247,248,249]) 8000 T.f T.fs T.H).lfsM 1 (ccM Tryz.prog BF [55,53,52,54]) ((tmM wLa Tryz.f18 (Tryz.f18.body.getD .skip))::[]) wLa.os
theorem wLa_h0:wLa_run (tmM wLa Tryz.f18 (Tryz.f18.body.getD .skip))=some wLa_L0:=by kernel_rfl
def wLa_inv:(Nat→Int)→(Nat→Bool)→Nat→(Nat→Int)→(Nat→Bool)→Prop:=fun _ _ _ _ _=>True
def wLa_mu:(Nat→Int)→(Nat→Bool)→Nat→(Nat→Int)→(Nat→Bool)→Nat:=fun _ _ _ _ _=>0
theorem wLa_b {iv0:Nat→Int} (hin:InB wLa.B iv0):0≤iv0 3:=by
 have b3:=hin 3 0 (-1) (by simp [wLa,kS,slV,mayV,i64s,i64b,lmap,lS,gS,bS,fS,bdS,shV,o1,frS,stS,chS,mAS,usS,acS,erS,chE,gS2,lS2,bS2,fS2,sAcq,w0,w1,w2,w3,mW,okW,kI])
 simp only [Int.reduceLE,reduceIte,Int.reduceNeg] at b3
 exact b3.1
def wLa_ob (k:Nat) (l:List Lf):Prop:=∀ (kv:Kv) (iv0:Nat→Int) (bv0:Nat→Bool),InB wLa.B iv0→FT (sta FI FB kv iv0 bv0) (dlt dyn0) wLa.F→∀ (iv:Nat→Int) (bv:Nat→Bool),Agr 4 iv0 bv0 iv bv→wLa_inv iv0 bv0 k iv bv→∀ lf∈l,LfT (sta FI FB kv) wLa.os (wLa_inv iv0 bv0) (wLa_mu iv0 bv0) k iv bv lf
theorem wLa_o0:wLa_ob 0 wLa_L0:=by
 intro kv iv0 bv0 hin hF iv bv ha hi
 unfold wLa_L0
 refine List.forall_mem_cons.2 ⟨?_,List.forall_mem_nil _⟩
 all_goals
  intro δ hf
 all_goals
  have b3:=wLa_b hin
 all_goals
  have a3:=ha.1 3 (by omega)
 all_goals
  simp only [FT,TP,SB.tp,SI.tv,sta,IB.eval,and_true,true_and,ObsT,Ob.Tv,rowT,kix,In.tiv,↓tbvT,In.tbv,get_cons,get_nil,reduceIte,Nat.reduceEqDiff,Int.reduceToNat,Int.reduceAdd,Int.reduceSub,Int.reduceLE,Int.reduceLT,Int.reduceEq,ne_eq,Bool.false_eq_true,not_true_eq_false,not_false_eq_true,true_iff,false_iff,iff_true,iff_false,false_implies,implies_true,decT,decide_true,decide_false,Bool.decide_eq_true,ap2,pb2,FI_3,FI_3u,FI_8,FI_9,FI_3g,FI_3k,FI_8s,FI_8l,FI_8d,FB_1h,FB_1a,Int.toNat_natCast,Int.toNat_zero,wLa_inv,wLa_mu,wLa,o1,othT,kS,slV,mayV,i64s,i64b,lmap,lS,gS,bS,fS,bdS,shV,o1,frS,stS,chS,mAS,usS,acS,erS,chE,gS2,lS2,bS2,fS2,sAcq,w0,w1,w2,w3,mW,okW,kI,a3] at hf hi ⊢
 all_goals
  (repeat' (with_reducible apply And.intro))<;>first
  | omega
  | assumption
  | (unfold inM;omega)
  | exact trivial
  | (clear hin hF ha;grind)
theorem wLa_c:LsCM 1 ((tmM wLa Tryz.f18 (Tryz.f18.body.getD .skip))::[]) wLa.os [wLa_L0]:=by
 unfold wLa_L0
 exact ⟨List.forall_mem_cons.2 ⟨⟨⟨⟨_,rfl,rfl⟩,by kernel_rfl⟩,by kernel_rfl⟩,List.forall_mem_nil _⟩,trivial⟩
theorem wLa_ok:wLa.Ok Tryz.prog FI FB:=
 Com.of_plain (body:=Tryz.f18.body.getD .skip) pok fiok (EntsFor.consM tKeys1_ok (EntsFor.consM tClone_ok EntsFor.nil)) wLa Tryz.func18 (by kernel_rfl) 4 [] (by kernel_rfl) [wLa_L0] ⟨wLa_h0,trivial⟩ wLa_c
  wLa_inv wLa_mu (fun _ _ _=>trivial) fun kv iv0 bv0 hin hF k l iv bv hk ha hi=>match k,hk,hi with
  | 0,hk,hi=>by
    cases hk
    exact wLa_o0 kv iv0 bv0 hin hF iv bv ha hi
  | k+1,hk,_=>by simp at hk
def cWorks_L0:List Lf:=
 [(.fin ([((.le (.c 2) (.d 2)),.true),((.le (.c 1) (.d 3)),.true),((.le (.c 2) (.d 1)),.true),((.le (.c 2) (.d 0)),.true)]) 0 ⟨⟨[],[]⟩,[],[],[]⟩ [] [])]
def cWorks_run (T:Tm):=(ex (ccOf Tryz.prog BF [55,53,52,54] cWorks) ((fun cc=>[wA1.ent cc,wA2.ent cc,wA3.ent cc,wLa.ent cc,wCa.ent cc,wRe.ent cc,wPo.ent cc]) (ccOf Tryz.prog BF [55,53,52,54] cWorks)) (dw (ccOf Tryz.prog BF [55,53,52,54] cWorks) ((fun cc=>[wA1.ent cc,wA2.ent cc,wA3.ent cc,wLa.ent cc,wCa.ent cc,wRe.ent cc,wPo.ent cc]) (ccOf Tryz.prog BF [55,53,52,54] cWorks)) 1000 4) (stopX [0,1,2,3,4,5,6,7,8,9,10,11,12,13,14,15,16,17,18,19,20,21,22,23,24,25,26,27,28,29,30,31,32,33,34,35,36,37,38,39,40,41,42,43,44,45,46,47,48,49,50,51,52,53,54,55,56,57,58,59,60,61,62,63,64,65,66,67,68,69,70,71,72,73,74,75,76,77,78,79,80,81,82,83,84,85,86,87,88,89,90,91,92,93,94,95,96,97,98,99,100,101,102,103,104,105,106,107,108,109,110,111,112,113,114,115,116,117,118,119,120,121,122,123,124,125,126,127,128,129,130,131,132,133,134,135,136,137,138,139,140,141,142,143,144,145,146,147,148,149,150,151,152,153,154,155,156,157,158,159,160,161,162,163,164,165,166,167,168,169,170,171,172,173,174,175,176,177,178,179,180,181,182,183,184,185,186,187,188,189,190,191,192,193,194,195,196,197,198,199,200,201,202,203,204,205,206,207,208,209,210,211,212,213,214,215,216,217,218,219,220,221,222,223,224,225,226,227,228,229,230,231,232,233,234,235,236,237,238,239,240,241,242,243,244,245,246,247,248,249]) 20000 T.f T.fs T.H).lfs (ccOf Tryz.prog BF [55,53,52,54] cWorks) ((tm0 cWorks Tryz.f7 (Tryz.f7.body.getD .skip))::[]) cWorks.os
theorem cWorks_h0:cWorks_run (tm0 cWorks Tryz.f7 (Tryz.f7.body.getD .skip))=some cWorks_L0:=by kernel_rfl
def cWorks_inv:(Nat→Int)→(Nat→Bool)→Nat→(Nat→Int)→(Nat→Bool)→Prop:=fun _ _ _ _ _=>True
def cWorks_mu:(Nat→Int)→(Nat→Bool)→Nat→(Nat→Int)→(Nat→Bool)→Nat:=fun _ _ _ _ _=>0
def cWorks_ob (k:Nat) (l:List Lf):Prop:=∀ (kv:Kv) (iv0:Nat→Int) (bv0:Nat→Bool),InB cWorks.B iv0→FT (sta FI FB kv iv0 bv0) (dlt dyn0) cWorks.F→∀ (iv:Nat→Int) (bv:Nat→Bool),Agr 0 iv0 bv0 iv bv→cWorks_inv iv0 bv0 k iv bv→∀ lf∈l,LfT (sta FI FB kv) cWorks.os (cWorks_inv iv0 bv0) (cWorks_mu iv0 bv0) k iv bv lf
theorem cWorks_o0:cWorks_ob 0 cWorks_L0:=by
 intro kv iv0 bv0 hin hF iv bv ha hi
 unfold cWorks_L0
 refine List.forall_mem_cons.2 ⟨?_,List.forall_mem_nil _⟩
 all_goals
  intro δ hf
 all_goals
  simp only [FT,TP,SB.tp,SI.tv,sta,IB.eval,and_true,true_and,ObsT,Ob.Tv,rowT,kix,In.tiv,↓tbvT,In.tbv,get_cons,get_nil,reduceIte,Nat.reduceEqDiff,Int.reduceToNat,Int.reduceAdd,Int.reduceSub,Int.reduceLE,Int.reduceLT,Int.reduceEq,ne_eq,Bool.false_eq_true,not_true_eq_false,not_false_eq_true,true_iff,false_iff,iff_true,iff_false,false_implies,implies_true,decT,decide_true,decide_false,Bool.decide_eq_true,ap2,pb2,FI_3,FI_3u,FI_8,FI_9,FI_3g,FI_3k,FI_8s,FI_8l,FI_8d,FB_1h,FB_1a,Int.toNat_natCast,Int.toNat_zero,cWorks_inv,cWorks_mu,cWorks,o1,othT,kS,slV,mayV,i64s,i64b,lmap,lS,gS,bS,fS,bdS,shV,o1,frS,stS,chS,mAS,usS,acS,erS,chE,gS2,lS2,bS2,fS2,sAcq,w0,w1,w2,w3,mW,okW,kI] at hf hi ⊢
 all_goals
  (repeat' (with_reducible apply And.intro))<;>first
  | omega
  | assumption
  | (unfold inM;omega)
  | exact trivial
  | (clear hin hF ha;grind)
theorem cWorks_c:LsC ((tm0 cWorks Tryz.f7 (Tryz.f7.body.getD .skip))::[]) cWorks.os [cWorks_L0]:=by
 unfold cWorks_L0
 exact ⟨List.forall_mem_cons.2 ⟨⟨⟨_,rfl,rfl⟩,by kernel_rfl⟩,List.forall_mem_nil _⟩,trivial⟩
theorem cWorks_ok:cWorks.Ok Tryz.prog FI FB:=
 Con.of_plain (body:=Tryz.f7.body.getD .skip) pok fiok (EntsFor.consM wA1_ok (EntsFor.consM wA2_ok (EntsFor.consM wA3_ok (EntsFor.consM wLa_ok (EntsFor.consM wCa_ok (EntsFor.consM wRe_ok (EntsFor.consM wPo_ok EntsFor.nil))))))) cWorks Tryz.func7 (by kernel_rfl) 0 [] (by kernel_rfl) [cWorks_L0] ⟨cWorks_h0,trivial⟩ cWorks_c
  cWorks_inv cWorks_mu (fun _ _ _=>trivial) fun kv iv0 bv0 hin hF k l iv bv hk ha hi=>match k,hk,hi with
  | 0,hk,hi=>by
    cases hk
    exact cWorks_o0 kv iv0 bv0 hin hF iv bv ha hi
  | k+1,hk,_=>by simp at hk
end
end Go.Sx.Sl
