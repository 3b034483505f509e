/- Slots: Grant, Cancel, Release, by contract. -/
import Derived.Test.YtobmggabgicpgaaGreatSlC
import Derived.Test.YtobmggabgicpgaaGreatSlL2
namespace Go.Sx.Sl
set_option linter.unusedVariables false
set_option linter.unusedSimpArgs false
set_option maxRecDepth 100000
set_option maxHeartbeats 0
noncomputable section
open Go Go.Sx Go.Sx.Ti Go.Proofs
def rgB:SB:=.and (.le (.c 0) (.v 7)) (.lt (.v 7) (.v 1))
def clS (f:Int):SI:=.ap 3 (.v 0) (.v 7) (.c f) (.c 0) (.c 0) (.c 0)
def grB:SB:=.and (.eq (clS 1) (.c 1)) (.and (.eq (clS 0) (.v 8)) (.eq (clS 2) (.v 9)))
def rwS (u k m p:SI):SI:=stS (stS (stS (stS (stS (stS (stS (stS (.v 0) (.v 7) (.c 0) u) (.v 7) (.c 1) k) (.v 7) (.c 2) m) (.v 7) (.c 3) p) (.v 7) (.c 4) (.c 0)) (.v 7) (.c 5) (.c 0)) (.v 7) (.c 6) (.c 0)) (.v 7) (.c 7) (.c 0)
def erG (cs:List (SB×Bool)) (n:Int):Out:=⟨cs,.tp [.sn,.bo (.c false),.it .i64 (.c n)],[],0,0,[]⟩
def okG (cs:List (SB×Bool)) (b:Bool) (c:SI):Out:=⟨cs,.tp [.sl (.n 0) (.c 0) (.v 1) (.d 0),.bo (.c b),.it .i64 (.c 0)],[(0,.arr kS c (.v 1) 55 (.d 0))],1,1,[(.le (.v 1) (.d 0),true)]⟩
def bG:List (Nat×Int×Int):=i64b 4::i64b 5::i64b 6::i64b 7::i64b 8::i64b 9::bS
def zrS:SV:=.ag [.it .i64 (.c 0),.it .i64 (.c 0),.it .u64 (.c 0)]
def sGrt:Con:=⟨22,[0,1,2,3,4,5,6,7,8,9],[shV,lS,.it .i64 (.v 7),.it .i64 (.v 8),.it .i64 (.v 9),zrS],gS,bG,fS,
 [erG [(chS.1,false)] 2,erG [(chS.1,true),(rgB,false)] 4,okG [(chS.1,true),(rgB,true),(grB,false)] false (.v 0),okG [(chS.1,true),(rgB,true),(grB,true)] true (rwS (clS 0) (.c 2) (clS 2) (clS 3))]⟩
def erE (cs:List (SB×Bool)) (n:Int):Out:=⟨cs,.tp [.sn,.it .i64 (.c n)],[],0,0,[]⟩
def okE (cs:List (SB×Bool)) (c:SI):Out:=⟨cs,.tp [.sl (.n 0) (.c 0) (.v 1) (.d 0),.it .i64 (.c 0)],[(0,.arr kS c (.v 1) 55 (.d 0))],1,1,[(.le (.v 1) (.d 0),true)]⟩
def tkB:SB:=.and (.not (.eq (.v 8) (.c 0))) (.eq (clS 0) (.v 8))
def sEnd (from_ other to_ why:Int):Con:=⟨55,[0,1,2,3,4,5,6,7,8],[shV,lS,.it .i64 (.v 7),.it .i64 (.v 8),.it .i64 (.c from_),.it .i64 (.c other),.it .i64 (.c to_),.it .i64 (.c why)],gS,i64b 4::i64b 5::i64b 6::i64b 7::i64b 8::bS,fS,
 [erE [(chS.1,false)] 2,erE [(chS.1,true),(rgB,false)] 4,erE [(chS.1,true),(rgB,true),(tkB,false)] 5,erE [(chS.1,true),(rgB,true),(tkB,true),(.eq (clS 1) (.c other),true)] why,
  erE [(chS.1,true),(rgB,true),(tkB,true),(.eq (clS 1) (.c other),false),(.eq (clS 1) (.c from_),false)] 303,okE [(chS.1,true),(rgB,true),(tkB,true),(.eq (clS 1) (.c other),false),(.eq (clS 1) (.c from_),true)] (rwS (.v 8) (.c to_) (.c 0) (.c 0))]⟩
def sCan:Con:=sEnd 1 2 4 302
def sRel:Con:=sEnd 2 1 3 301
def sGrt_L0:List Lf:=
 let p0_:SB×Bool:=((.le (.v 1) (.d 0)),.true)
 let x1_:SI:=(.ap 3 (.v 0) (.v 7) (.c 1) (.c 0) (.c 0) (.c 0))
 let x2_:SI:=(.ap 3 (.v 0) (.v 7) (.c 0) (.c 0) (.c 0) (.c 0))
 let x3_:SI:=(.ap 3 (.v 0) (.v 7) (.c 2) (.c 0) (.c 0) (.c 0))
 let x4_:SI:=(.ap 20 (.v 0) (.v 1) (.c 0) (.c 0) (.c 0) (.c 0))
 let f0_:List (SB×Bool):=[((.le (.v 1) (.v 3)),.true),((.le (.c 0) (.v 3)),.true)]
 let f1_:List (SB×Bool):=((.le (.c 1) (.v 4)),.true)::f0_
 let f2_:List (SB×Bool):=((.le (.v 4) (.c 64)),.true)::f1_
 let f3_:List (SB×Bool):=((.le (.c 1) (.v 5)),.true)::f2_
 let f4_:List (SB×Bool):=((.le (.v 5) (.c 8)),.true)::f3_
 let f5_:List (SB×Bool):=((.le (.c 1) (.v 6)),.true)::f4_
 let f6_:List (SB×Bool):=((.le (.v 6) (.c 4)),.true)::f5_
 let f7_:List (SB×Bool):=((.eq (.v 1) (.v 6)),.true)::f6_
 let f8_:List (SB×Bool):=((.lt x4_ (.v 1)),.true)::((.le (.c (-1)) x4_),.true)::((.le (.c 0) x4_),.false)::f7_
 let f9_:List (SB×Bool):=((.le (.c 0) (.v 7)),.true)::f8_
 let f10_:List (SB×Bool):=((.lt (.v 7) (.v 1)),.true)::f9_
 let f11_:List (SB×Bool):=((.eq x1_ (.c 1)),.true)::f10_
 let f12_:List (SB×Bool):=((.eq x2_ (.v 8)),.true)::f11_
 [(.fin (((.lt x4_ (.v 1)),.true)::((.le (.c (-1)) x4_),.true)::((.le (.c 0) x4_),.true)::f7_) 0 ⟨⟨[],[]⟩,[],[],[]⟩ [] []),
  (.fin (p0_::((.eq x3_ (.v 9)),.true)::f12_) 3 ⟨⟨[],[]⟩,[(0,16)],[(0,(.d 0))],[]⟩ [] [.none]),
  (.fin (p0_::((.eq x3_ (.v 9)),.false)::f12_) 2 ⟨⟨[],[]⟩,[(0,15)],[(0,(.d 0))],[]⟩ [] [.none]),
  (.fin (p0_::((.eq x2_ (.v 8)),.false)::f11_) 2 ⟨⟨[],[]⟩,[(0,15)],[(0,(.d 0))],[]⟩ [] [.none]),
  (.fin (p0_::((.eq x1_ (.c 1)),.false)::f10_) 2 ⟨⟨[],[]⟩,[(0,15)],[(0,(.d 0))],[]⟩ [] [.none]),
  (.fin (((.lt (.v 7) (.v 1)),.false)::f9_) 1 ⟨⟨[],[]⟩,[],[],[]⟩ [] []),
  (.fin (((.le (.c 0) (.v 7)),.false)::f8_) 1 ⟨⟨[],[]⟩,[],[],[]⟩ [] []),
  (.fin (((.eq (.v 1) (.v 6)),.false)::f6_) 0 ⟨⟨[],[]⟩,[],[],[]⟩ [] []),
  (.fin (((.le (.v 6) (.c 4)),.false)::f5_) 0 ⟨⟨[],[]⟩,[],[],[]⟩ [] []),
  (.fin (((.le (.c 1) (.v 6)),.false)::f4_) 0 ⟨⟨[],[]⟩,[],[],[]⟩ [] []),
  (.fin (((.le (.v 5) (.c 8)),.false)::f3_) 0 ⟨⟨[],[]⟩,[],[],[]⟩ [] []),
  (.fin (((.le (.c 1) (.v 5)),.false)::f2_) 0 ⟨⟨[],[]⟩,[],[],[]⟩ [] []),
  (.fin (((.le (.v 4) (.c 64)),.false)::f1_) 0 ⟨⟨[],[]⟩,[],[],[]⟩ [] []),
  (.fin (((.le (.c 1) (.v 4)),.false)::f0_) 0 ⟨⟨[],[]⟩,[],[],[]⟩ [] [])]
def sGrt_run (T:Tm):=(ex (ccOf Tryz.prog BF [55,53,52,54] sGrt) ((fun cc=>[sMay.ent cc,sBad.ent cc]) (ccOf Tryz.prog BF [55,53,52,54] sGrt)) (dw (ccOf Tryz.prog BF [55,53,52,54] sGrt) ((fun cc=>[sMay.ent cc,sBad.ent cc]) (ccOf Tryz.prog BF [55,53,52,54] sGrt)) 1000 4) (stopX [60,66,89,91,58]) 20000 T.f T.fs T.H).lfs (ccOf Tryz.prog BF [55,53,52,54] sGrt) ((tm0 sGrt Tryz.f22 (Tryz.f22.body.getD .skip))::[]) sGrt.os
theorem sGrt_h0:sGrt_run (tm0 sGrt Tryz.f22 (Tryz.f22.body.getD .skip))=some sGrt_L0:=by kernel_rfl
def sGrt_inv:(Nat→Int)→(Nat→Bool)→Nat→(Nat→Int)→(Nat→Bool)→Prop:=fun _ _ _ _ _=>True
def sGrt_mu:(Nat→Int)→(Nat→Bool)→Nat→(Nat→Int)→(Nat→Bool)→Nat:=fun _ _ _ _ _=>0
theorem sGrt_b {iv0:Nat→Int} (hin:InB sGrt.B iv0):(0≤iv0 1∧iv0 1≤64)∧0≤iv0 2∧((-9223372036854775808)≤iv0 4∧iv0 4≤9223372036854775807)∧((-9223372036854775808)≤iv0 5∧iv0 5≤9223372036854775807)∧((-9223372036854775808)≤iv0 6∧iv0 6≤9223372036854775807)∧((-9223372036854775808)≤iv0 7∧iv0 7≤9223372036854775807)∧((-9223372036854775808)≤iv0 8∧iv0 8≤9223372036854775807)∧((-9223372036854775808)≤iv0 9∧iv0 9≤9223372036854775807):=by
 have b1:=hin 1 0 64 (by simp [sGrt,kS,slV,mayV,i64s,i64b,lmap,lS,gS,bS,fS,bdS,shV,o1,frS,stS,chS,mAS,usS,acS,erS,chE,gS2,lS2,bS2,fS2,sAcq,laS,lwS,lcS,kI1,nwB,oLat,rgB,clS,grB,rwS,erG,okG,bG,zrS,erE,okE,tkB,sEnd])
 simp only [Int.reduceLE,reduceIte,Int.reduceNeg] at b1
 have b2:=hin 2 0 (-1) (by simp [sGrt,kS,slV,mayV,i64s,i64b,lmap,lS,gS,bS,fS,bdS,shV,o1,frS,stS,chS,mAS,usS,acS,erS,chE,gS2,lS2,bS2,fS2,sAcq,laS,lwS,lcS,kI1,nwB,oLat,rgB,clS,grB,rwS,erG,okG,bG,zrS,erE,okE,tkB,sEnd])
 simp only [Int.reduceLE,reduceIte,Int.reduceNeg] at b2
 have b4:=hin 4 (-9223372036854775808) 9223372036854775807 (by simp [sGrt,kS,slV,mayV,i64s,i64b,lmap,lS,gS,bS,fS,bdS,shV,o1,frS,stS,chS,mAS,usS,acS,erS,chE,gS2,lS2,bS2,fS2,sAcq,laS,lwS,lcS,kI1,nwB,oLat,rgB,clS,grB,rwS,erG,okG,bG,zrS,erE,okE,tkB,sEnd])
 simp only [Int.reduceLE,reduceIte,Int.reduceNeg] at b4
 have b5:=hin 5 (-9223372036854775808) 9223372036854775807 (by simp [sGrt,kS,slV,mayV,i64s,i64b,lmap,lS,gS,bS,fS,bdS,shV,o1,frS,stS,chS,mAS,usS,acS,erS,chE,gS2,lS2,bS2,fS2,sAcq,laS,lwS,lcS,kI1,nwB,oLat,rgB,clS,grB,rwS,erG,okG,bG,zrS,erE,okE,tkB,sEnd])
 simp only [Int.reduceLE,reduceIte,Int.reduceNeg] at b5
 have b6:=hin 6 (-9223372036854775808) 9223372036854775807 (by simp [sGrt,kS,slV,mayV,i64s,i64b,lmap,lS,gS,bS,fS,bdS,shV,o1,frS,stS,chS,mAS,usS,acS,erS,chE,gS2,lS2,bS2,fS2,sAcq,laS,lwS,lcS,kI1,nwB,oLat,rgB,clS,grB,rwS,erG,okG,bG,zrS,erE,okE,tkB,sEnd])
 simp only [Int.reduceLE,reduceIte,Int.reduceNeg] at b6
 have b7:=hin 7 (-9223372036854775808) 9223372036854775807 (by simp [sGrt,kS,slV,mayV,i64s,i64b,lmap,lS,gS,bS,fS,bdS,shV,o1,frS,stS,chS,mAS,usS,acS,erS,chE,gS2,lS2,bS2,fS2,sAcq,laS,lwS,lcS,kI1,nwB,oLat,rgB,clS,grB,rwS,erG,okG,bG,zrS,erE,okE,tkB,sEnd])
 simp only [Int.reduceLE,reduceIte,Int.reduceNeg] at b7
 have b8:=hin 8 (-9223372036854775808) 9223372036854775807 (by simp [sGrt,kS,slV,mayV,i64s,i64b,lmap,lS,gS,bS,fS,bdS,shV,o1,frS,stS,chS,mAS,usS,acS,erS,chE,gS2,lS2,bS2,fS2,sAcq,laS,lwS,lcS,kI1,nwB,oLat,rgB,clS,grB,rwS,erG,okG,bG,zrS,erE,okE,tkB,sEnd])
 simp only [Int.reduceLE,reduceIte,Int.reduceNeg] at b8
 have b9:=hin 9 (-9223372036854775808) 9223372036854775807 (by simp [sGrt,kS,slV,mayV,i64s,i64b,lmap,lS,gS,bS,fS,bdS,shV,o1,frS,stS,chS,mAS,usS,acS,erS,chE,gS2,lS2,bS2,fS2,sAcq,laS,lwS,lcS,kI1,nwB,oLat,rgB,clS,grB,rwS,erG,okG,bG,zrS,erE,okE,tkB,sEnd])
 simp only [Int.reduceLE,reduceIte,Int.reduceNeg] at b9
 exact ⟨b1,b2.1,b4,b5,b6,b7,b8,b9⟩
def sGrt_ob (k:Nat) (l:List Lf):Prop:=∀ (kv:Kv) (iv0:Nat→Int) (bv0:Nat→Bool),InB sGrt.B iv0→FT (sta FI FB kv iv0 bv0) (dlt dyn0) sGrt.F→∀ (iv:Nat→Int) (bv:Nat→Bool),Agr 10 iv0 bv0 iv bv→sGrt_inv iv0 bv0 k iv bv→∀ lf∈l,LfT (sta FI FB kv) sGrt.os (sGrt_inv iv0 bv0) (sGrt_mu iv0 bv0) k iv bv lf
theorem sGrt_o0:sGrt_ob 0 sGrt_L0:=by
 intro kv iv0 bv0 hin hF iv bv ha hi
 unfold sGrt_L0
 refine List.forall_mem_cons.2 ⟨?_,List.forall_mem_cons.2 ⟨?_,List.forall_mem_cons.2 ⟨?_,List.forall_mem_cons.2 ⟨?_,List.forall_mem_cons.2 ⟨?_,List.forall_mem_cons.2 ⟨?_,List.forall_mem_cons.2 ⟨?_,List.forall_mem_cons.2 ⟨?_,List.forall_mem_cons.2 ⟨?_,List.forall_mem_cons.2 ⟨?_,List.forall_mem_cons.2 ⟨?_,List.forall_mem_cons.2 ⟨?_,List.forall_mem_cons.2 ⟨?_,List.forall_mem_cons.2 ⟨?_,List.forall_mem_nil _⟩⟩⟩⟩⟩⟩⟩⟩⟩⟩⟩⟩⟩⟩
 all_goals
  intro δ hf
 all_goals
  obtain ⟨b1,b2,b4,b5,b6,b7,b8,b9⟩:=sGrt_b hin
 all_goals
  have a0:=ha.1 0 (by omega)
  have a1:=ha.1 1 (by omega)
  have a2:=ha.1 2 (by omega)
  have a3:=ha.1 3 (by omega)
  have a4:=ha.1 4 (by omega)
  have a5:=ha.1 5 (by omega)
  have a6:=ha.1 6 (by omega)
  have a7:=ha.1 7 (by omega)
  have a8:=ha.1 8 (by omega)
  have a9:=ha.1 9 (by omega)
 all_goals
  simp only [FT,TP,SB.tp,SI.tv,sta,IB.eval,and_true,true_and,ObsT,Ob.Tv,rowT,kix,In.tiv,↓tbvT,In.tbv,get_cons,get_nil,reduceIte,Nat.reduceEqDiff,Int.reduceToNat,Int.reduceAdd,Int.reduceSub,Int.reduceLE,Int.reduceLT,Int.reduceEq,ne_eq,Bool.false_eq_true,not_true_eq_false,not_false_eq_true,true_iff,false_iff,iff_true,iff_false,false_implies,implies_true,decT,decide_true,decide_false,Bool.decide_eq_true,ap2,pb2,FI_3,FI_3u,FI_8,FI_9,FI_3g,FI_3k,FI_8s,FI_8l,FI_8d,FB_1h,FB_1a,Int.toNat_natCast,Int.toNat_zero,FI_20,FI_22,FB_20,FB_22,sGrt_inv,sGrt_mu,sGrt,o1,othT,kS,slV,mayV,i64s,i64b,lmap,lS,gS,bS,fS,bdS,shV,o1,frS,stS,chS,mAS,usS,acS,erS,chE,gS2,lS2,bS2,fS2,sAcq,laS,lwS,lcS,kI1,nwB,oLat,rgB,clS,grB,rwS,erG,okG,bG,zrS,erE,okE,tkB,sEnd,a0,a1,a2,a3,a4,a5,a6,a7,a8,a9] at hf hi ⊢
 all_goals
  have c0:=@chk_0 (iv0 0) (iv0 1) (iv0 4) (iv0 5) (iv0 6)
 all_goals
  have c2:=@chk_2 (iv0 0) (iv0 1) (iv0 4) (iv0 5) (iv0 6)
 all_goals
  unfold shpS at c0 c2
 all_goals
  (repeat' (with_reducible apply And.intro))<;>first
  | omega
  | assumption
  | (unfold inM;omega)
  | exact trivial
  | (clear hin hF ha;grind)
theorem sGrt_c:LsC ((tm0 sGrt Tryz.f22 (Tryz.f22.body.getD .skip))::[]) sGrt.os [sGrt_L0]:=by
 unfold sGrt_L0
 exact ⟨List.forall_mem_cons.2 ⟨⟨⟨_,rfl,rfl⟩,by kernel_rfl⟩,List.forall_mem_cons.2 ⟨⟨⟨_,rfl,rfl⟩,by kernel_rfl⟩,List.forall_mem_cons.2 ⟨⟨⟨_,rfl,rfl⟩,by kernel_rfl⟩,List.forall_mem_cons.2 ⟨⟨⟨_,rfl,rfl⟩,by kernel_rfl⟩,List.forall_mem_cons.2 ⟨⟨⟨_,rfl,rfl⟩,by kernel_rfl⟩,List.forall_mem_cons.2 ⟨⟨⟨_,rfl,rfl⟩,by kernel_rfl⟩,List.forall_mem_cons.2 ⟨⟨⟨_,rfl,rfl⟩,by kernel_rfl⟩,List.forall_mem_cons.2 ⟨⟨⟨_,rfl,rfl⟩,by kernel_rfl⟩,List.forall_mem_cons.2 ⟨⟨⟨_,rfl,rfl⟩,by kernel_rfl⟩,List.forall_mem_cons.2 ⟨⟨⟨_,rfl,rfl⟩,by kernel_rfl⟩,List.forall_mem_cons.2 ⟨⟨⟨_,rfl,rfl⟩,by kernel_rfl⟩,List.forall_mem_cons.2 ⟨⟨⟨_,rfl,rfl⟩,by kernel_rfl⟩,List.forall_mem_cons.2 ⟨⟨⟨_,rfl,rfl⟩,by kernel_rfl⟩,List.forall_mem_cons.2 ⟨⟨⟨_,rfl,rfl⟩,by kernel_rfl⟩,List.forall_mem_nil _⟩⟩⟩⟩⟩⟩⟩⟩⟩⟩⟩⟩⟩⟩,trivial⟩
theorem sGrt_ok:sGrt.Ok Tryz.prog FI FB:=
 Con.of_plain (body:=Tryz.f22.body.getD .skip) pok fiok (EntsFor.cons sMay_ok (EntsFor.cons sBad_ok EntsFor.nil)) sGrt Tryz.func22 (by kernel_rfl) 10 [] (by kernel_rfl) [sGrt_L0] ⟨sGrt_h0,trivial⟩ sGrt_c
  sGrt_inv sGrt_mu (fun _ _ _=>trivial) fun kv iv0 bv0 hin hF k l iv bv hk ha hi=>match k,hk,hi with
  | 0,hk,hi=>by
    cases hk
    exact sGrt_o0 kv iv0 bv0 hin hF iv bv ha hi
  | k+1,hk,_=>by simp at hk
def sCan_L0:List Lf:=
 let x0_:SI:=(.ap 3 (.v 0) (.v 7) (.c 0) (.c 0) (.c 0) (.c 0))
 let x1_:SI:=(.ap 3 (.v 0) (.v 7) (.c 1) (.c 0) (.c 0) (.c 0))
 let x2_:SI:=(.ap 20 (.v 0) (.v 1) (.c 0) (.c 0) (.c 0) (.c 0))
 let f0_:List (SB×Bool):=[((.le (.v 1) (.v 3)),.true),((.le (.c 0) (.v 3)),.true)]
 let f1_:List (SB×Bool):=((.le (.c 1) (.v 4)),.true)::f0_
 let f2_:List (SB×Bool):=((.le (.v 4) (.c 64)),.true)::f1_
 let f3_:List (SB×Bool):=((.le (.c 1) (.v 5)),.true)::f2_
 let f4_:List (SB×Bool):=((.le (.v 5) (.c 8)),.true)::f3_
 let f5_:List (SB×Bool):=((.le (.c 1) (.v 6)),.true)::f4_
 let f6_:List (SB×Bool):=((.le (.v 6) (.c 4)),.true)::f5_
 let f7_:List (SB×Bool):=((.lt x2_ (.v 1)),.true)::((.le (.c (-1)) x2_),.true)::((.eq (.v 1) (.v 6)),.true)::f6_
 let f8_:List (SB×Bool):=((.le (.c 0) x2_),.false)::f7_
 let f9_:List (SB×Bool):=((.le (.c 0) (.v 7)),.true)::f8_
 let f10_:List (SB×Bool):=((.lt (.v 7) (.v 1)),.true)::f9_
 let f11_:List (SB×Bool):=((.eq (.v 8) (.c 0)),.false)::f10_
 let f12_:List (SB×Bool):=((.eq x0_ (.v 8)),.true)::f11_
 let f13_:List (SB×Bool):=((.eq x1_ (.c 2)),.false)::f12_
 [(.fin (((.le (.c 0) x2_),.true)::f7_) 0 ⟨⟨[],[]⟩,[],[],[]⟩ [] []),
  (.fin (((.eq (.v 8) (.c 0)),.true)::f10_) 2 ⟨⟨[],[]⟩,[],[],[]⟩ [] []),
  (.fin (((.eq x1_ (.c 2)),.true)::f12_) 3 ⟨⟨[],[]⟩,[],[],[]⟩ [] []),
  (.fin (((.le (.v 1) (.d 0)),.true)::((.eq x1_ (.c 1)),.true)::f13_) 5 ⟨⟨[],[]⟩,[(0,13)],[(0,(.d 0))],[]⟩ [] [.none]),
  (.fin (((.eq x1_ (.c 1)),.false)::f13_) 4 ⟨⟨[],[]⟩,[],[],[]⟩ [] []),
  (.fin (((.eq x0_ (.v 8)),.false)::f11_) 2 ⟨⟨[],[]⟩,[],[],[]⟩ [] []),
  (.fin (((.lt (.v 7) (.v 1)),.false)::f9_) 1 ⟨⟨[],[]⟩,[],[],[]⟩ [] []),
  (.fin (((.le (.c 0) (.v 7)),.false)::f8_) 1 ⟨⟨[],[]⟩,[],[],[]⟩ [] []),
  (.fin (((.eq (.v 1) (.v 6)),.false)::f6_) 0 ⟨⟨[],[]⟩,[],[],[]⟩ [] []),
  (.fin (((.le (.v 6) (.c 4)),.false)::f5_) 0 ⟨⟨[],[]⟩,[],[],[]⟩ [] []),
  (.fin (((.le (.c 1) (.v 6)),.false)::f4_) 0 ⟨⟨[],[]⟩,[],[],[]⟩ [] []),
  (.fin (((.le (.v 5) (.c 8)),.false)::f3_) 0 ⟨⟨[],[]⟩,[],[],[]⟩ [] []),
  (.fin (((.le (.c 1) (.v 5)),.false)::f2_) 0 ⟨⟨[],[]⟩,[],[],[]⟩ [] []),
  (.fin (((.le (.v 4) (.c 64)),.false)::f1_) 0 ⟨⟨[],[]⟩,[],[],[]⟩ [] []),
  (.fin (((.le (.c 1) (.v 4)),.false)::f0_) 0 ⟨⟨[],[]⟩,[],[],[]⟩ [] [])]
def sCan_run (T:Tm):=(ex (ccOf Tryz.prog BF [55,53,52,54] sCan) ((fun cc=>[sMay.ent cc,sBad.ent cc]) (ccOf Tryz.prog BF [55,53,52,54] sCan)) (dw (ccOf Tryz.prog BF [55,53,52,54] sCan) ((fun cc=>[sMay.ent cc,sBad.ent cc]) (ccOf Tryz.prog BF [55,53,52,54] sCan)) 1000 4) (stopX [60,66,89,91,58]) 20000 T.f T.fs T.H).lfs (ccOf Tryz.prog BF [55,53,52,54] sCan) ((tm0 sCan Tryz.f55 (Tryz.f55.body.getD .skip))::[]) sCan.os
theorem sCan_h0:sCan_run (tm0 sCan Tryz.f55 (Tryz.f55.body.getD .skip))=some sCan_L0:=by kernel_rfl
def sCan_inv:(Nat→Int)→(Nat→Bool)→Nat→(Nat→Int)→(Nat→Bool)→Prop:=fun _ _ _ _ _=>True
def sCan_mu:(Nat→Int)→(Nat→Bool)→Nat→(Nat→Int)→(Nat→Bool)→Nat:=fun _ _ _ _ _=>0
theorem sCan_b {iv0:Nat→Int} (hin:InB sCan.B iv0):(0≤iv0 1∧iv0 1≤64)∧0≤iv0 2∧((-9223372036854775808)≤iv0 4∧iv0 4≤9223372036854775807)∧((-9223372036854775808)≤iv0 5∧iv0 5≤9223372036854775807)∧((-9223372036854775808)≤iv0 6∧iv0 6≤9223372036854775807)∧((-9223372036854775808)≤iv0 7∧iv0 7≤9223372036854775807)∧((-9223372036854775808)≤iv0 8∧iv0 8≤9223372036854775807):=by
 have b1:=hin 1 0 64 (by simp [sCan,kS,slV,mayV,i64s,i64b,lmap,lS,gS,bS,fS,bdS,shV,o1,frS,stS,chS,mAS,usS,acS,erS,chE,gS2,lS2,bS2,fS2,sAcq,laS,lwS,lcS,kI1,nwB,oLat,rgB,clS,grB,rwS,erG,okG,bG,zrS,erE,okE,tkB,sEnd])
 simp only [Int.reduceLE,reduceIte,Int.reduceNeg] at b1
 have b2:=hin 2 0 (-1) (by simp [sCan,kS,slV,mayV,i64s,i64b,lmap,lS,gS,bS,fS,bdS,shV,o1,frS,stS,chS,mAS,usS,acS,erS,chE,gS2,lS2,bS2,fS2,sAcq,laS,lwS,lcS,kI1,nwB,oLat,rgB,clS,grB,rwS,erG,okG,bG,zrS,erE,okE,tkB,sEnd])
 simp only [Int.reduceLE,reduceIte,Int.reduceNeg] at b2
 have b4:=hin 4 (-9223372036854775808) 9223372036854775807 (by simp [sCan,kS,slV,mayV,i64s,i64b,lmap,lS,gS,bS,fS,bdS,shV,o1,frS,stS,chS,mAS,usS,acS,erS,chE,gS2,lS2,bS2,fS2,sAcq,laS,lwS,lcS,kI1,nwB,oLat,rgB,clS,grB,rwS,erG,okG,bG,zrS,erE,okE,tkB,sEnd])
 simp only [Int.reduceLE,reduceIte,Int.reduceNeg] at b4
 have b5:=hin 5 (-9223372036854775808) 9223372036854775807 (by simp [sCan,kS,slV,mayV,i64s,i64b,lmap,lS,gS,bS,fS,bdS,shV,o1,frS,stS,chS,mAS,usS,acS,erS,chE,gS2,lS2,bS2,fS2,sAcq,laS,lwS,lcS,kI1,nwB,oLat,rgB,clS,grB,rwS,erG,okG,bG,zrS,erE,okE,tkB,sEnd])
 simp only [Int.reduceLE,reduceIte,Int.reduceNeg] at b5
 have b6:=hin 6 (-9223372036854775808) 9223372036854775807 (by simp [sCan,kS,slV,mayV,i64s,i64b,lmap,lS,gS,bS,fS,bdS,shV,o1,frS,stS,chS,mAS,usS,acS,erS,chE,gS2,lS2,bS2,fS2,sAcq,laS,lwS,lcS,kI1,nwB,oLat,rgB,clS,grB,rwS,erG,okG,bG,zrS,erE,okE,tkB,sEnd])
 simp only [Int.reduceLE,reduceIte,Int.reduceNeg] at b6
 have b7:=hin 7 (-9223372036854775808) 9223372036854775807 (by simp [sCan,kS,slV,mayV,i64s,i64b,lmap,lS,gS,bS,fS,bdS,shV,o1,frS,stS,chS,mAS,usS,acS,erS,chE,gS2,lS2,bS2,fS2,sAcq,laS,lwS,lcS,kI1,nwB,oLat,rgB,clS,grB,rwS,erG,okG,bG,zrS,erE,okE,tkB,sEnd])
 simp only [Int.reduceLE,reduceIte,Int.reduceNeg] at b7
 have b8:=hin 8 (-9223372036854775808) 9223372036854775807 (by simp [sCan,kS,slV,mayV,i64s,i64b,lmap,lS,gS,bS,fS,bdS,shV,o1,frS,stS,chS,mAS,usS,acS,erS,chE,gS2,lS2,bS2,fS2,sAcq,laS,lwS,lcS,kI1,nwB,oLat,rgB,clS,grB,rwS,erG,okG,bG,zrS,erE,okE,tkB,sEnd])
 simp only [Int.reduceLE,reduceIte,Int.reduceNeg] at b8
 exact ⟨b1,b2.1,b4,b5,b6,b7,b8⟩
def sCan_ob (k:Nat) (l:List Lf):Prop:=∀ (kv:Kv) (iv0:Nat→Int) (bv0:Nat→Bool),InB sCan.B iv0→FT (sta FI FB kv iv0 bv0) (dlt dyn0) sCan.F→∀ (iv:Nat→Int) (bv:Nat→Bool),Agr 9 iv0 bv0 iv bv→sCan_inv iv0 bv0 k iv bv→∀ lf∈l,LfT (sta FI FB kv) sCan.os (sCan_inv iv0 bv0) (sCan_mu iv0 bv0) k iv bv lf
theorem sCan_o0:sCan_ob 0 sCan_L0:=by
 intro kv iv0 bv0 hin hF iv bv ha hi
 unfold sCan_L0
 refine List.forall_mem_cons.2 ⟨?_,List.forall_mem_cons.2 ⟨?_,List.forall_mem_cons.2 ⟨?_,List.forall_mem_cons.2 ⟨?_,List.forall_mem_cons.2 ⟨?_,List.forall_mem_cons.2 ⟨?_,List.forall_mem_cons.2 ⟨?_,List.forall_mem_cons.2 ⟨?_,List.forall_mem_cons.2 ⟨?_,List.forall_mem_cons.2 ⟨?_,List.forall_mem_cons.2 ⟨?_,List.forall_mem_cons.2 ⟨?_,List.forall_mem_cons.2 ⟨?_,List.forall_mem_cons.2 ⟨?_,List.forall_mem_cons.2 ⟨?_,List.forall_mem_nil _⟩⟩⟩⟩⟩⟩⟩⟩⟩⟩⟩⟩⟩⟩⟩
 all_goals
  intro δ hf
 all_goals
  obtain ⟨b1,b2,b4,b5,b6,b7,b8⟩:=sCan_b hin
 all_goals
  have a0:=ha.1 0 (by omega)
  have a1:=ha.1 1 (by omega)
  have a2:=ha.1 2 (by omega)
  have a3:=ha.1 3 (by omega)
  have a4:=ha.1 4 (by omega)
  have a5:=ha.1 5 (by omega)
  have a6:=ha.1 6 (by omega)
  have a7:=ha.1 7 (by omega)
  have a8:=ha.1 8 (by omega)
 all_goals
  simp only [FT,TP,SB.tp,SI.tv,sta,IB.eval,and_true,true_and,ObsT,Ob.Tv,rowT,kix,In.tiv,↓tbvT,In.tbv,get_cons,get_nil,reduceIte,Nat.reduceEqDiff,Int.reduceToNat,Int.reduceAdd,Int.reduceSub,Int.reduceLE,Int.reduceLT,Int.reduceEq,ne_eq,Bool.false_eq_true,not_true_eq_false,not_false_eq_true,true_iff,false_iff,iff_true,iff_false,false_implies,implies_true,decT,decide_true,decide_false,Bool.decide_eq_true,ap2,pb2,FI_3,FI_3u,FI_8,FI_9,FI_3g,FI_3k,FI_8s,FI_8l,FI_8d,FB_1h,FB_1a,Int.toNat_natCast,Int.toNat_zero,FI_20,FI_22,FB_20,FB_22,sCan_inv,sCan_mu,sCan,o1,othT,kS,slV,mayV,i64s,i64b,lmap,lS,gS,bS,fS,bdS,shV,o1,frS,stS,chS,mAS,usS,acS,erS,chE,gS2,lS2,bS2,fS2,sAcq,laS,lwS,lcS,kI1,nwB,oLat,rgB,clS,grB,rwS,erG,okG,bG,zrS,erE,okE,tkB,sEnd,a0,a1,a2,a3,a4,a5,a6,a7,a8] at hf hi ⊢
 all_goals
  have c0:=@chk_0 (iv0 0) (iv0 1) (iv0 4) (iv0 5) (iv0 6)
 all_goals
  have c2:=@chk_2 (iv0 0) (iv0 1) (iv0 4) (iv0 5) (iv0 6)
 all_goals
  unfold shpS at c0 c2
 all_goals
  (repeat' (with_reducible apply And.intro))<;>first
  | omega
  | assumption
  | (unfold inM;omega)
  | exact trivial
  | (clear hin hF ha;grind)
theorem sCan_c:LsC ((tm0 sCan Tryz.f55 (Tryz.f55.body.getD .skip))::[]) sCan.os [sCan_L0]:=by
 unfold sCan_L0
 exact ⟨List.forall_mem_cons.2 ⟨⟨⟨_,rfl,rfl⟩,by kernel_rfl⟩,List.forall_mem_cons.2 ⟨⟨⟨_,rfl,rfl⟩,by kernel_rfl⟩,List.forall_mem_cons.2 ⟨⟨⟨_,rfl,rfl⟩,by kernel_rfl⟩,List.forall_mem_cons.2 ⟨⟨⟨_,rfl,rfl⟩,by kernel_rfl⟩,List.forall_mem_cons.2 ⟨⟨⟨_,rfl,rfl⟩,by kernel_rfl⟩,List.forall_mem_cons.2 ⟨⟨⟨_,rfl,rfl⟩,by kernel_rfl⟩,List.forall_mem_cons.2 ⟨⟨⟨_,rfl,rfl⟩,by kernel_rfl⟩,List.forall_mem_cons.2 ⟨⟨⟨_,rfl,rfl⟩,by kernel_rfl⟩,List.forall_mem_cons.2 ⟨⟨⟨_,rfl,rfl⟩,by kernel_rfl⟩,List.forall_mem_cons.2 ⟨⟨⟨_,rfl,rfl⟩,by kernel_rfl⟩,List.forall_mem_cons.2 ⟨⟨⟨_,rfl,rfl⟩,by kernel_rfl⟩,List.forall_mem_cons.2 ⟨⟨⟨_,rfl,rfl⟩,by kernel_rfl⟩,List.forall_mem_cons.2 ⟨⟨⟨_,rfl,rfl⟩,by kernel_rfl⟩,List.forall_mem_cons.2 ⟨⟨⟨_,rfl,rfl⟩,by kernel_rfl⟩,List.forall_mem_cons.2 ⟨⟨⟨_,rfl,rfl⟩,by kernel_rfl⟩,List.forall_mem_nil _⟩⟩⟩⟩⟩⟩⟩⟩⟩⟩⟩⟩⟩⟩⟩,trivial⟩
theorem sCan_ok:sCan.Ok Tryz.prog FI FB:=
 Con.of_plain (body:=Tryz.f55.body.getD .skip) pok fiok (EntsFor.cons sMay_ok (EntsFor.cons sBad_ok EntsFor.nil)) sCan Tryz.func55 (by kernel_rfl) 9 [] (by kernel_rfl) [sCan_L0] ⟨sCan_h0,trivial⟩ sCan_c
  sCan_inv sCan_mu (fun _ _ _=>trivial) fun kv iv0 bv0 hin hF k l iv bv hk ha hi=>match k,hk,hi with
  | 0,hk,hi=>by
    cases hk
    exact sCan_o0 kv iv0 bv0 hin hF iv bv ha hi
  | k+1,hk,_=>by simp at hk
def sRel_L0:List Lf:=
 let x0_:SI:=(.ap 3 (.v 0) (.v 7) (.c 0) (.c 0) (.c 0) (.c 0))
 let x1_:SI:=(.ap 3 (.v 0) (.v 7) (.c 1) (.c 0) (.c 0) (.c 0))
 let x2_:SI:=(.ap 20 (.v 0) (.v 1) (.c 0) (.c 0) (.c 0) (.c 0))
 let f0_:List (SB×Bool):=[((.le (.v 1) (.v 3)),.true),((.le (.c 0) (.v 3)),.true)]
 let f1_:List (SB×Bool):=((.le (.c 1) (.v 4)),.true)::f0_
 let f2_:List (SB×Bool):=((.le (.v 4) (.c 64)),.true)::f1_
 let f3_:List (SB×Bool):=((.le (.c 1) (.v 5)),.true)::f2_
 let f4_:List (SB×Bool):=((.le (.v 5) (.c 8)),.true)::f3_
 let f5_:List (SB×Bool):=((.le (.c 1) (.v 6)),.true)::f4_
 let f6_:List (SB×Bool):=((.le (.v 6) (.c 4)),.true)::f5_
 let f7_:List (SB×Bool):=((.lt x2_ (.v 1)),.true)::((.le (.c (-1)) x2_),.true)::((.eq (.v 1) (.v 6)),.true)::f6_
 let f8_:List (SB×Bool):=((.le (.c 0) x2_),.false)::f7_
 let f9_:List (SB×Bool):=((.le (.c 0) (.v 7)),.true)::f8_
 let f10_:List (SB×Bool):=((.lt (.v 7) (.v 1)),.true)::f9_
 let f11_:List (SB×Bool):=((.eq (.v 8) (.c 0)),.false)::f10_
 let f12_:List (SB×Bool):=((.eq x0_ (.v 8)),.true)::f11_
 let f13_:List (SB×Bool):=((.eq x1_ (.c 1)),.false)::f12_
 [(.fin (((.le (.c 0) x2_),.true)::f7_) 0 ⟨⟨[],[]⟩,[],[],[]⟩ [] []),
  (.fin (((.eq (.v 8) (.c 0)),.true)::f10_) 2 ⟨⟨[],[]⟩,[],[],[]⟩ [] []),
  (.fin (((.eq x1_ (.c 1)),.true)::f12_) 3 ⟨⟨[],[]⟩,[],[],[]⟩ [] []),
  (.fin (((.le (.v 1) (.d 0)),.true)::((.eq x1_ (.c 2)),.true)::f13_) 5 ⟨⟨[],[]⟩,[(0,13)],[(0,(.d 0))],[]⟩ [] [.none]),
  (.fin (((.eq x1_ (.c 2)),.false)::f13_) 4 ⟨⟨[],[]⟩,[],[],[]⟩ [] []),
  (.fin (((.eq x0_ (.v 8)),.false)::f11_) 2 ⟨⟨[],[]⟩,[],[],[]⟩ [] []),
  (.fin (((.lt (.v 7) (.v 1)),.false)::f9_) 1 ⟨⟨[],[]⟩,[],[],[]⟩ [] []),
  (.fin (((.le (.c 0) (.v 7)),.false)::f8_) 1 ⟨⟨[],[]⟩,[],[],[]⟩ [] []),
  (.fin (((.eq (.v 1) (.v 6)),.false)::f6_) 0 ⟨⟨[],[]⟩,[],[],[]⟩ [] []),
  (.fin (((.le (.v 6) (.c 4)),.false)::f5_) 0 ⟨⟨[],[]⟩,[],[],[]⟩ [] []),
  (.fin (((.le (.c 1) (.v 6)),.false)::f4_) 0 ⟨⟨[],[]⟩,[],[],[]⟩ [] []),
  (.fin (((.le (.v 5) (.c 8)),.false)::f3_) 0 ⟨⟨[],[]⟩,[],[],[]⟩ [] []),
  (.fin (((.le (.c 1) (.v 5)),.false)::f2_) 0 ⟨⟨[],[]⟩,[],[],[]⟩ [] []),
  (.fin (((.le (.v 4) (.c 64)),.false)::f1_) 0 ⟨⟨[],[]⟩,[],[],[]⟩ [] []),
  (.fin (((.le (.c 1) (.v 4)),.false)::f0_) 0 ⟨⟨[],[]⟩,[],[],[]⟩ [] [])]
def sRel_run (T:Tm):=(ex (ccOf Tryz.prog BF [55,53,52,54] sRel) ((fun cc=>[sMay.ent cc,sBad.ent cc]) (ccOf Tryz.prog BF [55,53,52,54] sRel)) (dw (ccOf Tryz.prog BF [55,53,52,54] sRel) ((fun cc=>[sMay.ent cc,sBad.ent cc]) (ccOf Tryz.prog BF [55,53,52,54] sRel)) 1000 4) (stopX [60,66,89,91,58]) 20000 T.f T.fs T.H).lfs (ccOf Tryz.prog BF [55,53,52,54] sRel) ((tm0 sRel Tryz.f55 (Tryz.f55.body.getD .skip))::[]) sRel.os
theorem sRel_h0:sRel_run (tm0 sRel Tryz.f55 (Tryz.f55.body.getD .skip))=some sRel_L0:=by kernel_rfl
def sRel_inv:(Nat→Int)→(Nat→Bool)→Nat→(Nat→Int)→(Nat→Bool)→Prop:=fun _ _ _ _ _=>True
def sRel_mu:(Nat→Int)→(Nat→Bool)→Nat→(Nat→Int)→(Nat→Bool)→Nat:=fun _ _ _ _ _=>0
theorem sRel_b {iv0:Nat→Int} (hin:InB sRel.B iv0):(0≤iv0 1∧iv0 1≤64)∧0≤iv0 2∧((-9223372036854775808)≤iv0 4∧iv0 4≤9223372036854775807)∧((-9223372036854775808)≤iv0 5∧iv0 5≤9223372036854775807)∧((-9223372036854775808)≤iv0 6∧iv0 6≤9223372036854775807)∧((-9223372036854775808)≤iv0 7∧iv0 7≤9223372036854775807)∧((-9223372036854775808)≤iv0 8∧iv0 8≤9223372036854775807):=by
 have b1:=hin 1 0 64 (by simp [sRel,kS,slV,mayV,i64s,i64b,lmap,lS,gS,bS,fS,bdS,shV,o1,frS,stS,chS,mAS,usS,acS,erS,chE,gS2,lS2,bS2,fS2,sAcq,laS,lwS,lcS,kI1,nwB,oLat,rgB,clS,grB,rwS,erG,okG,bG,zrS,erE,okE,tkB,sEnd])
 simp only [Int.reduceLE,reduceIte,Int.reduceNeg] at b1
 have b2:=hin 2 0 (-1) (by simp [sRel,kS,slV,mayV,i64s,i64b,lmap,lS,gS,bS,fS,bdS,shV,o1,frS,stS,chS,mAS,usS,acS,erS,chE,gS2,lS2,bS2,fS2,sAcq,laS,lwS,lcS,kI1,nwB,oLat,rgB,clS,grB,rwS,erG,okG,bG,zrS,erE,okE,tkB,sEnd])
 simp only [Int.reduceLE,reduceIte,Int.reduceNeg] at b2
 have b4:=hin 4 (-9223372036854775808) 9223372036854775807 (by simp [sRel,kS,slV,mayV,i64s,i64b,lmap,lS,gS,bS,fS,bdS,shV,o1,frS,stS,chS,mAS,usS,acS,erS,chE,gS2,lS2,bS2,fS2,sAcq,laS,lwS,lcS,kI1,nwB,oLat,rgB,clS,grB,rwS,erG,okG,bG,zrS,erE,okE,tkB,sEnd])
 simp only [Int.reduceLE,reduceIte,Int.reduceNeg] at b4
 have b5:=hin 5 (-9223372036854775808) 9223372036854775807 (by simp [sRel,kS,slV,mayV,i64s,i64b,lmap,lS,gS,bS,fS,bdS,shV,o1,frS,stS,chS,mAS,usS,acS,erS,chE,gS2,lS2,bS2,fS2,sAcq,laS,lwS,lcS,kI1,nwB,oLat,rgB,clS,grB,rwS,erG,okG,bG,zrS,erE,okE,tkB,sEnd])
 simp only [Int.reduceLE,reduceIte,Int.reduceNeg] at b5
 have b6:=hin 6 (-9223372036854775808) 9223372036854775807 (by simp [sRel,kS,slV,mayV,i64s,i64b,lmap,lS,gS,bS,fS,bdS,shV,o1,frS,stS,chS,mAS,usS,acS,erS,chE,gS2,lS2,bS2,fS2,sAcq,laS,lwS,lcS,kI1,nwB,oLat,rgB,clS,grB,rwS,erG,okG,bG,zrS,erE,okE,tkB,sEnd])
 simp only [Int.reduceLE,reduceIte,Int.reduceNeg] at b6
 have b7:=hin 7 (-9223372036854775808) 9223372036854775807 (by simp [sRel,kS,slV,mayV,i64s,i64b,lmap,lS,gS,bS,fS,bdS,shV,o1,frS,stS,chS,mAS,usS,acS,erS,chE,gS2,lS2,bS2,fS2,sAcq,laS,lwS,lcS,kI1,nwB,oLat,rgB,clS,grB,rwS,erG,okG,bG,zrS,erE,okE,tkB,sEnd])
 simp only [Int.reduceLE,reduceIte,Int.reduceNeg] at b7
 have b8:=hin 8 (-9223372036854775808) 9223372036854775807 (by simp [sRel,kS,slV,mayV,i64s,i64b,lmap,lS,gS,bS,fS,bdS,shV,o1,frS,stS,chS,mAS,usS,acS,erS,chE,gS2,lS2,bS2,fS2,sAcq,laS,lwS,lcS,kI1,nwB,oLat,rgB,clS,grB,rwS,erG,okG,bG,zrS,erE,okE,tkB,sEnd])
 simp only [Int.reduceLE,reduceIte,Int.reduceNeg] at b8
 exact ⟨b1,b2.1,b4,b5,b6,b7,b8⟩
def sRel_ob (k:Nat) (l:List Lf):Prop:=∀ (kv:Kv) (iv0:Nat→Int) (bv0:Nat→Bool),InB sRel.B iv0→FT (sta FI FB kv iv0 bv0) (dlt dyn0) sRel.F→∀ (iv:Nat→Int) (bv:Nat→Bool),Agr 9 iv0 bv0 iv bv→sRel_inv iv0 bv0 k iv bv→∀ lf∈l,LfT (sta FI FB kv) sRel.os (sRel_inv iv0 bv0) (sRel_mu iv0 bv0) k iv bv lf
theorem sRel_o0:sRel_ob 0 sRel_L0:=by
 intro kv iv0 bv0 hin hF iv bv ha hi
 unfold sRel_L0
 refine List.forall_mem_cons.2 ⟨?_,List.forall_mem_cons.2 ⟨?_,List.forall_mem_cons.2 ⟨?_,List.forall_mem_cons.2 ⟨?_,List.forall_mem_cons.2 ⟨?_,List.forall_mem_cons.2 ⟨?_,List.forall_mem_cons.2 ⟨?_,List.forall_mem_cons.2 ⟨?_,List.forall_mem_cons.2 ⟨?_,List.forall_mem_cons.2 ⟨?_,List.forall_mem_cons.2 ⟨?_,List.forall_mem_cons.2 ⟨?_,List.forall_mem_cons.2 ⟨?_,List.forall_mem_cons.2 ⟨?_,List.forall_mem_cons.2 ⟨?_,List.forall_mem_nil _⟩⟩⟩⟩⟩⟩⟩⟩⟩⟩⟩⟩⟩⟩⟩
 all_goals
  intro δ hf
 all_goals
  obtain ⟨b1,b2,b4,b5,b6,b7,b8⟩:=sRel_b hin
 all_goals
  have a0:=ha.1 0 (by omega)
  have a1:=ha.1 1 (by omega)
  have a2:=ha.1 2 (by omega)
  have a3:=ha.1 3 (by omega)
  have a4:=ha.1 4 (by omega)
  have a5:=ha.1 5 (by omega)
  have a6:=ha.1 6 (by omega)
  have a7:=ha.1 7 (by omega)
  have a8:=ha.1 8 (by omega)
 all_goals
  simp only [FT,TP,SB.tp,SI.tv,sta,IB.eval,and_true,true_and,ObsT,Ob.Tv,rowT,kix,In.tiv,↓tbvT,In.tbv,get_cons,get_nil,reduceIte,Nat.reduceEqDiff,Int.reduceToNat,Int.reduceAdd,Int.reduceSub,Int.reduceLE,Int.reduceLT,Int.reduceEq,ne_eq,Bool.false_eq_true,not_true_eq_false,not_false_eq_true,true_iff,false_iff,iff_true,iff_false,false_implies,implies_true,decT,decide_true,decide_false,Bool.decide_eq_true,ap2,pb2,FI_3,FI_3u,FI_8,FI_9,FI_3g,FI_3k,FI_8s,FI_8l,FI_8d,FB_1h,FB_1a,Int.toNat_natCast,Int.toNat_zero,FI_20,FI_22,FB_20,FB_22,sRel_inv,sRel_mu,sRel,o1,othT,kS,slV,mayV,i64s,i64b,lmap,lS,gS,bS,fS,bdS,shV,o1,frS,stS,chS,mAS,usS,acS,erS,chE,gS2,lS2,bS2,fS2,sAcq,laS,lwS,lcS,kI1,nwB,oLat,rgB,clS,grB,rwS,erG,okG,bG,zrS,erE,okE,tkB,sEnd,a0,a1,a2,a3,a4,a5,a6,a7,a8] at hf hi ⊢
 all_goals
  have c0:=@chk_0 (iv0 0) (iv0 1) (iv0 4) (iv0 5) (iv0 6)
 all_goals
  have c2:=@chk_2 (iv0 0) (iv0 1) (iv0 4) (iv0 5) (iv0 6)
 all_goals
  unfold shpS at c0 c2
 all_goals
  (repeat' (with_reducible apply And.intro))<;>first
  | omega
  | assumption
  | (unfold inM;omega)
  | exact trivial
  | (clear hin hF ha;grind)
theorem sRel_c:LsC ((tm0 sRel Tryz.f55 (Tryz.f55.body.getD .skip))::[]) sRel.os [sRel_L0]:=by
 unfold sRel_L0
 exact ⟨List.forall_mem_cons.2 ⟨⟨⟨_,rfl,rfl⟩,by kernel_rfl⟩,List.forall_mem_cons.2 ⟨⟨⟨_,rfl,rfl⟩,by kernel_rfl⟩,List.forall_mem_cons.2 ⟨⟨⟨_,rfl,rfl⟩,by kernel_rfl⟩,List.forall_mem_cons.2 ⟨⟨⟨_,rfl,rfl⟩,by kernel_rfl⟩,List.forall_mem_cons.2 ⟨⟨⟨_,rfl,rfl⟩,by kernel_rfl⟩,List.forall_mem_cons.2 ⟨⟨⟨_,rfl,rfl⟩,by kernel_rfl⟩,List.forall_mem_cons.2 ⟨⟨⟨_,rfl,rfl⟩,by kernel_rfl⟩,List.forall_mem_cons.2 ⟨⟨⟨_,rfl,rfl⟩,by kernel_rfl⟩,List.forall_mem_cons.2 ⟨⟨⟨_,rfl,rfl⟩,by kernel_rfl⟩,List.forall_mem_cons.2 ⟨⟨⟨_,rfl,rfl⟩,by kernel_rfl⟩,List.forall_mem_cons.2 ⟨⟨⟨_,rfl,rfl⟩,by kernel_rfl⟩,List.forall_mem_cons.2 ⟨⟨⟨_,rfl,rfl⟩,by kernel_rfl⟩,List.forall_mem_cons.2 ⟨⟨⟨_,rfl,rfl⟩,by kernel_rfl⟩,List.forall_mem_cons.2 ⟨⟨⟨_,rfl,rfl⟩,by kernel_rfl⟩,List.forall_mem_cons.2 ⟨⟨⟨_,rfl,rfl⟩,by kernel_rfl⟩,List.forall_mem_nil _⟩⟩⟩⟩⟩⟩⟩⟩⟩⟩⟩⟩⟩⟩⟩,trivial⟩
theorem sRel_ok:sRel.Ok Tryz.prog FI FB:=
 Con.of_plain (body:=Tryz.f55.body.getD .skip) pok fiok (EntsFor.cons sMay_ok (EntsFor.cons sBad_ok EntsFor.nil)) sRel Tryz.func55 (by kernel_rfl) 9 [] (by kernel_rfl) [sRel_L0] ⟨sRel_h0,trivial⟩ sRel_c
  sRel_inv sRel_mu (fun _ _ _=>trivial) fun kv iv0 bv0 hin hF k l iv bv hk ha hi=>match k,hk,hi with
  | 0,hk,hi=>by
    cases hk
    exact sRel_o0 kv iv0 bv0 hin hF iv bv ha hi
  | k+1,hk,_=>by simp at hk
end
end Go.Sx.Sl
