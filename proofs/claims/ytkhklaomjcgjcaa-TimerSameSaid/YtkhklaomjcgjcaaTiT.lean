/- Timers: the document's, by contract. -/
import Derived.Test.YtkhklaomjcgjcaaTiP
namespace Go.Sx.Ti
set_option linter.unusedVariables false
set_option linter.unusedSimpArgs false
set_option maxRecDepth 100000
set_option maxHeartbeats 0
noncomputable section
open Go Go.Sx Go.Proofs
def ofT:SI:=.op .add (.v 2) (.op .mul (.op .imin duT (.op .add (.v 3) (.c (-1)))) (.c 2))
def qTt:SV:=.ag [.it .i64 nwT,.sl (.k 0) ofT (.op .add (.v 1) (.op .mul (.c (-1)) duT)) (.op .add (.v 3) (.op .mul (.c (-1)) duT))]
def rTickN:Con:=⟨37,[0,1,2,3,4],[qT],gT,bTt,fT,
 [⟨[(.lt (.c 0) duT,false)],.tp [.ag [.it .i64 nwT,lT],.sn],[],0,0,[]⟩,
  ⟨[(.lt (.c 0) duT,true)],.tp [qTt,.sl (.n 0) (.c 0) duT (.d 0)],[(0,.arr kI (.ap 30 (.v 0) duT (.c 0) (.c 0) (.c 0) (.c 0)) duT 3 (.d 0))],1,1,[(.le duT (.d 0),true),(.le duT (.v 1),true),(.le (.c 1) (.v 3),true)]⟩]⟩
theorem fnd_some {d n k i:Int} (hn:n≤4096) (h0:0≤i) (hi:i < n) (hp:fl d i.toNat 0=k) (h:∀ j:Nat,(j:Int) < i→fl d j 0≠k):fndT d n k=i:=by
 unfold fndT;rw [Int.min_eq_left hn];exact fstI_some h0 hi hp h
theorem fnd_none {d n k:Int} (hn:n≤4096) (h:∀ j:Nat,(j:Int) < n→fl d j 0≠k):fndT d n k=-1:=by
 unfold fndT;rw [Int.min_eq_left hn];exact fstI_none h
theorem fnd_cases (d k:Int) {n:Int} (hn:n≤4096):(fndT d n k=-1∧∀ j:Nat,(j:Int) < n→fl d j 0≠k)∨(0≤fndT d n k∧fndT d n k < n∧fl d (fndT d n k).toNat 0=k∧∀ j:Nat,(j:Int) < fndT d n k→fl d j 0≠k):=by
 unfold fndT;rw [Int.min_eq_left hn];exact fstI_cases (fun j=>fl d j 0=k) n
theorem ne_suc {d k i:Int} (h:∀ j:Nat,(j:Int) < i→fl d j 0≠k) (h0:0≤i) (e:fl d i.toNat 0≠k):∀ j:Nat,(j:Int) < i+1→fl d j 0≠k:=fun j hj=>by
 by_cases hj':(j:Int) < i
 ·exact h j hj'
 ·have:j=i.toNat:=by omega
  subst this;exact e
def bfr (d k a:Int) (j:Nat):Prop:=fl d j 1 < a∨(fl d j 1=a∧fl d j 0 < k)
theorem bfr_suc {d k a i:Int} (h:∀ j:Nat,(j:Int) < i→bfr d k a j) (h0:0≤i) (e:bfr d k a i.toNat):∀ j:Nat,(j:Int) < i+1→bfr d k a j:=fun j hj=>by
 by_cases hj':(j:Int) < i
 ·exact h j hj'
 ·have:j=i.toNat:=by omega
  subst this;exact e
theorem pos_eq {d n k a i:Int} (hn:n≤4096) (h0:0≤i) (hi:i≤n) (h:∀ j:Nat,(j:Int) < i→bfr d k a j) (hp:i < n→¬ bfr d k a i.toNat):posT d n k a=i:=by
 unfold posT;rw [Int.min_eq_left hn];exact frst_eq h0 hi (fun j hj hh=>hh (h j hj)) hp
theorem pos_spec {d n k a:Int} (h0:0≤n) (hn:n≤4096):0≤posT d n k a∧posT d n k a≤n∧(∀ j:Nat,(j:Int) < posT d n k a→bfr d k a j)∧(posT d n k a < n→¬ bfr d k a (posT d n k a).toNat):=by
 unfold posT;rw [Int.min_eq_left hn]
 obtain ⟨a1,a2,a3,a4⟩:=frst_spec (fun j=>¬ (fl d j 1 < a∨(fl d j 1=a∧fl d j 0 < k))) h0
 exact ⟨a1,a2,fun j hj=>Classical.not_not.1 (a3 j hj),a4⟩
theorem fl_ins {d n p k a:Int} (hk:in64 k) (ha:in64 a) {j f:Nat} (hj:(j:Int) < n+1) (hf:f < 2):fl (insT d n p k a) j f=if (j:Int) < p then fl d j f else if (j:Int)=p then (if f=0 then k else a) else fl d (j - 1) f:=by
 unfold insT
 rw [fl_arr (by omega) hf]
 ·rfl
 ·unfold insG
  split
  ·exact fl_has _ _ _
  ·split
   ·split<;>assumption
   ·exact fl_has _ _ _
theorem fl_set2 (c j x y:Int) (hx:in64 x) (hy:in64 y) (j' f':Nat) (hf:f' < 2):fl (setC (setC c j 0 x) j 1 y) j' f'=if j'=j.toNat then (if f'=0 then x else y) else fl c j' f':=by
 rw [fl_set,fl_set,w64_eq hx,w64_eq hy]
 by_cases h:j'=j.toNat
 ·have:f'=0∨f'=1:=by omega
  rcases this with e | e<;>simp [h,e]
 ·simp [h]
theorem ins_a {d n p k a i:Int} (hk:in64 k) (ha:in64 a) (h0:0≤i) (hi:i≤n) (hp:p=i) {j f:Nat} (hj:(j:Int) < n+1) (hf:f < 2):fl (insT d n p k a) j f=fl (blitC (setC (setC d i 0 k) i 1 a) (i+1) d i (n - i)) j f:=by
 have c1:((i+1).toNat≤j∧j < (i+1).toNat+(n - i).toNat)↔i < (j:Int):=by omega
 have c2:j=i.toNat↔(j:Int)=i:=by omega
 rw [fl_ins hk ha hj hf,fl_blit,fl_set2 _ _ _ _ hk ha _ _ hf,hp]
 simp only [c1,c2]
 by_cases h1:(j:Int) < i
 ·simp only [if_pos h1,if_neg (show ¬ i < (j:Int) by omega),if_neg (show ¬ (j:Int)=i by omega)]
 ·by_cases h2:(j:Int)=i
  ·simp only [if_neg h1,if_pos h2,if_neg (show ¬ i < (j:Int) by omega)]
  ·simp only [if_neg h1,if_neg h2,if_pos (show i < (j:Int) by omega)]
   congr 1;omega
theorem ins_b {d n p k a i:Int} (hk:in64 k) (ha:in64 a) (h0:0≤i) (hi:i=n) (hp:p=i) {j f:Nat} (hj:(j:Int) < n+1) (hf:f < 2):fl (insT d n p k a) j f=fl (setC (setC d i 0 k) i 1 a) j f:=by
 have c2:j=i.toNat↔(j:Int)=i:=by omega
 rw [fl_ins hk ha hj hf,fl_set2 _ _ _ _ hk ha _ _ hf,hp]
 simp only [c2]
 by_cases h1:(j:Int) < i
 ·simp only [if_pos h1,if_neg (show ¬ (j:Int)=i by omega)]
 ·simp only [if_neg h1,if_pos (show (j:Int)=i by omega)]
theorem fl_del {d n p:Int} {j f:Nat} (hj:(j:Int) < n - 1) (hf:f < 2):fl (delT d n p) j f=fl d (if (j:Int) < p then j else j+1) f:=by
 unfold delT
 rw [fl_arr (by omega) hf]
 exact fl_has _ _ _
theorem del_a {d n p:Int} (hp:n=p+1):∀ j:Nat,(j:Int) < n+-1→fl (delT d n p) j 0=fl d j 0∧fl (delT d n p) j 1=fl d j 1:=fun j hj=>by
 rw [fl_del (by omega) (by omega),fl_del (by omega) (by omega),if_pos (by omega)];exact ⟨rfl,rfl⟩
theorem del_b1 {d n p:Int} (h0:0≤p) (hp:p < n) {j f:Nat} (hj:(j:Int) < n+-1) (hf:f < 2):fl (delT d n p) j f=fl (blitC d p d (p+1) (n - (p+1))) j f:=by
 rw [fl_del (by omega) hf,fl_blit]
 by_cases h:(j:Int) < p
 ·rw [if_pos h,if_neg (by omega)]
 ·rw [if_neg h,if_pos (by omega)];congr 1;omega
theorem del_b {d n p:Int} (h0:0≤p) (hp:p < n):∀ j:Nat,(j:Int) < n+-1→fl (delT d n p) j 0=fl (blitC d p d (p+1) (n - (p+1))) j 0∧fl (delT d n p) j 1=fl (blitC d p d (p+1) (n - (p+1))) j 1:=fun j hj=>⟨del_b1 h0 hp hj (by omega),del_b1 h0 hp hj (by omega)⟩
theorem le_1 {d now:Int} (h:fl d 0 1≤now):∀ j:Nat,(j:Int) < 1→fl d j 1≤now:=fun j hj=>by
 have:j=0:=by omega
 subst this;exact h
theorem eq_1 {d x:Int} (hx:in64 x) (h:x=fl d 0 0):∀ j:Nat,(j:Int) < 1→fl (setC 0 0 0 x) j 0=fl d j 0:=fun j hj=>by
 have:j=0:=by omega
 subst this;rw [fl_set0 _ _ _ hx,if_pos (by simp)];exact h
theorem fl_col {d n:Int} {j:Nat} (hj:(j:Int) < n):fl (colT d n) j 0=fl d j 0:=by
 unfold colT
 rw [fl_arr (by omega) (by omega)]
 exact fl_has _ _ _
theorem col_eq {a d n:Int} (h:∀ j:Nat,(j:Int) < n→fl a j 0=fl d j 0):∀ j:Nat,(j:Int) < n→fl (colT d n) j 0=fl a j 0:=fun j hj=>by rw [fl_col hj,h j hj]
theorem dueT_eq {d n now i:Int} (hn:n≤4096) (h0:0≤i) (hi:i≤n) (h:∀ j:Nat,(j:Int) < i→fl d j 1≤now) (hp:i < n→¬ fl d i.toNat 1≤now):dueT d n now=i:=by
 unfold dueT;rw [Int.min_eq_left hn];exact frst_eq h0 hi (fun j hj hh=>hh (h j hj)) hp
theorem dueT_spec {d n now:Int} (h0:0≤n) (hn:n≤4096):0≤dueT d n now∧dueT d n now≤n∧(∀ j:Nat,(j:Int) < dueT d n now→fl d j 1≤now)∧(dueT d n now < n→¬ fl d (dueT d n now).toNat 1≤now):=by
 unfold dueT;rw [Int.min_eq_left hn]
 obtain ⟨a1,a2,a3,a4⟩:=frst_spec (fun j=>¬ fl d j 1≤now) h0
 exact ⟨a1,a2,fun j hj=>Classical.not_not.1 (a3 j hj),a4⟩
theorem le_suc {d now i:Int} (h:∀ j:Nat,(j:Int) < i→fl d j 1≤now) (h0:0≤i) (e:fl d i.toNat 1≤now):∀ j:Nat,(j:Int) < i+1→fl d j 1≤now:=fun j hj=>by
 by_cases hj':(j:Int) < i
 ·exact h j hj'
 ·have:j=i.toNat:=by omega
  subst this;exact e
theorem eq_suc {a d i x:Int} (h:∀ j:Nat,(j:Int) < i→fl a j 0=fl d j 0) (h0:0≤i) (hx:in64 x) (e:x=fl d i.toNat 0):∀ j:Nat,(j:Int) < i+1→fl (setC a i 0 x) j 0=fl d j 0:=fun j hj=>by
 rw [fl_set0 _ _ _ hx]
 by_cases hj':(j:Int) < i
 ·rw [if_neg (by omega)];exact h j hj'
 ·have:j=i.toNat:=by omega
  subst this;rw [if_pos rfl,e]
def rFind_T1:Tm:=⟨⟨38,22,[(5,(.it .i64 (.v 26))),(2,(.pt (.n 0) (.c 0))),(1,(.it .i64 (.v 5)))],[(.code (atC Try.f38 [1,0,1,0,0])),(.inLoop (atC Try.f38 [1,0,1,0,0])),(.inBlock 0),(.code (atC Try.f38 [1,1]))],[],.none⟩,[],
    ⟨[(0,(.cells [(.it .i64 (.v 4)),(.sl (.k 0) (.v 2) (.v 1) (.v 3))] 44))],1,0,0,[((.le (.v 1) (.v 3)),.true),((.le (.c 0) (.v 3)),.true)],[1,0],[(5,((-9223372036854775808),9223372036854775807)),(1,(0,4096)),(2,(0,(-1))),(4,((-9223372036854775808),9223372036854775807)),(26,(0,(-1)))]⟩,[26]⟩
def rFind_L0:List Lf:=
 [(.cut ([((.le (.v 1) (.v 3)),.true),((.le (.c 0) (.v 3)),.true)]) 1 ⟨⟨[(26,(.c 0))],[]⟩,[(0,0)],[],[]⟩ [] (shT rFind_T1 ⟨⟨[(26,(.c 0))],[]⟩,[(0,0)],[],[]⟩))]
def rFind_L1:List Lf:=
 let x0_:SI:=(.ap 3 (.v 0) (.v 26) (.c 0) (.c 0) (.c 0) (.c 0))
 let x1_:SI:=(.ap 26 (.v 0) (.v 1) (.v 5) (.c 0) (.c 0) (.c 0))
 let f0_:List (SB×Bool):=[((.le (.v 1) (.v 3)),.true),((.le (.c 0) (.v 3)),.true)]
 let f1_:List (SB×Bool):=((.lt (.v 26) (.v 1)),.true)::f0_
 [(.fin (((.eq x0_ (.v 5)),.true)::f1_) 0 ⟨⟨[],[]⟩,[],[],[]⟩ [(.ei (.ap 26 (.v 0) (.v 1) (.v 5) (.c 0) (.c 0) (.c 0)) (.v 26)),(.fa (.lt x1_ (.v 1)) .true)] []),
  (.cut (((.eq x0_ (.v 5)),.false)::f1_) 1 ⟨⟨[(26,(.op .add (.v 26) (.c 1)))],[]⟩,[(0,0)],[],[]⟩ [] (shT rFind_T1 ⟨⟨[(26,(.op .add (.v 26) (.c 1)))],[]⟩,[(0,0)],[],[]⟩)),
  (.fin (((.lt (.v 26) (.v 1)),.false)::f0_) 0 ⟨⟨[],[]⟩,[],[],[]⟩ [(.ei (.ap 26 (.v 0) (.v 1) (.v 5) (.c 0) (.c 0) (.c 0)) (.c (-1))),(.fa (.lt x1_ (.v 1)) .true)] [])]
def rFind_run (T:Tm):=(ex (ccOf Try.prog BF [62,32] rFind) ((fun _=>[]) (ccOf Try.prog BF [62,32] rFind)) (dw (ccOf Try.prog BF [62,32] rFind) ((fun _=>[]) (ccOf Try.prog BF [62,32] rFind)) 1000 4) (stopX []) 4000 T.f T.fs T.H).lfs (ccOf Try.prog BF [62,32] rFind) ((tm0 rFind Try.f38 (Try.f38.body.getD .skip))::[rFind_T1]) rFind.os
theorem rFind_h0:rFind_run (tm0 rFind Try.f38 (Try.f38.body.getD .skip))=some rFind_L0:=by kernel_rfl
theorem rFind_h1:rFind_run rFind_T1=some rFind_L1:=by kernel_rfl
def rFind_inv:(Nat→Int)→(Nat→Bool)→Nat→(Nat→Int)→(Nat→Bool)→Prop:=fun iv0 _ k iv _=>match k with | 0=>True | _=>0≤iv 26∧iv 26≤iv0 1∧∀ j:Nat,(j:Int) < iv 26→fl (iv0 0) j 0≠iv0 5
def rFind_mu:(Nat→Int)→(Nat→Bool)→Nat→(Nat→Int)→(Nat→Bool)→Nat:=fun iv0 _ k iv _=>match k with | 0=>2 ^ 90 | _=>(iv0 1 - iv 26).toNat
theorem rFind_b {iv0:Nat→Int} (hin:InB rFind.B iv0):(0≤iv0 1∧iv0 1≤4096)∧0≤iv0 2∧((-9223372036854775808)≤iv0 4∧iv0 4≤9223372036854775807)∧((-9223372036854775808)≤iv0 5∧iv0 5≤9223372036854775807):=by
 have b1:=hin 1 0 4096 (by simp [rFind,kI,kT,lT,qT,gT,bT,bT5,bT6,fT,fnT,pnT,oQ,n0F,a0F,a1T,nwT,duT,bTt,qT',lI1,lI2,gI1,gI2,bI1,bI2,fI2,i64b,ofT,qTt])
 simp only [Int.reduceLE,reduceIte,Int.reduceNeg] at b1
 have b2:=hin 2 0 (-1) (by simp [rFind,kI,kT,lT,qT,gT,bT,bT5,bT6,fT,fnT,pnT,oQ,n0F,a0F,a1T,nwT,duT,bTt,qT',lI1,lI2,gI1,gI2,bI1,bI2,fI2,i64b,ofT,qTt])
 simp only [Int.reduceLE,reduceIte,Int.reduceNeg] at b2
 have b4:=hin 4 (-9223372036854775808) 9223372036854775807 (by simp [rFind,kI,kT,lT,qT,gT,bT,bT5,bT6,fT,fnT,pnT,oQ,n0F,a0F,a1T,nwT,duT,bTt,qT',lI1,lI2,gI1,gI2,bI1,bI2,fI2,i64b,ofT,qTt])
 simp only [Int.reduceLE,reduceIte,Int.reduceNeg] at b4
 have b5:=hin 5 (-9223372036854775808) 9223372036854775807 (by simp [rFind,kI,kT,lT,qT,gT,bT,bT5,bT6,fT,fnT,pnT,oQ,n0F,a0F,a1T,nwT,duT,bTt,qT',lI1,lI2,gI1,gI2,bI1,bI2,fI2,i64b,ofT,qTt])
 simp only [Int.reduceLE,reduceIte,Int.reduceNeg] at b5
 exact ⟨b1,b2.1,b4,b5⟩
def rFind_ob (k:Nat) (l:List Lf):Prop:=∀ (kv:Kv) (iv0:Nat→Int) (bv0:Nat→Bool),InB rFind.B iv0→FT (sta FI FB kv iv0 bv0) (dlt dyn0) rFind.F→∀ (iv:Nat→Int) (bv:Nat→Bool),Agr 6 iv0 bv0 iv bv→rFind_inv iv0 bv0 k iv bv→∀ lf∈l,LfT (sta FI FB kv) rFind.os (rFind_inv iv0 bv0) (rFind_mu iv0 bv0) k iv bv lf
theorem rFind_o0:rFind_ob 0 rFind_L0:=by
 intro kv iv0 bv0 hin hF iv bv ha hi
 unfold rFind_L0
 refine List.forall_mem_cons.2 ⟨?_,List.forall_mem_nil _⟩
 all_goals
  intro δ hf
 all_goals
  obtain ⟨b1,b2,b4,b5⟩:=rFind_b hin
 all_goals
  have a0:=ha.1 0 (by omega)
  have a1:=ha.1 1 (by omega)
  have a2:=ha.1 2 (by omega)
  have a3:=ha.1 3 (by omega)
  have a4:=ha.1 4 (by omega)
  have a5:=ha.1 5 (by omega)
 all_goals
  simp only [FT,TP,SB.tp,SI.tv,sta,IB.eval,and_true,true_and,ObsT,Ob.Tv,rowT,kix,In.tiv,↓tbvT,In.tbv,get_cons,get_nil,reduceIte,Nat.reduceEqDiff,Int.reduceToNat,Int.reduceAdd,Int.reduceSub,Int.reduceLE,Int.reduceLT,Int.reduceEq,ne_eq,Bool.false_eq_true,not_true_eq_false,not_false_eq_true,true_iff,false_iff,iff_true,iff_false,false_implies,implies_true,decT,decide_true,decide_false,Bool.decide_eq_true,ap2,pb2,FI_3,FI_8,FI_9,FI_3g,FI_3k,FI_8s,FI_8l,FI_8d,FB_1h,FB_1a,Int.toNat_natCast,Int.toNat_zero,FI_26,FI_28,rFind_inv,rFind_mu,rFind,o1,othT,kI,kT,lT,qT,gT,bT,bT5,bT6,fT,fnT,pnT,oQ,n0F,a0F,a1T,nwT,duT,bTt,qT',lI1,lI2,gI1,gI2,bI1,bI2,fI2,i64b,ofT,qTt,a0,a1,a2,a3,a4,a5] at hf hi ⊢
 all_goals
  (repeat' (with_reducible apply And.intro))<;>first
  | omega
  | assumption
  | (unfold inM;omega)
  | exact trivial
  | (intro j hj;omega)
  | (clear hin hF ha;grind)
theorem rFind_o1:rFind_ob 1 rFind_L1:=by
 intro kv iv0 bv0 hin hF iv bv ha hi
 unfold rFind_L1
 refine List.forall_mem_cons.2 ⟨?_,List.forall_mem_cons.2 ⟨?_,List.forall_mem_cons.2 ⟨?_,List.forall_mem_nil _⟩⟩⟩
 all_goals
  intro δ hf
 all_goals
  obtain ⟨b1,b2,b4,b5⟩:=rFind_b hin
 all_goals
  have a0:=ha.1 0 (by omega)
  have a1:=ha.1 1 (by omega)
  have a2:=ha.1 2 (by omega)
  have a3:=ha.1 3 (by omega)
  have a4:=ha.1 4 (by omega)
  have a5:=ha.1 5 (by omega)
 all_goals
  simp only [FT,TP,SB.tp,SI.tv,sta,IB.eval,and_true,true_and,ObsT,Ob.Tv,rowT,kix,In.tiv,↓tbvT,In.tbv,get_cons,get_nil,reduceIte,Nat.reduceEqDiff,Int.reduceToNat,Int.reduceAdd,Int.reduceSub,Int.reduceLE,Int.reduceLT,Int.reduceEq,ne_eq,Bool.false_eq_true,not_true_eq_false,not_false_eq_true,true_iff,false_iff,iff_true,iff_false,false_implies,implies_true,decT,decide_true,decide_false,Bool.decide_eq_true,ap2,pb2,FI_3,FI_8,FI_9,FI_3g,FI_3k,FI_8s,FI_8l,FI_8d,FB_1h,FB_1a,Int.toNat_natCast,Int.toNat_zero,FI_26,FI_28,rFind_inv,rFind_mu,rFind,o1,othT,kI,kT,lT,qT,gT,bT,bT5,bT6,fT,fnT,pnT,oQ,n0F,a0F,a1T,nwT,duT,bTt,qT',lI1,lI2,gI1,gI2,bI1,bI2,fI2,i64b,ofT,qTt,a0,a1,a2,a3,a4,a5] at hf hi ⊢
 all_goals
  obtain ⟨g0,g1,g2⟩:=hi
 all_goals
  have e1:=fun h1 h2=>fnd_some (d:=iv0 0) (n:=iv0 1) (k:=iv0 5) (by omega) g0 h1 h2 g2
 all_goals
  have e2:=fun h=>fnd_none (d:=iv0 0) (n:=iv0 1) (k:=iv0 5) (by omega) h
 all_goals
  (repeat' (with_reducible apply And.intro))<;>first
  | omega
  | assumption
  | (unfold inM;omega)
  | (exact ne_suc g2 g0 (by omega))
  | (have:=e1 (by omega) (by omega);omega)
  | (have:=e2 (fun j hj=>g2 j (by omega));omega)
  | (clear hin hF ha;grind)
theorem rFind_c:LsC ((tm0 rFind Try.f38 (Try.f38.body.getD .skip))::[rFind_T1]) rFind.os [rFind_L0,rFind_L1]:=by
 unfold rFind_L0 rFind_L1
 exact ⟨List.forall_mem_cons.2 ⟨⟨⟨_,rfl,rfl⟩,by kernel_rfl⟩,List.forall_mem_nil _⟩,List.forall_mem_cons.2 ⟨⟨⟨_,rfl,rfl⟩,by kernel_rfl⟩,List.forall_mem_cons.2 ⟨⟨⟨_,rfl,rfl⟩,by kernel_rfl⟩,List.forall_mem_cons.2 ⟨⟨⟨_,rfl,rfl⟩,by kernel_rfl⟩,List.forall_mem_nil _⟩⟩⟩,trivial⟩
theorem rFind_ok:rFind.Ok Try.prog FI FB:=
 Con.of_plain (body:=Try.f38.body.getD .skip) pok fiok EntsFor.nil rFind Try.func38 (by kernel_rfl) 6 [rFind_T1] (by kernel_rfl) [rFind_L0,rFind_L1] ⟨rFind_h0,rFind_h1,trivial⟩ rFind_c
  rFind_inv rFind_mu (fun _ _ _=>trivial) fun kv iv0 bv0 hin hF k l iv bv hk ha hi=>match k,hk,hi with
  | 0,hk,hi=>by
    cases hk
    exact rFind_o0 kv iv0 bv0 hin hF iv bv ha hi
  | 1,hk,hi=>by
    cases hk
    exact rFind_o1 kv iv0 bv0 hin hF iv bv ha hi
  | k+2,hk,_=>by simp at hk
def rArm_T1:Tm:=⟨⟨35,84,[(8,(.it .i64 (.v 27))),(6,(.pt (.n 1) (.c 0))),(3,(.pt (.n 0) (.c 0))),(1,(.it .i64 (.v 5))),(2,(.it .i64 (.v 6)))],[(.code (atC Try.f35 [1,1,1,1,1,0,0,0])),(.inLoop (atC Try.f35 [1,1,1,1,1,0,0,0])),(.inBlock 0),(.code (atC Try.f35 [1,1,1,1,1,1]))],[],.none⟩,[],
    ⟨[(0,(.cells [(.it .i64 (.v 4)),(.sl (.k 0) (.v 2) (.v 1) (.v 3))] 44)),(1,(.cells [(.it .i64 (.c 0)),.sn] 44))],2,0,0,[((.le (.c 1024) (.v 1)),.false),((.le (.c 0) (.ap 26 (.v 0) (.v 1) (.v 5) (.c 0) (.c 0) (.c 0))),.false),((.lt (.ap 26 (.v 0) (.v 1) (.v 5) (.c 0) (.c 0) (.c 0)) (.v 1)),.true),((.le (.c (-1)) (.ap 26 (.v 0) (.v 1) (.v 5) (.c 0) (.c 0) (.c 0))),.true),((.le (.v 6) (.c 1099511627776)),.true),((.le (.c 0) (.v 6)),.true),((.lt (.v 5) (.c 0)),.false),((.le (.v 1) (.v 3)),.true),((.le (.c 0) (.v 3)),.true)],[1,0],[(1,(0,1023)),(6,(0,1099511627776)),(5,(0,9223372036854775807)),(2,(0,(-1))),(4,((-9223372036854775808),9223372036854775807)),(27,(0,(-1)))]⟩,[27]⟩
def rArm_L0:List Lf:=
 let x0_:SI:=(.ap 26 (.v 0) (.v 1) (.v 5) (.c 0) (.c 0) (.c 0))
 let f0_:List (SB×Bool):=[((.le (.v 1) (.v 3)),.true),((.le (.c 0) (.v 3)),.true)]
 let f1_:List (SB×Bool):=((.lt (.v 5) (.c 0)),.false)::f0_
 let f2_:List (SB×Bool):=((.le (.c 0) (.v 6)),.true)::f1_
 let f3_:List (SB×Bool):=((.lt x0_ (.v 1)),.true)::((.le (.c (-1)) x0_),.true)::((.le (.v 6) (.c 1099511627776)),.true)::f2_
 let f4_:List (SB×Bool):=((.le (.c 0) x0_),.false)::f3_
 [(.fin (((.lt (.v 5) (.c 0)),.true)::f0_) 0 ⟨⟨[],[]⟩,[],[],[]⟩ [] []),
  (.fin (((.le (.c 0) x0_),.true)::f3_) 3 ⟨⟨[],[]⟩,[],[],[]⟩ [] []),
  (.fin (((.le (.c 1024) (.v 1)),.true)::f4_) 4 ⟨⟨[],[]⟩,[],[],[]⟩ [] []),
  (.cut (((.le (.c 1024) (.v 1)),.false)::f4_) 1 ⟨⟨[(27,(.c 0))],[]⟩,[(0,0),(1,1)],[],[]⟩ [] (shT rArm_T1 ⟨⟨[(27,(.c 0))],[]⟩,[(0,0),(1,1)],[],[]⟩)),
  (.fin (((.le (.v 6) (.c 1099511627776)),.false)::f2_) 2 ⟨⟨[],[]⟩,[],[],[]⟩ [] []),
  (.fin (((.le (.c 0) (.v 6)),.false)::f1_) 1 ⟨⟨[],[]⟩,[],[],[]⟩ [] [])]
def rArm_L1:List Lf:=
 let x0_:SI:=(.op .add (.v 27) (.c 1))
 let p1_:SB×Bool:=((.le (.v 27) (.d 0)),.true)
 let p2_:SB×Bool:=((.le x0_ (.d 1)),.true)
 let x3_:SI:=(.ap 26 (.v 0) (.v 1) (.v 5) (.c 0) (.c 0) (.c 0))
 let x4_:SI:=(.ap 3 (.v 0) (.v 27) (.c 1) (.c 0) (.c 0) (.c 0))
 let x5_:SI:=(.ap 3 (.v 0) (.v 27) (.c 0) (.c 0) (.c 0) (.c 0))
 let x6_:SI:=(.ap 24 (.v 0) (.v 1) (.v 5) (.v 6) (.c 0) (.c 0))
 let x7_:SI:=(.ap 8 (.v 0) (.v 27) (.c 0) (.v 5) (.c 0) (.c 0))
 let x8_:SI:=(.ap 8 x7_ (.v 27) (.c 1) (.v 6) (.c 0) (.c 0))
 let f0_:List (SB×Bool):=[((.le (.c 1024) (.v 1)),.false),((.le (.c 0) x3_),.false),((.lt x3_ (.v 1)),.true),((.le (.c (-1)) x3_),.true),((.le (.v 6) (.c 1099511627776)),.true),((.le (.c 0) (.v 6)),.true),((.lt (.v 5) (.c 0)),.false),((.le (.v 1) (.v 3)),.true),((.le (.c 0) (.v 3)),.true)]
 let f1_:List (SB×Bool):=((.lt (.v 27) (.v 1)),.true)::f0_
 let f2_:List (SB×Bool):=((.lt (.v 27) (.v 1)),.false)::f0_
 let f3_:List (SB×Bool):=((.lt x4_ (.v 6)),.false)::f1_
 let f4_:List (SB×Bool):=((.le (.v 27) (.v 3)),.true)::f2_
 let f5_:List (SB×Bool):=((.eq x4_ (.v 6)),.true)::f3_
 [(let i_:In:=⟨⟨[(27,(.op .add (.v 27) (.c 1)))],[]⟩,[(0,0),(1,1)],[],[]⟩;.cut (((.lt x4_ (.v 6)),.true)::f1_) 1 i_ [] (shT rArm_T1 i_)),
  (let i_:In:=⟨⟨[(27,(.op .add (.v 27) (.c 1)))],[]⟩,[(0,0),(1,1)],[],[]⟩;.cut (((.lt x5_ (.v 5)),.true)::f5_) 1 i_ [] (shT rArm_T1 i_)),
  (.fin (((.le (.op .add (.v 1) (.c 1)) (.d 2)),.true)::p2_::p1_::((.lt x5_ (.v 5)),.false)::f5_) 5 ⟨⟨[],[]⟩,[(0,6)],[(0,(.d 2))],[]⟩ [(.ar [(.nt .i64),(.nt .i64)] (.ap 25 (.v 0) (.v 1) x6_ (.v 5) (.v 6) (.c 0)) (.ap 9 x8_ x0_ (.v 0) (.v 27) (.op .sub (.v 1) (.v 27)) (.c 0)) (.op .add (.v 1) (.c 1)))] [.none]),
  (.fin (((.le (.op .add (.v 1) (.c 1)) (.d 2)),.true)::p2_::p1_::((.eq x4_ (.v 6)),.false)::f3_) 5 ⟨⟨[],[]⟩,[(0,6)],[(0,(.d 2))],[]⟩ [(.ar [(.nt .i64),(.nt .i64)] (.ap 25 (.v 0) (.v 1) x6_ (.v 5) (.v 6) (.c 0)) (.ap 9 x8_ x0_ (.v 0) (.v 27) (.op .sub (.v 1) (.v 27)) (.c 0)) (.op .add (.v 1) (.c 1)))] [.none]),
  (.fin (p2_::p1_::((.le (.v 27) (.v 1)),.true)::f4_) 5 ⟨⟨[],[]⟩,[(0,5)],[(0,(.d 1))],[]⟩ [(.ei (.op .add (.v 1) (.c 1)) (.op .add (.v 27) (.c 1))),(.ar [(.nt .i64),(.nt .i64)] (.ap 25 (.v 0) (.v 1) x6_ (.v 5) (.v 6) (.c 0)) (.ap 8 x7_ (.v 27) (.c 1) (.v 6) (.c 0) (.c 0)) (.op .add (.v 1) (.c 1))),(.fa (.le (.op .add (.v 1) (.c 1)) x0_) .true)] [.none]),
  (.bad (((.le (.v 27) (.v 1)),.false)::f4_)),
  (.bad (((.le (.v 27) (.v 3)),.false)::f2_))]
def rArm_run (T:Tm):=(ex (ccOf Try.prog BF [62,32] rArm) ((fun cc=>[rFind.ent cc]) (ccOf Try.prog BF [62,32] rArm)) (dw (ccOf Try.prog BF [62,32] rArm) ((fun cc=>[rFind.ent cc]) (ccOf Try.prog BF [62,32] rArm)) 1000 4) (stopX []) 4000 T.f T.fs T.H).lfs (ccOf Try.prog BF [62,32] rArm) ((tm0 rArm Try.f35 (Try.f35.body.getD .skip))::[rArm_T1]) rArm.os
theorem rArm_h0:rArm_run (tm0 rArm Try.f35 (Try.f35.body.getD .skip))=some rArm_L0:=by kernel_rfl
theorem rArm_h1:rArm_run rArm_T1=some rArm_L1:=by kernel_rfl
def rArm_inv:(Nat→Int)→(Nat→Bool)→Nat→(Nat→Int)→(Nat→Bool)→Prop:=fun iv0 _ k iv _=>match k with | 0=>True | _=>0≤iv 27∧iv 27≤iv0 1∧∀ j:Nat,(j:Int) < iv 27→bfr (iv0 0) (iv0 5) (iv0 6) j
def rArm_mu:(Nat→Int)→(Nat→Bool)→Nat→(Nat→Int)→(Nat→Bool)→Nat:=fun iv0 _ k iv _=>match k with | 0=>2 ^ 90 | _=>(iv0 1 - iv 27).toNat
theorem rArm_b {iv0:Nat→Int} (hin:InB rArm.B iv0):(0≤iv0 1∧iv0 1≤4096)∧0≤iv0 2∧((-9223372036854775808)≤iv0 4∧iv0 4≤9223372036854775807)∧((-9223372036854775808)≤iv0 5∧iv0 5≤9223372036854775807)∧((-9223372036854775808)≤iv0 6∧iv0 6≤9223372036854775807):=by
 have b1:=hin 1 0 4096 (by simp [rArm,kI,kT,lT,qT,gT,bT,bT5,bT6,fT,fnT,pnT,oQ,n0F,a0F,a1T,nwT,duT,bTt,qT',lI1,lI2,gI1,gI2,bI1,bI2,fI2,i64b,ofT,qTt])
 simp only [Int.reduceLE,reduceIte,Int.reduceNeg] at b1
 have b2:=hin 2 0 (-1) (by simp [rArm,kI,kT,lT,qT,gT,bT,bT5,bT6,fT,fnT,pnT,oQ,n0F,a0F,a1T,nwT,duT,bTt,qT',lI1,lI2,gI1,gI2,bI1,bI2,fI2,i64b,ofT,qTt])
 simp only [Int.reduceLE,reduceIte,Int.reduceNeg] at b2
 have b4:=hin 4 (-9223372036854775808) 9223372036854775807 (by simp [rArm,kI,kT,lT,qT,gT,bT,bT5,bT6,fT,fnT,pnT,oQ,n0F,a0F,a1T,nwT,duT,bTt,qT',lI1,lI2,gI1,gI2,bI1,bI2,fI2,i64b,ofT,qTt])
 simp only [Int.reduceLE,reduceIte,Int.reduceNeg] at b4
 have b5:=hin 5 (-9223372036854775808) 9223372036854775807 (by simp [rArm,kI,kT,lT,qT,gT,bT,bT5,bT6,fT,fnT,pnT,oQ,n0F,a0F,a1T,nwT,duT,bTt,qT',lI1,lI2,gI1,gI2,bI1,bI2,fI2,i64b,ofT,qTt])
 simp only [Int.reduceLE,reduceIte,Int.reduceNeg] at b5
 have b6:=hin 6 (-9223372036854775808) 9223372036854775807 (by simp [rArm,kI,kT,lT,qT,gT,bT,bT5,bT6,fT,fnT,pnT,oQ,n0F,a0F,a1T,nwT,duT,bTt,qT',lI1,lI2,gI1,gI2,bI1,bI2,fI2,i64b,ofT,qTt])
 simp only [Int.reduceLE,reduceIte,Int.reduceNeg] at b6
 exact ⟨b1,b2.1,b4,b5,b6⟩
def rArm_ob (k:Nat) (l:List Lf):Prop:=∀ (kv:Kv) (iv0:Nat→Int) (bv0:Nat→Bool),InB rArm.B iv0→FT (sta FI FB kv iv0 bv0) (dlt dyn0) rArm.F→∀ (iv:Nat→Int) (bv:Nat→Bool),Agr 7 iv0 bv0 iv bv→rArm_inv iv0 bv0 k iv bv→∀ lf∈l,LfT (sta FI FB kv) rArm.os (rArm_inv iv0 bv0) (rArm_mu iv0 bv0) k iv bv lf
theorem rArm_o0:rArm_ob 0 rArm_L0:=by
 intro kv iv0 bv0 hin hF iv bv ha hi
 unfold rArm_L0
 refine List.forall_mem_cons.2 ⟨?_,List.forall_mem_cons.2 ⟨?_,List.forall_mem_cons.2 ⟨?_,List.forall_mem_cons.2 ⟨?_,List.forall_mem_cons.2 ⟨?_,List.forall_mem_cons.2 ⟨?_,List.forall_mem_nil _⟩⟩⟩⟩⟩⟩
 all_goals
  intro δ hf
 all_goals
  obtain ⟨b1,b2,b4,b5,b6⟩:=rArm_b hin
 all_goals
  have a0:=ha.1 0 (by omega)
  have a1:=ha.1 1 (by omega)
  have a2:=ha.1 2 (by omega)
  have a3:=ha.1 3 (by omega)
  have a4:=ha.1 4 (by omega)
  have a5:=ha.1 5 (by omega)
  have a6:=ha.1 6 (by omega)
 all_goals
  simp only [FT,TP,SB.tp,SI.tv,sta,IB.eval,and_true,true_and,ObsT,Ob.Tv,rowT,kix,In.tiv,↓tbvT,In.tbv,get_cons,get_nil,reduceIte,Nat.reduceEqDiff,Int.reduceToNat,Int.reduceAdd,Int.reduceSub,Int.reduceLE,Int.reduceLT,Int.reduceEq,ne_eq,Bool.false_eq_true,not_true_eq_false,not_false_eq_true,true_iff,false_iff,iff_true,iff_false,false_implies,implies_true,decT,decide_true,decide_false,Bool.decide_eq_true,ap2,pb2,FI_3,FI_8,FI_9,FI_3g,FI_3k,FI_8s,FI_8l,FI_8d,FB_1h,FB_1a,Int.toNat_natCast,Int.toNat_zero,FI_24,FI_25,FI_26,FI_28,rArm_inv,rArm_mu,rArm,o1,othT,kI,kT,lT,qT,gT,bT,bT5,bT6,fT,fnT,pnT,oQ,n0F,a0F,a1T,nwT,duT,bTt,qT',lI1,lI2,gI1,gI2,bI1,bI2,fI2,i64b,ofT,qTt,a0,a1,a2,a3,a4,a5,a6] at hf hi ⊢
 all_goals
  (repeat' (with_reducible apply And.intro))<;>first
  | omega
  | assumption
  | (unfold inM;omega)
  | exact trivial
  | (intro j hj;omega)
  | (clear hin hF ha;grind)
theorem rArm_o1:rArm_ob 1 rArm_L1:=by
 intro kv iv0 bv0 hin hF iv bv ha hi
 unfold rArm_L1
 refine List.forall_mem_cons.2 ⟨?_,List.forall_mem_cons.2 ⟨?_,List.forall_mem_cons.2 ⟨?_,List.forall_mem_cons.2 ⟨?_,List.forall_mem_cons.2 ⟨?_,List.forall_mem_cons.2 ⟨?_,List.forall_mem_cons.2 ⟨?_,List.forall_mem_nil _⟩⟩⟩⟩⟩⟩⟩
 all_goals
  intro δ hf
 all_goals
  obtain ⟨b1,b2,b4,b5,b6⟩:=rArm_b hin
 all_goals
  have a0:=ha.1 0 (by omega)
  have a1:=ha.1 1 (by omega)
  have a2:=ha.1 2 (by omega)
  have a3:=ha.1 3 (by omega)
  have a4:=ha.1 4 (by omega)
  have a5:=ha.1 5 (by omega)
  have a6:=ha.1 6 (by omega)
 all_goals
  simp only [FT,TP,SB.tp,SI.tv,sta,IB.eval,and_true,true_and,ObsT,Ob.Tv,rowT,kix,In.tiv,↓tbvT,In.tbv,get_cons,get_nil,reduceIte,Nat.reduceEqDiff,Int.reduceToNat,Int.reduceAdd,Int.reduceSub,Int.reduceLE,Int.reduceLT,Int.reduceEq,ne_eq,Bool.false_eq_true,not_true_eq_false,not_false_eq_true,true_iff,false_iff,iff_true,iff_false,false_implies,implies_true,decT,decide_true,decide_false,Bool.decide_eq_true,ap2,pb2,FI_3,FI_8,FI_9,FI_3g,FI_3k,FI_8s,FI_8l,FI_8d,FB_1h,FB_1a,Int.toNat_natCast,Int.toNat_zero,FI_24,FI_25,FI_26,FI_28,rArm_inv,rArm_mu,rArm,o1,othT,kI,kT,lT,qT,gT,bT,bT5,bT6,fT,fnT,pnT,oQ,n0F,a0F,a1T,nwT,duT,bTt,qT',lI1,lI2,gI1,gI2,bI1,bI2,fI2,i64b,ofT,qTt,a0,a1,a2,a3,a4,a5,a6] at hf hi ⊢
 all_goals
  obtain ⟨g0,g1,g2⟩:=hi
 all_goals
  have e1:=fun h=>pos_eq (d:=iv0 0) (n:=iv0 1) (k:=iv0 5) (a:=iv0 6) (by omega) g0 g1 g2 h
 all_goals
  have e2:∀ h:posT (iv0 0) (iv0 1) (iv0 5) (iv0 6)=iv 27,∀ j f:Nat,(j:Int) < iv0 1+1→f < 2→_:=fun h j f hj hf=>ins_a (d:=iv0 0) (n:=iv0 1) (k:=iv0 5) (a:=iv0 6) b5 b6 g0 g1 h hj hf
 all_goals
  have e3:∀ h:posT (iv0 0) (iv0 1) (iv0 5) (iv0 6)=iv 27,iv 27=iv0 1→∀ j f:Nat,(j:Int) < iv0 1+1→f < 2→_:=fun h h2 j f hj hf=>ins_b (d:=iv0 0) (n:=iv0 1) (k:=iv0 5) (a:=iv0 6) b5 b6 g0 h2 h hj hf
 all_goals
  (repeat' (with_reducible apply And.intro))<;>first
  | omega
  | assumption
  | (unfold inM;omega)
  | (exact bfr_suc g2 g0 (by unfold bfr;omega))
  | (have e4:=e1 (fun _=>by unfold bfr;omega);intro j hj;exact ⟨e2 e4 j 0 hj (by omega),e2 e4 j 1 hj (by omega)⟩)
  | (have e4:=e1 (fun _=>by unfold bfr;omega);intro j hj;exact ⟨e3 e4 (by omega) j 0 hj (by omega),e3 e4 (by omega) j 1 hj (by omega)⟩)
  | (have e4:=e1 (fun _=>by unfold bfr;omega);omega)
  | (clear hin hF ha;grind)
theorem rArm_c:LsC ((tm0 rArm Try.f35 (Try.f35.body.getD .skip))::[rArm_T1]) rArm.os [rArm_L0,rArm_L1]:=by
 unfold rArm_L0 rArm_L1
 exact ⟨List.forall_mem_cons.2 ⟨⟨⟨_,rfl,rfl⟩,by kernel_rfl⟩,List.forall_mem_cons.2 ⟨⟨⟨_,rfl,rfl⟩,by kernel_rfl⟩,List.forall_mem_cons.2 ⟨⟨⟨_,rfl,rfl⟩,by kernel_rfl⟩,List.forall_mem_cons.2 ⟨⟨⟨_,rfl,rfl⟩,by kernel_rfl⟩,List.forall_mem_cons.2 ⟨⟨⟨_,rfl,rfl⟩,by kernel_rfl⟩,List.forall_mem_cons.2 ⟨⟨⟨_,rfl,rfl⟩,by kernel_rfl⟩,List.forall_mem_nil _⟩⟩⟩⟩⟩⟩,List.forall_mem_cons.2 ⟨⟨⟨_,rfl,rfl⟩,by kernel_rfl⟩,List.forall_mem_cons.2 ⟨⟨⟨_,rfl,rfl⟩,by kernel_rfl⟩,List.forall_mem_cons.2 ⟨⟨⟨_,rfl,rfl⟩,by kernel_rfl⟩,List.forall_mem_cons.2 ⟨⟨⟨_,rfl,rfl⟩,by kernel_rfl⟩,List.forall_mem_cons.2 ⟨⟨⟨_,rfl,rfl⟩,by kernel_rfl⟩,List.forall_mem_cons.2 ⟨trivial,List.forall_mem_cons.2 ⟨trivial,List.forall_mem_nil _⟩⟩⟩⟩⟩⟩⟩,trivial⟩
theorem rArm_ok:rArm.Ok Try.prog FI FB:=
 Con.of_plain (body:=Try.f35.body.getD .skip) pok fiok (EntsFor.cons rFind_ok EntsFor.nil) rArm Try.func35 (by kernel_rfl) 7 [rArm_T1] (by kernel_rfl) [rArm_L0,rArm_L1] ⟨rArm_h0,rArm_h1,trivial⟩ rArm_c
  rArm_inv rArm_mu (fun _ _ _=>trivial) fun kv iv0 bv0 hin hF k l iv bv hk ha hi=>match k,hk,hi with
  | 0,hk,hi=>by
    cases hk
    exact rArm_o0 kv iv0 bv0 hin hF iv bv ha hi
  | 1,hk,hi=>by
    cases hk
    exact rArm_o1 kv iv0 bv0 hin hF iv bv ha hi
  | k+2,hk,_=>by simp at hk
def rCancel_L0:List Lf:=
 let x0_:SI:=(.ap 26 (.v 0) (.v 1) (.v 5) (.c 0) (.c 0) (.c 0))
 let x1_:SI:=(.op .add x0_ (.c 1))
 let f0_:List (SB×Bool):=[((.le (.v 1) (.v 3)),.true),((.le (.c 0) (.v 3)),.true)]
 let f1_:List (SB×Bool):=((.lt x0_ (.v 1)),.true)::((.le (.c (-1)) x0_),.true)::((.lt (.v 5) (.c 0)),.false)::f0_
 let f2_:List (SB×Bool):=((.lt x0_ (.c 0)),.false)::f1_
 [(.fin (((.lt (.v 5) (.c 0)),.true)::f0_) 0 ⟨⟨[],[]⟩,[],[],[]⟩ [] []),
  (.fin (((.lt x0_ (.c 0)),.true)::f1_) 1 ⟨⟨[],[]⟩,[],[],[]⟩ [] []),
  (.fin (((.le x0_ (.d 0)),.true)::((.eq (.v 1) x1_),.true)::f2_) 2 ⟨⟨[],[]⟩,[(0,3)],[(0,(.d 0))],[]⟩ [(.ei (.op .add (.v 1) (.c (-1))) (.ap 26 (.v 0) (.v 1) (.v 5) (.c 0) (.c 0) (.c 0))),(.ar [(.nt .i64),(.nt .i64)] (.ap 27 (.v 0) (.v 1) x0_ (.c 0) (.c 0) (.c 0)) (.v 0) (.op .add (.v 1) (.c (-1)))),(.fa (.le (.op .add (.v 1) (.c (-1))) x0_) .true)] [.none]),
  (.fin (((.le (.op .add (.v 1) (.c (-1))) (.d 1)),.true)::((.le x0_ (.d 0)),.true)::((.eq (.v 1) x1_),.false)::f2_) 2 ⟨⟨[],[]⟩,[(0,4)],[(0,(.d 1))],[]⟩ [(.ar [(.nt .i64),(.nt .i64)] (.ap 27 (.v 0) (.v 1) x0_ (.c 0) (.c 0) (.c 0)) (.ap 9 (.v 0) x0_ (.v 0) x1_ (.op .sub (.v 1) x1_) (.c 0)) (.op .add (.v 1) (.c (-1))))] [.none])]
def rCancel_run (T:Tm):=(ex (ccOf Try.prog BF [62,32] rCancel) ((fun cc=>[rFind.ent cc]) (ccOf Try.prog BF [62,32] rCancel)) (dw (ccOf Try.prog BF [62,32] rCancel) ((fun cc=>[rFind.ent cc]) (ccOf Try.prog BF [62,32] rCancel)) 1000 4) (stopX []) 4000 T.f T.fs T.H).lfs (ccOf Try.prog BF [62,32] rCancel) ((tm0 rCancel Try.f36 (Try.f36.body.getD .skip))::[]) rCancel.os
theorem rCancel_h0:rCancel_run (tm0 rCancel Try.f36 (Try.f36.body.getD .skip))=some rCancel_L0:=by kernel_rfl
def rCancel_inv:(Nat→Int)→(Nat→Bool)→Nat→(Nat→Int)→(Nat→Bool)→Prop:=fun _ _ _ _ _=>True
def rCancel_mu:(Nat→Int)→(Nat→Bool)→Nat→(Nat→Int)→(Nat→Bool)→Nat:=fun _ _ _ _ _=>0
theorem rCancel_b {iv0:Nat→Int} (hin:InB rCancel.B iv0):(0≤iv0 1∧iv0 1≤4096)∧0≤iv0 2∧((-9223372036854775808)≤iv0 4∧iv0 4≤9223372036854775807)∧((-9223372036854775808)≤iv0 5∧iv0 5≤9223372036854775807):=by
 have b1:=hin 1 0 4096 (by simp [rCancel,kI,kT,lT,qT,gT,bT,bT5,bT6,fT,fnT,pnT,oQ,n0F,a0F,a1T,nwT,duT,bTt,qT',lI1,lI2,gI1,gI2,bI1,bI2,fI2,i64b,ofT,qTt])
 simp only [Int.reduceLE,reduceIte,Int.reduceNeg] at b1
 have b2:=hin 2 0 (-1) (by simp [rCancel,kI,kT,lT,qT,gT,bT,bT5,bT6,fT,fnT,pnT,oQ,n0F,a0F,a1T,nwT,duT,bTt,qT',lI1,lI2,gI1,gI2,bI1,bI2,fI2,i64b,ofT,qTt])
 simp only [Int.reduceLE,reduceIte,Int.reduceNeg] at b2
 have b4:=hin 4 (-9223372036854775808) 9223372036854775807 (by simp [rCancel,kI,kT,lT,qT,gT,bT,bT5,bT6,fT,fnT,pnT,oQ,n0F,a0F,a1T,nwT,duT,bTt,qT',lI1,lI2,gI1,gI2,bI1,bI2,fI2,i64b,ofT,qTt])
 simp only [Int.reduceLE,reduceIte,Int.reduceNeg] at b4
 have b5:=hin 5 (-9223372036854775808) 9223372036854775807 (by simp [rCancel,kI,kT,lT,qT,gT,bT,bT5,bT6,fT,fnT,pnT,oQ,n0F,a0F,a1T,nwT,duT,bTt,qT',lI1,lI2,gI1,gI2,bI1,bI2,fI2,i64b,ofT,qTt])
 simp only [Int.reduceLE,reduceIte,Int.reduceNeg] at b5
 exact ⟨b1,b2.1,b4,b5⟩
def rCancel_ob (k:Nat) (l:List Lf):Prop:=∀ (kv:Kv) (iv0:Nat→Int) (bv0:Nat→Bool),InB rCancel.B iv0→FT (sta FI FB kv iv0 bv0) (dlt dyn0) rCancel.F→∀ (iv:Nat→Int) (bv:Nat→Bool),Agr 6 iv0 bv0 iv bv→rCancel_inv iv0 bv0 k iv bv→∀ lf∈l,LfT (sta FI FB kv) rCancel.os (rCancel_inv iv0 bv0) (rCancel_mu iv0 bv0) k iv bv lf
theorem rCancel_o0:rCancel_ob 0 rCancel_L0:=by
 intro kv iv0 bv0 hin hF iv bv ha hi
 unfold rCancel_L0
 refine List.forall_mem_cons.2 ⟨?_,List.forall_mem_cons.2 ⟨?_,List.forall_mem_cons.2 ⟨?_,List.forall_mem_cons.2 ⟨?_,List.forall_mem_nil _⟩⟩⟩⟩
 all_goals
  intro δ hf
 all_goals
  obtain ⟨b1,b2,b4,b5⟩:=rCancel_b hin
 all_goals
  have a0:=ha.1 0 (by omega)
  have a1:=ha.1 1 (by omega)
  have a2:=ha.1 2 (by omega)
  have a3:=ha.1 3 (by omega)
  have a4:=ha.1 4 (by omega)
  have a5:=ha.1 5 (by omega)
 all_goals
  simp only [FT,TP,SB.tp,SI.tv,sta,IB.eval,and_true,true_and,ObsT,Ob.Tv,rowT,kix,In.tiv,↓tbvT,In.tbv,get_cons,get_nil,reduceIte,Nat.reduceEqDiff,Int.reduceToNat,Int.reduceAdd,Int.reduceSub,Int.reduceLE,Int.reduceLT,Int.reduceEq,ne_eq,Bool.false_eq_true,not_true_eq_false,not_false_eq_true,true_iff,false_iff,iff_true,iff_false,false_implies,implies_true,decT,decide_true,decide_false,Bool.decide_eq_true,ap2,pb2,FI_3,FI_8,FI_9,FI_3g,FI_3k,FI_8s,FI_8l,FI_8d,FB_1h,FB_1a,Int.toNat_natCast,Int.toNat_zero,FI_26,FI_27,FI_28,rCancel_inv,rCancel_mu,rCancel,o1,othT,kI,kT,lT,qT,gT,bT,bT5,bT6,fT,fnT,pnT,oQ,n0F,a0F,a1T,nwT,duT,bTt,qT',lI1,lI2,gI1,gI2,bI1,bI2,fI2,i64b,ofT,qTt,a0,a1,a2,a3,a4,a5] at hf hi ⊢
 all_goals
  (repeat' (with_reducible apply And.intro))<;>first
  | omega
  | assumption
  | (unfold inM;omega)
  | exact trivial
  | (exact del_a (by omega))
  | (exact del_b (by omega) (by omega))
  | (clear hin hF ha;grind)
theorem rCancel_c:LsC ((tm0 rCancel Try.f36 (Try.f36.body.getD .skip))::[]) rCancel.os [rCancel_L0]:=by
 unfold rCancel_L0
 exact ⟨List.forall_mem_cons.2 ⟨⟨⟨_,rfl,rfl⟩,by kernel_rfl⟩,List.forall_mem_cons.2 ⟨⟨⟨_,rfl,rfl⟩,by kernel_rfl⟩,List.forall_mem_cons.2 ⟨⟨⟨_,rfl,rfl⟩,by kernel_rfl⟩,List.forall_mem_cons.2 ⟨⟨⟨_,rfl,rfl⟩,by kernel_rfl⟩,List.forall_mem_nil _⟩⟩⟩⟩,trivial⟩
theorem rCancel_ok:rCancel.Ok Try.prog FI FB:=
 Con.of_plain (body:=Try.f36.body.getD .skip) pok fiok (EntsFor.cons rFind_ok EntsFor.nil) rCancel Try.func36 (by kernel_rfl) 6 [] (by kernel_rfl) [rCancel_L0] ⟨rCancel_h0,trivial⟩ rCancel_c
  rCancel_inv rCancel_mu (fun _ _ _=>trivial) fun kv iv0 bv0 hin hF k l iv bv hk ha hi=>match k,hk,hi with
  | 0,hk,hi=>by
    cases hk
    exact rCancel_o0 kv iv0 bv0 hin hF iv bv ha hi
  | k+1,hk,_=>by simp at hk
def rTickN_T1:Tm:=⟨⟨37,38,[(4,.sn),(2,(.pt (.n 1) (.c 0))),(1,(.pt (.n 0) (.c 0)))],[(.code (atC Try.f37 [1,1,1,0,0,0])),(.inLoop (atC Try.f37 [1,1,1,0,0,0])),(.inBlock 0),(.code (atC Try.f37 [1,1,1,1]))],[],.none⟩,[],
    ⟨[(0,(.cells [(.it .i64 (.op .imin (.op .add (.v 4) (.c 1)) (.c 1099511627776))),(.sl (.k 0) (.v 2) (.v 1) (.v 3))] 44)),(1,(.cells [(.it .i64 (.c 0)),.sn] 44))],2,0,0,[((.le (.v 1) (.v 3)),.true),((.le (.c 0) (.v 3)),.true)],[1,0],[(1,(0,4096)),(2,(0,(-1))),(4,(0,1099511627776))]⟩,[]⟩
def rTickN_T2:Tm:=⟨⟨37,38,[(4,(.sl (.n 3) (.c 0) (.v 26) (.v 28))),(2,(.pt (.n 1) (.c 0))),(1,(.pt (.n 0) (.c 0)))],[(.code (atC Try.f37 [1,1,1,0,0,0])),(.inLoop (atC Try.f37 [1,1,1,0,0,0])),(.inBlock 0),(.code (atC Try.f37 [1,1,1,1]))],[],.none⟩,[],
    ⟨[(0,(.cells [(.it .i64 (.op .imin (.op .add (.v 4) (.c 1)) (.c 1099511627776))),(.sl (.k 0) (.op .add (.v 2) (.op .mul (.op .imin (.v 26) (.op .add (.v 3) (.c (-1)))) (.c 2))) (.op .add (.v 1) (.op .mul (.c (-1)) (.v 26))) (.op .add (.v 3) (.op .mul (.c (-1)) (.v 26))))] 44)),(1,(.cells [(.it .i64 (.c 0)),.sn] 44)),(3,(.arr [(.nt .i64)] (.v 27) (.v 26) 3 (.v 28)))],4,0,0,[((.le (.v 1) (.v 3)),.true),((.le (.c 0) (.v 3)),.true),((.le (.v 26) (.v 1)),.true),((.le (.v 26) (.v 28)),.true)],[1,0],[(26,(1,4096)),(1,(0,4096)),(2,(0,(-1))),(4,(0,1099511627776))]⟩,[26,27,28]⟩
def rTickN_L0:List Lf:=
 [(.cut ([((.le (.v 1) (.v 3)),.true),((.le (.c 0) (.v 3)),.true)]) 1 ⟨⟨[],[]⟩,[(0,0),(1,1)],[],[]⟩ [] (shT rTickN_T1 ⟨⟨[],[]⟩,[(0,0),(1,1)],[],[]⟩))]
def rTickN_L1:List Lf:=
 let x0_:SI:=(.ap 3 (.v 0) (.c 0) (.c 1) (.c 0) (.c 0) (.c 0))
 let x1_:SI:=(.ap 3 (.v 0) (.c 0) (.c 0) (.c 0) (.c 0) (.c 0))
 let x2_:SI:=(.op .imin (.op .add (.v 4) (.c 1)) (.c 1099511627776))
 let x3_:SI:=(.op .mul (.op .imin (.c 1) (.op .add (.v 3) (.c (-1)))) (.c 2))
 let x4_:SI:=(.ap 8 (.c 0) (.c 0) (.c 0) x1_ (.c 0) (.c 0))
 let f0_:List (SB×Bool):=[((.le (.v 1) (.v 3)),.true),((.le (.c 0) (.v 3)),.true)]
 let f1_:List (SB×Bool):=((.lt (.c 0) (.v 1)),.true)::f0_
 let f2_:List (SB×Bool):=((.le (.c 1) (.d 0)),.true)::((.le x0_ x2_),.true)::f1_
 [(let i_:In:=⟨⟨[(27,(.ap 8 (.c 0) (.c 0) (.c 0) x1_ (.c 0) (.c 0))),(28,(.d 0)),(26,(.c 1))],[]⟩,[(0,0),(1,1),(3,3)],[],[]⟩;.cut (((.eq (.v 1) (.c 1)),.true)::f2_) 2 i_ [(.ei (.op .add (.v 2) x3_) (.op .add (.v 2) (.op .mul (.op .imin (.op .add (.v 3) (.c (-1))) (.c 1)) (.c 2)))),(.ei (.op .add (.v 1) (.c (-1))) (.c 0)),(.ei (.ap 3 x4_ (.c 0) (.c 0) (.c 0) (.c 0) (.c 0)) (.ap 3 (.v 0) (.c 0) (.c 0) (.c 0) (.c 0) (.c 0))),(.fa (.le (.c 1) (.c 1)) .true),(.fa (.le (.c 1) (.d 0)) .true)] (shT rTickN_T2 i_)),
  (let i_:In:=⟨⟨[(27,(.ap 8 (.c 0) (.c 0) (.c 0) x1_ (.c 0) (.c 0))),(28,(.d 0)),(26,(.c 1))],[]⟩,[(0,0),(1,1),(3,3)],[],[]⟩;.cut (((.eq (.v 1) (.c 1)),.false)::f2_) 2 i_ [(.ei (.op .add (.v 2) x3_) (.op .add (.v 2) (.c 2))),(.ei (.ap 3 x4_ (.c 0) (.c 0) (.c 0) (.c 0) (.c 0)) (.ap 3 (.v 0) (.c 0) (.c 0) (.c 0) (.c 0) (.c 0))),(.fa (.le (.c 1) (.c 1)) .true),(.fa (.le (.c 1) (.d 0)) .true)] (shT rTickN_T2 i_)),
  (.fin (((.le x0_ x2_),.false)::f1_) 0 ⟨⟨[],[]⟩,[],[],[]⟩ [] []),
  (.fin (((.lt (.c 0) (.v 1)),.false)::f0_) 0 ⟨⟨[],[]⟩,[],[],[]⟩ [] [])]
def rTickN_L2:List Lf:=
 let x0_:SI:=(.op .add (.v 26) (.c 1))
 let x1_:SI:=(.op .add (.v 3) (.c (-1)))
 let x2_:SI:=(.op .mul (.c (-1)) (.v 26))
 let x3_:SI:=(.op .add (.v 1) x2_)
 let x4_:SI:=(.op .add (.v 3) x2_)
 let x5_:SI:=(.op .imin (.v 26) x1_)
 let x6_:SI:=(.op .imin (.op .add (.v 4) (.c 1)) (.c 1099511627776))
 let x7_:SI:=(.op .mul x5_ (.c 2))
 let x8_:SI:=(.op .mul (.op .imin x0_ x1_) (.c 2))
 let x9_:SI:=(.ap 3 (.v 0) x5_ (.c 1) (.c 0) (.c 0) (.c 0))
 let x10_:SI:=(.ap 3 (.v 0) x5_ (.c 0) (.c 0) (.c 0) (.c 0))
 let x11_:SI:=(.ap 28 (.v 0) (.v 1) x6_ (.c 0) (.c 0) (.c 0))
 let x12_:SI:=(.op .mul x11_ (.c (-1)))
 let x13_:SI:=(.op .mul (.op .imin x11_ x1_) (.c 2))
 let f0_:List (SB×Bool):=[((.le (.v 1) (.v 3)),.true),((.le (.c 0) (.v 3)),.true),((.le (.v 26) (.v 1)),.true),((.le (.v 26) (.v 28)),.true)]
 let f1_:List (SB×Bool):=((.lt (.c 0) x3_),.true)::f0_
 let f2_:List (SB×Bool):=((.le (.c 0) x5_),.true)::f1_
 let f3_:List (SB×Bool):=((.lt x5_ (.v 1)),.true)::f2_
 let f4_:List (SB×Bool):=((.le x0_ (.d 0)),.true)::((.le x9_ x6_),.true)::f3_
 [(let i_:In:=⟨⟨[(27,(.ap 8 (.v 27) (.v 26) (.c 0) x10_ (.c 0) (.c 0))),(28,(.d 0)),(26,(.op .add (.v 26) (.c 1)))],[]⟩,[(0,0),(1,1),(3,5)],[],[]⟩;.cut (((.eq x3_ (.c 1)),.true)::f4_) 2 i_ [(.ei (.op .add (.v 2) x8_) (.op .add (.op .add (.v 2) x7_) (.op .mul (.op .imin (.op .add x4_ (.c (-1))) (.c 1)) (.c 2)))),(.ei (.op .add (.op .add (.v 1) (.op .mul (.v 26) (.c (-1)))) (.c (-1))) (.c 0)),(.ei (.op .add (.op .add (.v 3) (.op .mul (.v 26) (.c (-1)))) (.c (-1))) (.op .add x4_ (.c (-1)))),(.fa (.le x0_ (.v 1)) .true),(.rn (.op .add (.v 26) (.c 1)) 1 4096)] (shT rTickN_T2 i_)),
  (let i_:In:=⟨⟨[(27,(.ap 8 (.v 27) (.v 26) (.c 0) x10_ (.c 0) (.c 0))),(28,(.d 0)),(26,(.op .add (.v 26) (.c 1)))],[]⟩,[(0,0),(1,1),(3,5)],[],[]⟩;.cut (((.eq x3_ (.c 1)),.false)::f4_) 2 i_ [(.ei (.op .add (.v 2) x8_) (.op .add (.op .add (.v 2) x7_) (.c 2))),(.ei (.op .add (.op .add (.v 1) (.op .mul (.v 26) (.c (-1)))) (.c (-1))) (.op .add x3_ (.c (-1)))),(.ei (.op .add (.op .add (.v 3) (.op .mul (.v 26) (.c (-1)))) (.c (-1))) (.op .add x4_ (.c (-1)))),(.fa (.le x0_ (.v 1)) .true),(.rn (.op .add (.v 26) (.c 1)) 1 4096)] (shT rTickN_T2 i_)),
  (.fin (((.le x9_ x6_),.false)::f3_) 1 ⟨⟨[],[]⟩,[(0,3)],[(0,(.v 28))],[]⟩ [(.ei (.op .add (.v 2) x13_) (.op .add (.v 2) x7_)),(.ei (.op .add (.v 1) x12_) (.op .add (.v 1) x2_)),(.ei (.op .add (.v 3) x12_) (.op .add (.v 3) x2_)),(.ei (.ap 28 (.v 0) (.v 1) x6_ (.c 0) (.c 0) (.c 0)) (.v 26)),(.ar [(.nt .i64)] (.ap 30 (.v 0) x11_ (.c 0) (.c 0) (.c 0) (.c 0)) (.v 27) (.ap 28 (.v 0) (.v 1) x6_ (.c 0) (.c 0) (.c 0))),(.fa (.le x11_ (.v 26)) .true),(.fa (.le x11_ (.v 28)) .true),(.fa (.le x11_ (.v 1)) .true)] [.none]),
  (.bad (((.lt x5_ (.v 1)),.false)::f2_)),
  (.bad (((.le (.c 0) x5_),.false)::f1_)),
  (.fin (((.lt (.c 0) x3_),.false)::f0_) 1 ⟨⟨[],[]⟩,[(0,3)],[(0,(.v 28))],[]⟩ [(.ei (.op .add (.v 2) x13_) (.op .add (.v 2) x7_)),(.ei (.op .add (.v 1) x12_) (.op .add (.v 1) x2_)),(.ei (.op .add (.v 3) x12_) (.op .add (.v 3) x2_)),(.ei (.ap 28 (.v 0) (.v 1) x6_ (.c 0) (.c 0) (.c 0)) (.v 26)),(.ar [(.nt .i64)] (.ap 30 (.v 0) x11_ (.c 0) (.c 0) (.c 0) (.c 0)) (.v 27) (.ap 28 (.v 0) (.v 1) x6_ (.c 0) (.c 0) (.c 0))),(.fa (.le x11_ (.v 26)) .true),(.fa (.le x11_ (.v 28)) .true),(.fa (.le x11_ (.v 1)) .true)] [.none])]
def rTickN_run (T:Tm):=(ex (ccOf Try.prog BF [62,32] rTickN) ((fun _=>[]) (ccOf Try.prog BF [62,32] rTickN)) (dw (ccOf Try.prog BF [62,32] rTickN) ((fun _=>[]) (ccOf Try.prog BF [62,32] rTickN)) 1000 4) (stopX []) 4000 T.f T.fs T.H).lfs (ccOf Try.prog BF [62,32] rTickN) ((tm0 rTickN Try.f37 (Try.f37.body.getD .skip))::[rTickN_T1,rTickN_T2]) rTickN.os
theorem rTickN_h0:rTickN_run (tm0 rTickN Try.f37 (Try.f37.body.getD .skip))=some rTickN_L0:=by kernel_rfl
theorem rTickN_h1:rTickN_run rTickN_T1=some rTickN_L1:=by kernel_rfl
theorem rTickN_h2:rTickN_run rTickN_T2=some rTickN_L2:=by kernel_rfl
def rTickN_inv:(Nat→Int)→(Nat→Bool)→Nat→(Nat→Int)→(Nat→Bool)→Prop:=fun iv0 _ k iv _=>match k with | 0=>True | 1=>True | _=>1≤iv 26∧iv 26≤iv0 1∧(∀ j:Nat,(j:Int) < iv 26→fl (iv0 0) j 1≤(if (1099511627776:Int) < iv0 4+1 then 1099511627776 else iv0 4+1))∧∀ j:Nat,(j:Int) < iv 26→fl (iv 27) j 0=fl (iv0 0) j 0
def rTickN_mu:(Nat→Int)→(Nat→Bool)→Nat→(Nat→Int)→(Nat→Bool)→Nat:=fun iv0 _ k iv _=>match k with | 0=>2 ^ 90 | 1=>2 ^ 80 | _=>(iv0 1 - iv 26).toNat
theorem rTickN_b {iv0:Nat→Int} (hin:InB rTickN.B iv0):(0≤iv0 1∧iv0 1≤4096)∧0≤iv0 2∧(0≤iv0 4∧iv0 4≤1099511627776):=by
 have b1:=hin 1 0 4096 (by simp [rTickN,kI,kT,lT,qT,gT,bT,bT5,bT6,fT,fnT,pnT,oQ,n0F,a0F,a1T,nwT,duT,bTt,qT',lI1,lI2,gI1,gI2,bI1,bI2,fI2,i64b,ofT,qTt])
 simp only [Int.reduceLE,reduceIte,Int.reduceNeg] at b1
 have b2:=hin 2 0 (-1) (by simp [rTickN,kI,kT,lT,qT,gT,bT,bT5,bT6,fT,fnT,pnT,oQ,n0F,a0F,a1T,nwT,duT,bTt,qT',lI1,lI2,gI1,gI2,bI1,bI2,fI2,i64b,ofT,qTt])
 simp only [Int.reduceLE,reduceIte,Int.reduceNeg] at b2
 have b4:=hin 4 0 1099511627776 (by simp [rTickN,kI,kT,lT,qT,gT,bT,bT5,bT6,fT,fnT,pnT,oQ,n0F,a0F,a1T,nwT,duT,bTt,qT',lI1,lI2,gI1,gI2,bI1,bI2,fI2,i64b,ofT,qTt])
 simp only [Int.reduceLE,reduceIte,Int.reduceNeg] at b4
 exact ⟨b1,b2.1,b4⟩
def rTickN_ob (k:Nat) (l:List Lf):Prop:=∀ (kv:Kv) (iv0:Nat→Int) (bv0:Nat→Bool),InB rTickN.B iv0→FT (sta FI FB kv iv0 bv0) (dlt dyn0) rTickN.F→∀ (iv:Nat→Int) (bv:Nat→Bool),Agr 5 iv0 bv0 iv bv→rTickN_inv iv0 bv0 k iv bv→∀ lf∈l,LfT (sta FI FB kv) rTickN.os (rTickN_inv iv0 bv0) (rTickN_mu iv0 bv0) k iv bv lf
theorem rTickN_o0:rTickN_ob 0 rTickN_L0:=by
 intro kv iv0 bv0 hin hF iv bv ha hi
 unfold rTickN_L0
 refine List.forall_mem_cons.2 ⟨?_,List.forall_mem_nil _⟩
 all_goals
  intro δ hf
 all_goals
  obtain ⟨b1,b2,b4⟩:=rTickN_b hin
 all_goals
  have a0:=ha.1 0 (by omega)
  have a1:=ha.1 1 (by omega)
  have a2:=ha.1 2 (by omega)
  have a3:=ha.1 3 (by omega)
  have a4:=ha.1 4 (by omega)
 all_goals
  simp only [FT,TP,SB.tp,SI.tv,sta,IB.eval,and_true,true_and,ObsT,Ob.Tv,rowT,kix,In.tiv,↓tbvT,In.tbv,get_cons,get_nil,reduceIte,Nat.reduceEqDiff,Int.reduceToNat,Int.reduceAdd,Int.reduceSub,Int.reduceLE,Int.reduceLT,Int.reduceEq,ne_eq,Bool.false_eq_true,not_true_eq_false,not_false_eq_true,true_iff,false_iff,iff_true,iff_false,false_implies,implies_true,decT,decide_true,decide_false,Bool.decide_eq_true,ap2,pb2,FI_3,FI_8,FI_9,FI_3g,FI_3k,FI_8s,FI_8l,FI_8d,FB_1h,FB_1a,Int.toNat_natCast,Int.toNat_zero,FI_28,FI_30,rTickN_inv,rTickN_mu,rTickN,o1,othT,kI,kT,lT,qT,gT,bT,bT5,bT6,fT,fnT,pnT,oQ,n0F,a0F,a1T,nwT,duT,bTt,qT',lI1,lI2,gI1,gI2,bI1,bI2,fI2,i64b,ofT,qTt,a0,a1,a2,a3,a4] at hf hi ⊢
 all_goals
  (repeat' (with_reducible apply And.intro))<;>first
  | omega
  | assumption
  | (unfold inM;omega)
  | exact trivial
  | (clear hin hF ha;grind)
theorem rTickN_o1:rTickN_ob 1 rTickN_L1:=by
 intro kv iv0 bv0 hin hF iv bv ha hi
 unfold rTickN_L1
 refine List.forall_mem_cons.2 ⟨?_,List.forall_mem_cons.2 ⟨?_,List.forall_mem_cons.2 ⟨?_,List.forall_mem_cons.2 ⟨?_,List.forall_mem_nil _⟩⟩⟩⟩
 all_goals
  intro δ hf
 all_goals
  obtain ⟨b1,b2,b4⟩:=rTickN_b hin
 all_goals
  have a0:=ha.1 0 (by omega)
  have a1:=ha.1 1 (by omega)
  have a2:=ha.1 2 (by omega)
  have a3:=ha.1 3 (by omega)
  have a4:=ha.1 4 (by omega)
 all_goals
  simp only [FT,TP,SB.tp,SI.tv,sta,IB.eval,and_true,true_and,ObsT,Ob.Tv,rowT,kix,In.tiv,↓tbvT,In.tbv,get_cons,get_nil,reduceIte,Nat.reduceEqDiff,Int.reduceToNat,Int.reduceAdd,Int.reduceSub,Int.reduceLE,Int.reduceLT,Int.reduceEq,ne_eq,Bool.false_eq_true,not_true_eq_false,not_false_eq_true,true_iff,false_iff,iff_true,iff_false,false_implies,implies_true,decT,decide_true,decide_false,Bool.decide_eq_true,ap2,pb2,FI_3,FI_8,FI_9,FI_3g,FI_3k,FI_8s,FI_8l,FI_8d,FB_1h,FB_1a,Int.toNat_natCast,Int.toNat_zero,FI_28,FI_30,rTickN_inv,rTickN_mu,rTickN,o1,othT,kI,kT,lT,qT,gT,bT,bT5,bT6,fT,fnT,pnT,oQ,n0F,a0F,a1T,nwT,duT,bTt,qT',lI1,lI2,gI1,gI2,bI1,bI2,fI2,i64b,ofT,qTt,a0,a1,a2,a3,a4] at hf hi ⊢
 all_goals
  have dq:=fun i h0 hi h hp=>dueT_eq (d:=iv0 0) (n:=iv0 1) (now:=(if (1099511627776:Int) < iv0 4+1 then 1099511627776 else iv0 4+1)) (i:=i) (by omega) h0 hi h hp
 all_goals
  have d0:=dq 0 (by omega) (by omega) (fun j hj=>by omega)
 all_goals
  (repeat' (with_reducible apply And.intro))<;>first
  | omega
  | assumption
  | (unfold inM;omega)
  | exact trivial
  | (rw [d0 (fun _=>by simp only [Int.toNat_zero];omega)];omega)
  | (exact le_1 (by omega))
  | (exact eq_1 (fl_has _ _ _) rfl)
  | (rw [fl_set0 _ _ _ (fl_has _ _ _),if_pos (by simp)])
  | (clear hin hF ha;grind)
theorem rTickN_o2:rTickN_ob 2 rTickN_L2:=by
 intro kv iv0 bv0 hin hF iv bv ha hi
 unfold rTickN_L2
 refine List.forall_mem_cons.2 ⟨?_,List.forall_mem_cons.2 ⟨?_,List.forall_mem_cons.2 ⟨?_,List.forall_mem_cons.2 ⟨?_,List.forall_mem_cons.2 ⟨?_,List.forall_mem_cons.2 ⟨?_,List.forall_mem_nil _⟩⟩⟩⟩⟩⟩
 all_goals
  intro δ hf
 all_goals
  obtain ⟨b1,b2,b4⟩:=rTickN_b hin
 all_goals
  have a0:=ha.1 0 (by omega)
  have a1:=ha.1 1 (by omega)
  have a2:=ha.1 2 (by omega)
  have a3:=ha.1 3 (by omega)
  have a4:=ha.1 4 (by omega)
 all_goals
  simp only [FT,TP,SB.tp,SI.tv,sta,IB.eval,and_true,true_and,ObsT,Ob.Tv,rowT,kix,In.tiv,↓tbvT,In.tbv,get_cons,get_nil,reduceIte,Nat.reduceEqDiff,Int.reduceToNat,Int.reduceAdd,Int.reduceSub,Int.reduceLE,Int.reduceLT,Int.reduceEq,ne_eq,Bool.false_eq_true,not_true_eq_false,not_false_eq_true,true_iff,false_iff,iff_true,iff_false,false_implies,implies_true,decT,decide_true,decide_false,Bool.decide_eq_true,ap2,pb2,FI_3,FI_8,FI_9,FI_3g,FI_3k,FI_8s,FI_8l,FI_8d,FB_1h,FB_1a,Int.toNat_natCast,Int.toNat_zero,FI_28,FI_30,rTickN_inv,rTickN_mu,rTickN,o1,othT,kI,kT,lT,qT,gT,bT,bT5,bT6,fT,fnT,pnT,oQ,n0F,a0F,a1T,nwT,duT,bTt,qT',lI1,lI2,gI1,gI2,bI1,bI2,fI2,i64b,ofT,qTt,a0,a1,a2,a3,a4] at hf hi ⊢
 all_goals
  obtain ⟨g0,g1,g2,g3⟩:=hi
 all_goals
  have dq:=fun i h0 hi h hp=>dueT_eq (d:=iv0 0) (n:=iv0 1) (now:=(if (1099511627776:Int) < iv0 4+1 then 1099511627776 else iv0 4+1)) (i:=i) (by omega) h0 hi h hp
 all_goals
  have d1:=dq (iv 26) (by omega) g1 g2
 all_goals
  try (have hm:(if iv0 3+-1 < iv 26 then iv0 3+-1 else iv 26)=iv 26:=(by omega);simp only [hm] at hf ⊢)
 all_goals
  (repeat' (with_reducible apply And.intro))<;>first
  | omega
  | assumption
  | (unfold inM;omega)
  | (exact eq_suc g3 (by omega) (fl_has _ _ _) rfl)
  | (exact le_suc g2 (by omega) (by omega))
  | (have e:=d1 (fun h=>by omega);rw [e];exact col_eq g3)
  | (have e:=d1 (fun h=>by omega);omega)
  | (clear hin hF ha;grind)
theorem rTickN_c:LsC ((tm0 rTickN Try.f37 (Try.f37.body.getD .skip))::[rTickN_T1,rTickN_T2]) rTickN.os [rTickN_L0,rTickN_L1,rTickN_L2]:=by
 unfold rTickN_L0 rTickN_L1 rTickN_L2
 exact ⟨List.forall_mem_cons.2 ⟨⟨⟨_,rfl,rfl⟩,by kernel_rfl⟩,List.forall_mem_nil _⟩,List.forall_mem_cons.2 ⟨⟨⟨_,rfl,rfl⟩,by kernel_rfl⟩,List.forall_mem_cons.2 ⟨⟨⟨_,rfl,rfl⟩,by kernel_rfl⟩,List.forall_mem_cons.2 ⟨⟨⟨_,rfl,rfl⟩,by kernel_rfl⟩,List.forall_mem_cons.2 ⟨⟨⟨_,rfl,rfl⟩,by kernel_rfl⟩,List.forall_mem_nil _⟩⟩⟩⟩,List.forall_mem_cons.2 ⟨⟨⟨_,rfl,rfl⟩,by kernel_rfl⟩,List.forall_mem_cons.2 ⟨⟨⟨_,rfl,rfl⟩,by kernel_rfl⟩,List.forall_mem_cons.2 ⟨⟨⟨_,rfl,rfl⟩,by kernel_rfl⟩,List.forall_mem_cons.2 ⟨trivial,List.forall_mem_cons.2 ⟨trivial,List.forall_mem_cons.2 ⟨⟨⟨_,rfl,rfl⟩,by kernel_rfl⟩,List.forall_mem_nil _⟩⟩⟩⟩⟩⟩,trivial⟩
theorem rTickN_ok:rTickN.Ok Try.prog FI FB:=
 Con.of_plain (body:=Try.f37.body.getD .skip) pok fiok EntsFor.nil rTickN Try.func37 (by kernel_rfl) 5 [rTickN_T1,rTickN_T2] (by kernel_rfl) [rTickN_L0,rTickN_L1,rTickN_L2] ⟨rTickN_h0,rTickN_h1,rTickN_h2,trivial⟩ rTickN_c
  rTickN_inv rTickN_mu (fun _ _ _=>trivial) fun kv iv0 bv0 hin hF k l iv bv hk ha hi=>match k,hk,hi with
  | 0,hk,hi=>by
    cases hk
    exact rTickN_o0 kv iv0 bv0 hin hF iv bv ha hi
  | 1,hk,hi=>by
    cases hk
    exact rTickN_o1 kv iv0 bv0 hin hF iv bv ha hi
  | 2,hk,hi=>by
    cases hk
    exact rTickN_o2 kv iv0 bv0 hin hF iv bv ha hi
  | k+3,hk,_=>by simp at hk
end
end Go.Sx.Ti
