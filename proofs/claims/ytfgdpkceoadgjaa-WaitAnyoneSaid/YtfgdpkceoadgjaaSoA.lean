/- Sorting: by insertion. -/
import Derived.Test.YtfgdpkceoadgjaaMoD
import Derived.Test.YtfgdpkceoadgjaaSxCn
namespace Go.Sx.Mhw
set_option linter.unusedVariables false
set_option linter.unusedSimpArgs false
set_option linter.unusedSectionVars false
set_option maxRecDepth 100000
set_option maxHeartbeats 0
noncomputable section
open Go Go.Sx Go.Proofs
def kU:List Kd:=[.nt .i64,.nt .i64,.nt .i64,.nt .i64,.nt .i64,.nt .i64]
def dU:SV:=.sl (.n 0) (.c 0) (.v 1) (.v 2)
def cmpV:SV:=.fn 117 [.it .i64 (.v 4)] []
def mU (c:SI):List (Nat×Bk):=[(0,.arr kU c (.v 1) 158 (.v 3))]
def bU:List (Nat×Int×Int):=[(1,0,1000),(3,0,-1),i64b 4]
def fU:List (SB×Bool):=[(.le (.v 1) (.v 2),true),(.le (.v 1) (.v 3),true)]
def leF (i j:Nat):SB×Bool:=(.le (.v i) (.v j),true)
def ltF (i j:Nat):SB×Bool:=(.lt (.v i) (.v j),true)
def uCmp:Con:=⟨117,[4,5,6,7,8,9,10,11,12,13,14,15,16],[.it .i64 (.v 4),.ag (ints [5,6,7,8,9,10]),.ag (ints [11,12,13,14,15,16])],[],i64s [4,5,6,7,8,9,10,11,12,13,14,15,16],[],
 o1 (.it .i64 (.ap 40 (.v 8) (.v 10) (.op .sub (.v 9) (.v 4)) (.v 14) (.v 16) (.op .sub (.v 15) (.v 4))))⟩
def tU (f:Nat) (a b x y:SI):SI:=.ap f (.v 0) (.v 1) a b x y
def uIns:Com:=⟨157,[0,1,2,3,4,5,6],[dU,.it .i64 (.v 5),.it .i64 (.v 6),cmpV],mU (.v 0),1,bU,(.le (.c 0) (.v 5),true)::(.le (.v 5) (.c 1000),true)::(.le (.c 0) (.v 6),true)::(.le (.v 6) (.c 1000),true)::leF 5 6::leF 6 1::fU,[⟨[],.tp [],mU (tU 41 (.v 5) (.v 6) (.v 4) (.c 0)),1,0,[]⟩],.c 0⟩
def uSif:Com:=⟨168,[0,1,2,3,4,5,6,7],[dU,.it .i64 (.v 5),.it .i64 (.v 6),.it .i64 (.v 7),cmpV],mU (.v 0),1,bU,(.le (.c 0) (.v 5),true)::(.le (.v 5) (.c 1000),true)::(.le (.c 0) (.v 6),true)::(.le (.v 6) (.c 1000),true)::(.le (.c 0) (.v 7),true)::(.le (.v 7) (.c 1000),true)::leF 5 6::(.le (.op .add (.v 7) (.v 6)) (.v 1),true)::fU,[⟨[],.tp [],mU (tU 42 (.v 5) (.v 6) (.v 7) (.v 4)),1,0,[]⟩],.c 0⟩
theorem swp12 {c i j n:Int} (hi:0≤i) (hi2:i < n) (hj:0≤j) (hj2:j < n):arrOf (setC (setC (setC (setC (setC (setC (setC (setC (setC (setC (setC (setC c i 0 (fl c j.toNat 0)) i 1 (fl c j.toNat 1)) i 2 (fl c j.toNat 2)) i 3 (fl c j.toNat 3)) i 4 (fl c j.toNat 4)) i 5 (fl c j.toNat 5)) j 0 (fl c i.toNat 0)) j 1 (fl c i.toNat 1)) j 2 (fl c i.toNat 2)) j 3 (fl c i.toNat 3)) j 4 (fl c i.toNat 4)) j 5 (fl c i.toNat 5)) n=Sort.swp (arrOf c n) i.toNat j.toNat:=by
 refine arrOf_swp (by omega) (by omega) fun k hk f hf=>?_
 have hw:∀ (a b:Nat),IntKind.i64.wrap (fl c a b)=fl c a b:=fun a b=>wrap_in .i64 _ (fl_has c a b).1 (fl_has c a b).2
 have h6:f=0∨f=1∨f=2∨f=3∨f=4∨f=5:=by omega
 simp only [fl_set,hw]
 rcases h6 with rfl | rfl | rfl | rfl | rfl | rfl<;>simp
theorem rows6 {c n:Int} {d:Array Rw} (h:arrOf c n=d):∀ j:Nat,(j:Int) < n→fl (codeOf d) j 0=fl c j 0∧fl (codeOf d) j 1=fl c j 1∧fl (codeOf d) j 2=fl c j 2∧fl (codeOf d) j 3=fl c j 3∧fl (codeOf d) j 4=fl c j 4∧fl (codeOf d) j 5=fl c j 5:=
 fun j hj=>⟨fl_codeOf h hj (by omega),fl_codeOf h hj (by omega),fl_codeOf h hj (by omega),fl_codeOf h hj (by omega),fl_codeOf h hj (by omega),fl_codeOf h hj (by omega)⟩
abbrev ltC (c lim i j:Int):Prop:=cmpU (fl c i.toNat 3) (fl c i.toNat 5) (fl c i.toNat 4 - lim) (fl c j.toNat 3) (fl c j.toNat 5) (fl c j.toNat 4 - lim) < 0
theorem ltC_at {c n lim i j:Int} (hi:0≤i) (hi2:i < n) (hj:0≤j) (hj2:j < n):ltU lim (arrOf c n)[i.toNat]! (arrOf c n)[j.toNat]! = decide (ltC c lim i j):=by
 have:=ltU_at (c:=c) (lim:=lim) (n:=n) (i:=i.toNat) (j:=j.toNat) (by omega) (by omega)
 by_cases h:ltC c lim i j
 ·rw [decide_eq_true h,this];exact h
 ·rw [decide_eq_false h];exact Bool.eq_false_iff.2 fun e=>h (by rw [this] at e;exact e)
section
variable {c n lim hi first root:Int} (h1:0≤first) (h2:0≤root) (h3:first+hi≤n)
include h1 h2 h3
theorem sif_end (h:hi≤2 * root+1):Sort.siftDown (ltU lim) hi.toNat first.toNat root.toNat (arrOf c n)=arrOf c n:=by
 rw [Sort.siftDown,dif_pos (by omega)]
theorem sif_R (h:2 * root+2 < hi) (k1:ltC c lim (first+2 * root+1) (first+2 * root+2)) (k2:ltC c lim (first+root) (first+2 * root+2)) :
  Sort.siftDown (ltU lim) hi.toNat first.toNat root.toNat (arrOf c n)=Sort.siftDown (ltU lim) hi.toNat first.toNat (2 * root+2).toNat (Sort.swp (arrOf c n) (first+root).toNat (first+2 * root+2).toNat):=by
 have e1:=ltC_at (c:=c) (n:=n) (lim:=lim) (i:=first+2 * root+1) (j:=first+2 * root+2) (by omega) (by omega) (by omega) (by omega)
 have e2:=ltC_at (c:=c) (n:=n) (lim:=lim) (i:=first+root) (j:=first+2 * root+2) (by omega) (by omega) (by omega) (by omega)
 rw [decide_eq_true k1] at e1
 rw [decide_eq_true k2] at e2
 have a1:(first+2 * root+1).toNat=first.toNat+(2 * root.toNat+1):=by omega
 have a2:(first+2 * root+2).toNat=first.toNat+(2 * root.toNat+2):=by omega
 have a3:(first+root).toNat=first.toNat+root.toNat:=by omega
 have a4:(2 * root+2).toNat=2 * root.toNat+2:=by omega
 rw [a1,a2] at e1
 rw [a3,a2] at e2
 rw [a2,a3,a4,Sort.siftDown,dif_neg (by omega)]
 have e1':ltU lim (arrOf c n)[first.toNat+(2 * root.toNat+1)]! (arrOf c n)[first.toNat+(2 * root.toNat+1)+1]! = true:=e1
 rw [e1',e2]
 simp only [Bool.and_true,decide_eq_true_eq,Bool.not_true,Bool.false_eq_true,if_false]
 rw [if_pos (by omega),dif_pos (by omega)]
theorem sif_Rend (h:2 * root+2 < hi) (k1:ltC c lim (first+2 * root+1) (first+2 * root+2)) (k2:¬ ltC c lim (first+root) (first+2 * root+2)) :
  Sort.siftDown (ltU lim) hi.toNat first.toNat root.toNat (arrOf c n)=arrOf c n:=by
 have e1:=ltC_at (c:=c) (n:=n) (lim:=lim) (i:=first+2 * root+1) (j:=first+2 * root+2) (by omega) (by omega) (by omega) (by omega)
 have e2:=ltC_at (c:=c) (n:=n) (lim:=lim) (i:=first+root) (j:=first+2 * root+2) (by omega) (by omega) (by omega) (by omega)
 rw [decide_eq_true k1] at e1
 rw [decide_eq_false k2] at e2
 have a1:(first+2 * root+1).toNat=first.toNat+(2 * root.toNat+1):=by omega
 have a2:(first+2 * root+2).toNat=first.toNat+(2 * root.toNat+2):=by omega
 have a3:(first+root).toNat=first.toNat+root.toNat:=by omega
 rw [a1,a2] at e1
 rw [a3,a2] at e2
 rw [Sort.siftDown,dif_neg (by omega)]
 have e1':ltU lim (arrOf c n)[first.toNat+(2 * root.toNat+1)]! (arrOf c n)[first.toNat+(2 * root.toNat+1)+1]! = true:=e1
 rw [e1',e2]
 simp only [Bool.and_true,decide_eq_true_eq,Bool.not_false,if_true]
 rw [if_pos (by omega)]
theorem sif_L (h:2 * root+1 < hi) (k1:2 * root+2 < hi→¬ ltC c lim (first+2 * root+1) (first+2 * root+2)) (k2:ltC c lim (first+root) (first+2 * root+1)) :
  Sort.siftDown (ltU lim) hi.toNat first.toNat root.toNat (arrOf c n)=Sort.siftDown (ltU lim) hi.toNat first.toNat (2 * root+1).toNat (Sort.swp (arrOf c n) (first+root).toNat (first+2 * root+1).toNat):=by
 have e2:=ltC_at (c:=c) (n:=n) (lim:=lim) (i:=first+root) (j:=first+2 * root+1) (by omega) (by omega) (by omega) (by omega)
 rw [decide_eq_true k2] at e2
 have a1:(first+2 * root+1).toNat=first.toNat+(2 * root.toNat+1):=by omega
 have a2:(first+2 * root+2).toNat=first.toNat+(2 * root.toNat+1)+1:=by omega
 have a3:(first+root).toNat=first.toNat+root.toNat:=by omega
 have a4:(2 * root+1).toNat=2 * root.toNat+1:=by omega
 rw [a3,a1] at e2
 have hn:¬ ((decide (2 * root.toNat+1+1 < hi.toNat) && ltU lim (arrOf c n)[first.toNat+(2 * root.toNat+1)]! (arrOf c n)[first.toNat+(2 * root.toNat+1)+1]!)=true):=by
  intro hh
  rw [Bool.and_eq_true,decide_eq_true_eq] at hh
  have e1:=ltC_at (c:=c) (n:=n) (lim:=lim) (i:=first+2 * root+1) (j:=first+2 * root+2) (by omega) (by omega) (by omega) (by omega)
  rw [decide_eq_false (k1 (by omega)),a1,a2] at e1
  rw [e1] at hh;cases hh.2
 rw [a1,a3,a4,Sort.siftDown,dif_neg (by omega),if_neg hn,e2]
 simp
theorem sif_Lend (h:2 * root+1 < hi) (k1:2 * root+2 < hi→¬ ltC c lim (first+2 * root+1) (first+2 * root+2)) (k2:¬ ltC c lim (first+root) (first+2 * root+1)) :
  Sort.siftDown (ltU lim) hi.toNat first.toNat root.toNat (arrOf c n)=arrOf c n:=by
 have e2:=ltC_at (c:=c) (n:=n) (lim:=lim) (i:=first+root) (j:=first+2 * root+1) (by omega) (by omega) (by omega) (by omega)
 rw [decide_eq_false k2] at e2
 have a1:(first+2 * root+1).toNat=first.toNat+(2 * root.toNat+1):=by omega
 have a2:(first+2 * root+2).toNat=first.toNat+(2 * root.toNat+1)+1:=by omega
 have a3:(first+root).toNat=first.toNat+root.toNat:=by omega
 rw [a3,a1] at e2
 have hn:¬ ((decide (2 * root.toNat+1+1 < hi.toNat) && ltU lim (arrOf c n)[first.toNat+(2 * root.toNat+1)]! (arrOf c n)[first.toNat+(2 * root.toNat+1)+1]!)=true):=by
  intro hh
  rw [Bool.and_eq_true,decide_eq_true_eq] at hh
  have e1:=ltC_at (c:=c) (n:=n) (lim:=lim) (i:=first+2 * root+1) (j:=first+2 * root+2) (by omega) (by omega) (by omega) (by omega)
  rw [decide_eq_false (k1 (by omega)),a1,a2] at e1
  rw [e1] at hh;cases hh.2
 rw [Sort.siftDown,dif_neg (by omega),if_neg hn,e2]
 simp
end
theorem insInner_go (lt:Rw→Rw→Bool) (a j:Nat) (d:Array Rw) (h:a < j) (hl:lt d[j]! d[j - 1]! = true):Sort.insInner lt a j d=Sort.insInner lt a (j - 1) (Sort.swp d j (j - 1)):=by
 cases j with
 | zero=>omega
 | succ j=>
   have hl':lt d[j+1]! d[j]! = true:=hl
   show (if j+1 > a && lt d[j+1]! d[j]! then Sort.insInner lt a j (Sort.swp d (j+1) j) else d)=_
   rw [hl'];simp [h]
theorem insInner_stop (lt:Rw→Rw→Bool) (a j:Nat) (d:Array Rw) (h:j≤a∨¬ lt d[j]! d[j - 1]! = true):Sort.insInner lt a j d=d:=by
 cases j with
 | zero=>rfl
 | succ j=>
   show (if j+1 > a && lt d[j+1]! d[j]! then Sort.insInner lt a j (Sort.swp d (j+1) j) else d)=_
   rw [if_neg]
   intro hh
   simp only [Bool.and_eq_true,decide_eq_true_eq] at hh
   rcases h with h | h
   ·omega
   ·exact h hh.2
theorem insOuter_go (lt:Rw→Rw→Bool) (a b i:Nat) (d:Array Rw) (h:i < b):Sort.insOuter lt a b i d=Sort.insOuter lt a b (i+1) (Sort.insInner lt a i d):=by
 rw [Sort.insOuter,if_pos h]
theorem insOuter_stop (lt:Rw→Rw→Bool) (a b i:Nat) (d:Array Rw) (h:¬ i < b):Sort.insOuter lt a b i d=d:=by
 rw [Sort.insOuter,if_neg h]
def uCmp_L0:List Lf:=
 let x0_:SI:=(.op .sub (.v 9) (.v 4))
 let x1_:SI:=(.op .sub (.v 15) (.v 4))
 let p2_:SB×Bool:=((.lt (.v 10) (.v 16)),.true)
 let p3_:SB×Bool:=((.lt (.v 16) (.v 10)),.true)
 let p4_:SB×Bool:=((.lt (.v 10) (.v 16)),.false)
 let p5_:SB×Bool:=((.lt (.v 16) (.v 10)),.false)
 let f0_:List (SB×Bool):=[((.le (.v 4) (.v 15)),.true),((.le (.v 4) (.v 9)),.true)]
 let f1_:List (SB×Bool):=[((.le (.v 4) (.v 15)),.false),((.le (.v 4) (.v 9)),.false)]
 let f2_:List (SB×Bool):=p4_::f0_
 let f3_:List (SB×Bool):=((.lt (.v 14) (.v 8)),.true)::f1_
 let f4_:List (SB×Bool):=((.lt (.v 14) (.v 8)),.false)::f1_
 let f5_:List (SB×Bool):=p4_::f3_
 let f6_:List (SB×Bool):=((.lt (.v 8) (.v 14)),.true)::f4_
 let f7_:List (SB×Bool):=((.lt (.v 8) (.v 14)),.false)::f4_
 let f8_:List (SB×Bool):=p4_::f6_
 let f9_:List (SB×Bool):=p4_::f7_
 [(.fin (p2_::f0_) 0 ⟨⟨[],[]⟩,[],[],[]⟩ [(.ei (.ap 40 (.v 8) (.v 10) x0_ (.v 14) (.v 16) x1_) (.c (-1)))] []),
  (.fin (p3_::f2_) 0 ⟨⟨[],[]⟩,[],[],[]⟩ [(.ei (.ap 40 (.v 8) (.v 10) x0_ (.v 14) (.v 16) x1_) (.c 1))] []),
  (.fin (p5_::f2_) 0 ⟨⟨[],[]⟩,[],[],[]⟩ [(.ei (.ap 40 (.v 8) (.v 10) x0_ (.v 14) (.v 16) x1_) (.c 0))] []),
  (.fin ([((.le (.v 4) (.v 15)),.false),((.le (.v 4) (.v 9)),.true)]) 0 ⟨⟨[],[]⟩,[],[],[]⟩ [(.ei (.ap 40 (.v 8) (.v 10) x0_ (.v 14) (.v 16) x1_) (.c (-1)))] []),
  (.fin ([((.le (.v 4) (.v 15)),.true),((.le (.v 4) (.v 9)),.false)]) 0 ⟨⟨[],[]⟩,[],[],[]⟩ [(.ei (.ap 40 (.v 8) (.v 10) x0_ (.v 14) (.v 16) x1_) (.c 1))] []),
  (.fin (p2_::f3_) 0 ⟨⟨[],[]⟩,[],[],[]⟩ [(.ei (.ap 40 (.v 8) (.v 10) x0_ (.v 14) (.v 16) x1_) (.c (-1)))] []),
  (.fin (p3_::f5_) 0 ⟨⟨[],[]⟩,[],[],[]⟩ [(.ei (.ap 40 (.v 8) (.v 10) x0_ (.v 14) (.v 16) x1_) (.c (-1)))] []),
  (.fin (p5_::f5_) 0 ⟨⟨[],[]⟩,[],[],[]⟩ [(.ei (.ap 40 (.v 8) (.v 10) x0_ (.v 14) (.v 16) x1_) (.c (-1)))] []),
  (.fin (p2_::f6_) 0 ⟨⟨[],[]⟩,[],[],[]⟩ [(.ei (.ap 40 (.v 8) (.v 10) x0_ (.v 14) (.v 16) x1_) (.c 1))] []),
  (.fin (p3_::f8_) 0 ⟨⟨[],[]⟩,[],[],[]⟩ [(.ei (.ap 40 (.v 8) (.v 10) x0_ (.v 14) (.v 16) x1_) (.c 1))] []),
  (.fin (p5_::f8_) 0 ⟨⟨[],[]⟩,[],[],[]⟩ [(.ei (.ap 40 (.v 8) (.v 10) x0_ (.v 14) (.v 16) x1_) (.c 1))] []),
  (.fin (p2_::f7_) 0 ⟨⟨[],[]⟩,[],[],[]⟩ [(.ei (.ap 40 (.v 8) (.v 10) x0_ (.v 14) (.v 16) x1_) (.c (-1)))] []),
  (.fin (p3_::f9_) 0 ⟨⟨[],[]⟩,[],[],[]⟩ [(.ei (.ap 40 (.v 8) (.v 10) x0_ (.v 14) (.v 16) x1_) (.c 1))] []),
  (.fin (p5_::f9_) 0 ⟨⟨[],[]⟩,[],[],[]⟩ [(.ei (.ap 40 (.v 8) (.v 10) x0_ (.v 14) (.v 16) x1_) (.c 0))] [])]
def uCmp_run (T:Tm):=(ex (ccOf Try.prog BF [58,84] uCmp) ((fun _=>[]) (ccOf Try.prog BF [58,84] uCmp)) (dw (ccOf Try.prog BF [58,84] uCmp) ((fun _=>[]) (ccOf Try.prog BF [58,84] uCmp)) 1000 4) (stopX []) 4000 T.f T.fs T.H).lfs (ccOf Try.prog BF [58,84] uCmp) ((tm0 uCmp Try.f117 (Try.f117.body.getD .skip))::[]) uCmp.os
theorem uCmp_h0:uCmp_run (tm0 uCmp Try.f117 (Try.f117.body.getD .skip))=some uCmp_L0:=by kernel_rfl
def uCmp_inv:(Nat→Int)→(Nat→Bool)→Nat→(Nat→Int)→(Nat→Bool)→Prop:=fun _ _ _ _ _=>True
def uCmp_mu:(Nat→Int)→(Nat→Bool)→Nat→(Nat→Int)→(Nat→Bool)→Nat:=fun _ _ _ _ _=>0
theorem uCmp_b {iv0:Nat→Int} (hin:InB uCmp.B iv0):((-9223372036854775808)≤iv0 4∧iv0 4≤9223372036854775807)∧((-9223372036854775808)≤iv0 5∧iv0 5≤9223372036854775807)∧((-9223372036854775808)≤iv0 6∧iv0 6≤9223372036854775807)∧((-9223372036854775808)≤iv0 7∧iv0 7≤9223372036854775807)∧((-9223372036854775808)≤iv0 8∧iv0 8≤9223372036854775807)∧((-9223372036854775808)≤iv0 9∧iv0 9≤9223372036854775807)∧((-9223372036854775808)≤iv0 10∧iv0 10≤9223372036854775807)∧((-9223372036854775808)≤iv0 11∧iv0 11≤9223372036854775807)∧((-9223372036854775808)≤iv0 12∧iv0 12≤9223372036854775807)∧((-9223372036854775808)≤iv0 13∧iv0 13≤9223372036854775807)∧((-9223372036854775808)≤iv0 14∧iv0 14≤9223372036854775807)∧((-9223372036854775808)≤iv0 15∧iv0 15≤9223372036854775807)∧((-9223372036854775808)≤iv0 16∧iv0 16≤9223372036854775807):=by
 have b4:=hin 4 (-9223372036854775808) 9223372036854775807 (by simp [uCmp,kU,ints,i64s,lmap,i64b,dU,cmpV,mU,bU,fU,leF,ltF,tU])
 simp only [Int.reduceLE,reduceIte,Int.reduceNeg] at b4
 have b5:=hin 5 (-9223372036854775808) 9223372036854775807 (by simp [uCmp,kU,ints,i64s,lmap,i64b,dU,cmpV,mU,bU,fU,leF,ltF,tU])
 simp only [Int.reduceLE,reduceIte,Int.reduceNeg] at b5
 have b6:=hin 6 (-9223372036854775808) 9223372036854775807 (by simp [uCmp,kU,ints,i64s,lmap,i64b,dU,cmpV,mU,bU,fU,leF,ltF,tU])
 simp only [Int.reduceLE,reduceIte,Int.reduceNeg] at b6
 have b7:=hin 7 (-9223372036854775808) 9223372036854775807 (by simp [uCmp,kU,ints,i64s,lmap,i64b,dU,cmpV,mU,bU,fU,leF,ltF,tU])
 simp only [Int.reduceLE,reduceIte,Int.reduceNeg] at b7
 have b8:=hin 8 (-9223372036854775808) 9223372036854775807 (by simp [uCmp,kU,ints,i64s,lmap,i64b,dU,cmpV,mU,bU,fU,leF,ltF,tU])
 simp only [Int.reduceLE,reduceIte,Int.reduceNeg] at b8
 have b9:=hin 9 (-9223372036854775808) 9223372036854775807 (by simp [uCmp,kU,ints,i64s,lmap,i64b,dU,cmpV,mU,bU,fU,leF,ltF,tU])
 simp only [Int.reduceLE,reduceIte,Int.reduceNeg] at b9
 have b10:=hin 10 (-9223372036854775808) 9223372036854775807 (by simp [uCmp,kU,ints,i64s,lmap,i64b,dU,cmpV,mU,bU,fU,leF,ltF,tU])
 simp only [Int.reduceLE,reduceIte,Int.reduceNeg] at b10
 have b11:=hin 11 (-9223372036854775808) 9223372036854775807 (by simp [uCmp,kU,ints,i64s,lmap,i64b,dU,cmpV,mU,bU,fU,leF,ltF,tU])
 simp only [Int.reduceLE,reduceIte,Int.reduceNeg] at b11
 have b12:=hin 12 (-9223372036854775808) 9223372036854775807 (by simp [uCmp,kU,ints,i64s,lmap,i64b,dU,cmpV,mU,bU,fU,leF,ltF,tU])
 simp only [Int.reduceLE,reduceIte,Int.reduceNeg] at b12
 have b13:=hin 13 (-9223372036854775808) 9223372036854775807 (by simp [uCmp,kU,ints,i64s,lmap,i64b,dU,cmpV,mU,bU,fU,leF,ltF,tU])
 simp only [Int.reduceLE,reduceIte,Int.reduceNeg] at b13
 have b14:=hin 14 (-9223372036854775808) 9223372036854775807 (by simp [uCmp,kU,ints,i64s,lmap,i64b,dU,cmpV,mU,bU,fU,leF,ltF,tU])
 simp only [Int.reduceLE,reduceIte,Int.reduceNeg] at b14
 have b15:=hin 15 (-9223372036854775808) 9223372036854775807 (by simp [uCmp,kU,ints,i64s,lmap,i64b,dU,cmpV,mU,bU,fU,leF,ltF,tU])
 simp only [Int.reduceLE,reduceIte,Int.reduceNeg] at b15
 have b16:=hin 16 (-9223372036854775808) 9223372036854775807 (by simp [uCmp,kU,ints,i64s,lmap,i64b,dU,cmpV,mU,bU,fU,leF,ltF,tU])
 simp only [Int.reduceLE,reduceIte,Int.reduceNeg] at b16
 exact ⟨b4,b5,b6,b7,b8,b9,b10,b11,b12,b13,b14,b15,b16⟩
def uCmp_ob (k:Nat) (l:List Lf):Prop:=∀ (kv:Kv) (iv0:Nat→Int) (bv0:Nat→Bool),InB uCmp.B iv0→FT (sta FI FB kv iv0 bv0) (dlt dyn0) uCmp.F→∀ (iv:Nat→Int) (bv:Nat→Bool),Agr 17 iv0 bv0 iv bv→uCmp_inv iv0 bv0 k iv bv→∀ lf∈l,LfT (sta FI FB kv) uCmp.os (uCmp_inv iv0 bv0) (uCmp_mu iv0 bv0) k iv bv lf
theorem uCmp_o0:uCmp_ob 0 uCmp_L0:=by
 intro kv iv0 bv0 hin hF iv bv ha hi
 unfold uCmp_L0
 refine List.forall_mem_cons.2 ⟨?_,List.forall_mem_cons.2 ⟨?_,List.forall_mem_cons.2 ⟨?_,List.forall_mem_cons.2 ⟨?_,List.forall_mem_cons.2 ⟨?_,List.forall_mem_cons.2 ⟨?_,List.forall_mem_cons.2 ⟨?_,List.forall_mem_cons.2 ⟨?_,List.forall_mem_cons.2 ⟨?_,List.forall_mem_cons.2 ⟨?_,List.forall_mem_cons.2 ⟨?_,List.forall_mem_cons.2 ⟨?_,List.forall_mem_cons.2 ⟨?_,List.forall_mem_cons.2 ⟨?_,List.forall_mem_nil _⟩⟩⟩⟩⟩⟩⟩⟩⟩⟩⟩⟩⟩⟩
 all_goals
  intro δ hf
 all_goals
  obtain ⟨b4,b5,b6,b7,b8,b9,b10,b11,b12,b13,b14,b15,b16⟩:=uCmp_b hin
 all_goals
  have a4:=ha.1 4 (by omega)
  have a5:=ha.1 5 (by omega)
  have a6:=ha.1 6 (by omega)
  have a7:=ha.1 7 (by omega)
  have a8:=ha.1 8 (by omega)
  have a9:=ha.1 9 (by omega)
  have a10:=ha.1 10 (by omega)
  have a11:=ha.1 11 (by omega)
  have a12:=ha.1 12 (by omega)
  have a13:=ha.1 13 (by omega)
  have a14:=ha.1 14 (by omega)
  have a15:=ha.1 15 (by omega)
  have a16:=ha.1 16 (by omega)
 all_goals
  simp only [FT,TP,SB.tp,SI.tv,sta,IB.eval,and_true,true_and,ObsT,Ob.Tv,rowT,kix,In.tiv,↓tbvT,In.tbv,get_cons,get_nil,reduceIte,Nat.reduceEqDiff,Int.reduceToNat,Int.reduceAdd,Int.reduceSub,Int.reduceLE,Int.reduceLT,Int.reduceEq,ne_eq,Bool.false_eq_true,not_true_eq_false,not_false_eq_true,true_iff,false_iff,iff_true,iff_false,false_implies,implies_true,decT,decide_true,decide_false,Bool.decide_eq_true,ap2,pb2,FI_3,FI_8,FI_9,FI_10,FI_11,FI_12,FI_13,FB_10,FB_11,FB_12,FB_13,FB_14,FB_15,FB_16,FI_3g,FI_8m,Int.toNat_natCast,Int.toNat_zero,FI_40,uCmp_inv,uCmp_mu,uCmp,o1,othT,kU,ints,i64s,lmap,i64b,dU,cmpV,mU,bU,fU,leF,ltF,tU,a4,a5,a6,a7,a8,a9,a10,a11,a12,a13,a14,a15,a16] at hf hi ⊢
 all_goals
  (repeat' (with_reducible apply And.intro))<;>first
  | omega
  | assumption
  | (unfold inM;omega)
  | (unfold cmpU;(repeat' split)<;>omega)
theorem uCmp_c:LsC ((tm0 uCmp Try.f117 (Try.f117.body.getD .skip))::[]) uCmp.os [uCmp_L0]:=by
 unfold uCmp_L0
 exact ⟨List.forall_mem_cons.2 ⟨⟨⟨_,rfl,rfl⟩,by kernel_rfl⟩,List.forall_mem_cons.2 ⟨⟨⟨_,rfl,rfl⟩,by kernel_rfl⟩,List.forall_mem_cons.2 ⟨⟨⟨_,rfl,rfl⟩,by kernel_rfl⟩,List.forall_mem_cons.2 ⟨⟨⟨_,rfl,rfl⟩,by kernel_rfl⟩,List.forall_mem_cons.2 ⟨⟨⟨_,rfl,rfl⟩,by kernel_rfl⟩,List.forall_mem_cons.2 ⟨⟨⟨_,rfl,rfl⟩,by kernel_rfl⟩,List.forall_mem_cons.2 ⟨⟨⟨_,rfl,rfl⟩,by kernel_rfl⟩,List.forall_mem_cons.2 ⟨⟨⟨_,rfl,rfl⟩,by kernel_rfl⟩,List.forall_mem_cons.2 ⟨⟨⟨_,rfl,rfl⟩,by kernel_rfl⟩,List.forall_mem_cons.2 ⟨⟨⟨_,rfl,rfl⟩,by kernel_rfl⟩,List.forall_mem_cons.2 ⟨⟨⟨_,rfl,rfl⟩,by kernel_rfl⟩,List.forall_mem_cons.2 ⟨⟨⟨_,rfl,rfl⟩,by kernel_rfl⟩,List.forall_mem_cons.2 ⟨⟨⟨_,rfl,rfl⟩,by kernel_rfl⟩,List.forall_mem_cons.2 ⟨⟨⟨_,rfl,rfl⟩,by kernel_rfl⟩,List.forall_mem_nil _⟩⟩⟩⟩⟩⟩⟩⟩⟩⟩⟩⟩⟩⟩,trivial⟩
theorem uCmp_ok:uCmp.Ok Try.prog FI FB:=
 Con.of_plain (body:=Try.f117.body.getD .skip) pok fiok EntsFor.nil uCmp Try.func117 (by kernel_rfl) 17 [] (by kernel_rfl) [uCmp_L0] ⟨uCmp_h0,trivial⟩ uCmp_c
  uCmp_inv uCmp_mu (fun _ _ _=>trivial) fun kv iv0 bv0 hin hF k l iv bv hk ha hi=>match k,hk,hi with
  | 0,hk,hi=>by
    cases hk
    exact uCmp_o0 kv iv0 bv0 hin hF iv bv ha hi
  | k+1,hk,_=>by simp at hk
def uIns_T1:Tm:=⟨⟨157,53,[(8,(.it .i64 (.v 29))),(0,(.sl (.n 0) (.c 0) (.v 1) (.v 2))),(1,(.it .i64 (.v 5))),(2,(.it .i64 (.v 6))),(3,(.fn 117 [(.it .i64 (.v 4))] []))],[(.code (atC Try.f157 [1,0,0])),(.inLoop (atC Try.f157 [1,0,0])),(.inBlock 0)],[],.none⟩,[],
    ⟨[(0,(.arr [(.nt .i64),(.nt .i64),(.nt .i64),(.nt .i64),(.nt .i64),(.nt .i64)] (.v 30) (.v 1) 158 (.v 3)))],1,0,0,[((.le (.c 0) (.v 5)),.true),((.le (.v 5) (.c 1000)),.true),((.le (.c 0) (.v 6)),.true),((.le (.v 6) (.c 1000)),.true),((.le (.v 5) (.v 6)),.true),((.le (.v 6) (.v 1)),.true),((.le (.v 1) (.v 2)),.true),((.le (.v 1) (.v 3)),.true)],[0],[(5,(0,1000)),(6,(0,1000)),(1,(0,1000)),(3,(0,(-1))),(4,((-9223372036854775808),9223372036854775807)),(29,(0,1001))]⟩,[29,30]⟩
def uIns_T2:Tm:=⟨⟨157,53,[(9,(.it .i64 (.v 31))),(8,(.it .i64 (.v 29))),(0,(.sl (.n 0) (.c 0) (.v 1) (.v 2))),(1,(.it .i64 (.v 5))),(2,(.it .i64 (.v 6))),(3,(.fn 117 [(.it .i64 (.v 4))] []))],[(.code (atC Try.f157 [1,0,0,1,0,0,1,0,0])),(.inLoop (atC Try.f157 [1,0,0,1,0,0,1,0,0])),(.inBlock 2),(.inBlock 1),(.code (atC Try.f157 [1,0,0,1,1])),(.inLoop (atC Try.f157 [1,0,0])),(.inBlock 0)],[],.none⟩,[],
    ⟨[(0,(.arr [(.nt .i64),(.nt .i64),(.nt .i64),(.nt .i64),(.nt .i64),(.nt .i64)] (.v 32) (.v 1) 158 (.v 3)))],1,0,0,[((.lt (.v 29) (.v 6)),.true),((.le (.c 0) (.v 5)),.true),((.le (.v 5) (.c 1000)),.true),((.le (.c 0) (.v 6)),.true),((.le (.v 6) (.c 1000)),.true),((.le (.v 5) (.v 6)),.true),((.le (.v 6) (.v 1)),.true),((.le (.v 1) (.v 2)),.true),((.le (.v 1) (.v 3)),.true)],[0],[(6,(1,1000)),(5,(0,1000)),(1,(0,1000)),(3,(0,(-1))),(4,((-9223372036854775808),9223372036854775807)),(29,(0,1001)),(31,(0,1000))]⟩,[31,32]⟩
def uIns_L0:List Lf:=
 [(let i_:In:=⟨⟨[(30,(.v 0)),(29,(.op .add (.v 5) (.c 1)))],[]⟩,[(0,0)],[],[]⟩;.cut ([((.le (.c 0) (.v 5)),.true),((.le (.v 5) (.c 1000)),.true),((.le (.c 0) (.v 6)),.true),((.le (.v 6) (.c 1000)),.true),((.le (.v 5) (.v 6)),.true),((.le (.v 6) (.v 1)),.true),((.le (.v 1) (.v 2)),.true),((.le (.v 1) (.v 3)),.true)]) 1 i_ [] (shT uIns_T1 i_))]
def uIns_L1:List Lf:=
 let f0_:List (SB×Bool):=[((.le (.c 0) (.v 5)),.true),((.le (.v 5) (.c 1000)),.true),((.le (.c 0) (.v 6)),.true),((.le (.v 6) (.c 1000)),.true),((.le (.v 5) (.v 6)),.true),((.le (.v 6) (.v 1)),.true),((.le (.v 1) (.v 2)),.true),((.le (.v 1) (.v 3)),.true)]
 [(.cut (((.lt (.v 29) (.v 6)),.true)::f0_) 2 ⟨⟨[(32,(.v 30)),(31,(.v 29))],[]⟩,[(0,0)],[],[]⟩ [] (shT uIns_T2 ⟨⟨[(32,(.v 30)),(31,(.v 29))],[]⟩,[(0,0)],[],[]⟩)),
  (.fin (((.lt (.v 29) (.v 6)),.false)::f0_) 0 ⟨⟨[],[]⟩,[(0,0)],[],[]⟩ [(.ar [(.nt .i64),(.nt .i64),(.nt .i64),(.nt .i64),(.nt .i64),(.nt .i64)] (.ap 41 (.v 0) (.v 1) (.v 5) (.v 6) (.v 4) (.c 0)) (.v 30) (.v 1))] [.none])]
def uIns_L2:List Lf:=
 let x0_:SI:=(.op .add (.v 31) (.c (-1)))
 let x1_:SI:=(.ap 3 (.v 32) (.v 31) (.c 3) (.c 0) (.c 0) (.c 0))
 let x2_:SI:=(.ap 3 (.v 32) (.v 31) (.c 5) (.c 0) (.c 0) (.c 0))
 let x3_:SI:=(.ap 3 (.v 32) (.v 31) (.c 4) (.c 0) (.c 0) (.c 0))
 let x4_:SI:=(.ap 3 (.v 32) x0_ (.c 3) (.c 0) (.c 0) (.c 0))
 let x5_:SI:=(.ap 3 (.v 32) x0_ (.c 5) (.c 0) (.c 0) (.c 0))
 let x6_:SI:=(.ap 3 (.v 32) x0_ (.c 4) (.c 0) (.c 0) (.c 0))
 let x7_:SI:=(.ap 40 x1_ x2_ (.op .sub x3_ (.v 4)) x4_ x5_ (.op .sub x6_ (.v 4)))
 let f0_:List (SB×Bool):=[((.lt (.v 29) (.v 6)),.true),((.le (.c 0) (.v 5)),.true),((.le (.v 5) (.c 1000)),.true),((.le (.c 0) (.v 6)),.true),((.le (.v 6) (.c 1000)),.true),((.le (.v 5) (.v 6)),.true),((.le (.v 6) (.v 1)),.true),((.le (.v 1) (.v 2)),.true),((.le (.v 1) (.v 3)),.true)]
 let f1_:List (SB×Bool):=((.lt (.v 5) (.v 31)),.true)::f0_
 let f2_:List (SB×Bool):=((.lt (.v 31) (.v 1)),.true)::f1_
 [(let i_:In:=⟨⟨[(32,(.ap 8 (.ap 8 (.ap 8 (.ap 8 (.ap 8 (.ap 8 (.ap 8 (.ap 8 (.ap 8 (.ap 8 (.ap 8 (.ap 8 (.v 32) (.v 31) (.c 0) (.ap 3 (.v 32) x0_ (.c 0) (.c 0) (.c 0) (.c 0)) (.c 0) (.c 0)) (.v 31) (.c 1) (.ap 3 (.v 32) x0_ (.c 1) (.c 0) (.c 0) (.c 0)) (.c 0) (.c 0)) (.v 31) (.c 2) (.ap 3 (.v 32) x0_ (.c 2) (.c 0) (.c 0) (.c 0)) (.c 0) (.c 0)) (.v 31) (.c 3) x4_ (.c 0) (.c 0)) (.v 31) (.c 4) x6_ (.c 0) (.c 0)) (.v 31) (.c 5) x5_ (.c 0) (.c 0)) x0_ (.c 0) (.ap 3 (.v 32) (.v 31) (.c 0) (.c 0) (.c 0) (.c 0)) (.c 0) (.c 0)) x0_ (.c 1) (.ap 3 (.v 32) (.v 31) (.c 1) (.c 0) (.c 0) (.c 0)) (.c 0) (.c 0)) x0_ (.c 2) (.ap 3 (.v 32) (.v 31) (.c 2) (.c 0) (.c 0) (.c 0)) (.c 0) (.c 0)) x0_ (.c 3) x1_ (.c 0) (.c 0)) x0_ (.c 4) x3_ (.c 0) (.c 0)) x0_ (.c 5) x2_ (.c 0) (.c 0))),(31,(.op .add (.v 31) (.c (-1))))],[]⟩,[(0,0)],[],[]⟩;.cut (((.lt x7_ (.c 0)),.true)::f2_) 2 i_ [] (shT uIns_T2 i_)),
  (let i_:In:=⟨⟨[(30,(.v 32)),(29,(.op .add (.v 29) (.c 1)))],[]⟩,[(0,0)],[],[]⟩;.cut (((.lt x7_ (.c 0)),.false)::f2_) 1 i_ [(.rn (.op .add (.v 29) (.c 1)) 0 1001)] (shT uIns_T1 i_)),
  (.bad (((.lt (.v 31) (.v 1)),.false)::f1_)),
  (let i_:In:=⟨⟨[(30,(.v 32)),(29,(.op .add (.v 29) (.c 1)))],[]⟩,[(0,0)],[],[]⟩;.cut (((.lt (.v 5) (.v 31)),.false)::f0_) 1 i_ [(.rn (.op .add (.v 29) (.c 1)) 0 1001)] (shT uIns_T1 i_))]
def uIns_run (T:Tm):=(ex (ccM Try.prog BF [58,84]) ((fun cc=>[uCmp.ent cc]) (ccM Try.prog BF [58,84])) (dw (ccM Try.prog BF [58,84]) ((fun cc=>[uCmp.ent cc]) (ccM Try.prog BF [58,84])) 1000 4) (stopX []) 4000 T.f T.fs T.H).lfsM 1 (ccM Try.prog BF [58,84]) ((tmM uIns Try.f157 (Try.f157.body.getD .skip))::[uIns_T1,uIns_T2]) uIns.os
theorem uIns_h0:uIns_run (tmM uIns Try.f157 (Try.f157.body.getD .skip))=some uIns_L0:=by kernel_rfl
theorem uIns_h1:uIns_run uIns_T1=some uIns_L1:=by kernel_rfl
theorem uIns_h2:uIns_run uIns_T2=some uIns_L2:=by kernel_rfl
def uIns_inv:(Nat→Int)→(Nat→Bool)→Nat→(Nat→Int)→(Nat→Bool)→Prop:=fun iv0 _ k iv _=>match k with
 | 0=>True
 | 1=>0≤iv0 5∧iv0 5 < iv 29∧(iv 29≤iv0 6∨iv 29=iv0 5+1)∧Sort.insOuter (ltU (iv0 4)) (iv0 5).toNat (iv0 6).toNat (iv 29).toNat (arrOf (iv 30) (iv0 1))=Sort.insertionSort (ltU (iv0 4)) (arrOf (iv0 0) (iv0 1)) (iv0 5).toNat (iv0 6).toNat
 | _=>0≤iv0 5∧iv0 5≤iv 31∧iv 31≤iv 29∧iv 29 < iv0 6∧Sort.insOuter (ltU (iv0 4)) (iv0 5).toNat (iv0 6).toNat ((iv 29).toNat+1) (Sort.insInner (ltU (iv0 4)) (iv0 5).toNat (iv 31).toNat (arrOf (iv 32) (iv0 1)))=Sort.insertionSort (ltU (iv0 4)) (arrOf (iv0 0) (iv0 1)) (iv0 5).toNat (iv0 6).toNat
def uIns_mu:(Nat→Int)→(Nat→Bool)→Nat→(Nat→Int)→(Nat→Bool)→Nat:=fun iv0 _ k iv _=>match k with | 0=>2 ^ 90 | 1=>(iv0 6 - iv 29).toNat * 2 ^ 70+2 ^ 60 | _=>(iv0 6 - iv 29).toNat * 2 ^ 70+(iv 31).toNat
theorem uIns_b {iv0:Nat→Int} (hin:InB uIns.B iv0):(0≤iv0 1∧iv0 1≤1000)∧((-9223372036854775808)≤iv0 4∧iv0 4≤9223372036854775807):=by
 have b1:=hin 1 0 1000 (by simp [uIns,kU,ints,i64s,lmap,i64b,dU,cmpV,mU,bU,fU,leF,ltF,tU])
 simp only [Int.reduceLE,reduceIte,Int.reduceNeg] at b1
 have b4:=hin 4 (-9223372036854775808) 9223372036854775807 (by simp [uIns,kU,ints,i64s,lmap,i64b,dU,cmpV,mU,bU,fU,leF,ltF,tU])
 simp only [Int.reduceLE,reduceIte,Int.reduceNeg] at b4
 exact ⟨b1,b4⟩
def uIns_ob (k:Nat) (l:List Lf):Prop:=∀ (kv:Kv) (iv0:Nat→Int) (bv0:Nat→Bool),InB uIns.B iv0→FT (sta FI FB kv iv0 bv0) (dlt dyn0) uIns.F→∀ (iv:Nat→Int) (bv:Nat→Bool),Agr 7 iv0 bv0 iv bv→uIns_inv iv0 bv0 k iv bv→∀ lf∈l,LfT (sta FI FB kv) uIns.os (uIns_inv iv0 bv0) (uIns_mu iv0 bv0) k iv bv lf
theorem uIns_o0:uIns_ob 0 uIns_L0:=by
 intro kv iv0 bv0 hin hF iv bv ha hi
 unfold uIns_L0
 refine List.forall_mem_cons.2 ⟨?_,List.forall_mem_nil _⟩
 all_goals
  intro δ hf
 all_goals
  obtain ⟨b1,b4⟩:=uIns_b hin
 all_goals
  have a0:=ha.1 0 (by omega)
  have a1:=ha.1 1 (by omega)
  have a2:=ha.1 2 (by omega)
  have a3:=ha.1 3 (by omega)
  have a4:=ha.1 4 (by omega)
  have a5:=ha.1 5 (by omega)
  have a6:=ha.1 6 (by omega)
 all_goals
  simp only [FT,TP,SB.tp,SI.tv,sta,IB.eval,and_true,true_and,ObsT,Ob.Tv,rowT,kix,In.tiv,↓tbvT,In.tbv,get_cons,get_nil,reduceIte,Nat.reduceEqDiff,Int.reduceToNat,Int.reduceAdd,Int.reduceSub,Int.reduceLE,Int.reduceLT,Int.reduceEq,ne_eq,Bool.false_eq_true,not_true_eq_false,not_false_eq_true,true_iff,false_iff,iff_true,iff_false,false_implies,implies_true,decT,decide_true,decide_false,Bool.decide_eq_true,ap2,pb2,FI_3,FI_8,FI_9,FI_3g,FI_8m,Int.toNat_natCast,Int.toNat_zero,FI_40,FI_41,uIns_inv,uIns_mu,uIns,o1,othT,kU,ints,i64s,lmap,i64b,dU,cmpV,mU,bU,fU,leF,ltF,tU,a0,a1,a2,a3,a4,a5,a6] at hf hi ⊢
 all_goals
  (repeat' (with_reducible apply And.intro))<;>first
  | omega
  | assumption
  | (unfold inM;omega)
  | (exact .inr trivial)
  | (rw [show (iv0 5+1).toNat=(iv0 5).toNat+1 by omega];rfl)
theorem uIns_o1:uIns_ob 1 uIns_L1:=by
 intro kv iv0 bv0 hin hF iv bv ha hi
 unfold uIns_L1
 refine List.forall_mem_cons.2 ⟨?_,List.forall_mem_cons.2 ⟨?_,List.forall_mem_nil _⟩⟩
 all_goals
  intro δ hf
 all_goals
  obtain ⟨b1,b4⟩:=uIns_b hin
 all_goals
  have a0:=ha.1 0 (by omega)
  have a1:=ha.1 1 (by omega)
  have a2:=ha.1 2 (by omega)
  have a3:=ha.1 3 (by omega)
  have a4:=ha.1 4 (by omega)
  have a5:=ha.1 5 (by omega)
  have a6:=ha.1 6 (by omega)
 all_goals
  simp only [FT,TP,SB.tp,SI.tv,sta,IB.eval,and_true,true_and,ObsT,Ob.Tv,rowT,kix,In.tiv,↓tbvT,In.tbv,get_cons,get_nil,reduceIte,Nat.reduceEqDiff,Int.reduceToNat,Int.reduceAdd,Int.reduceSub,Int.reduceLE,Int.reduceLT,Int.reduceEq,ne_eq,Bool.false_eq_true,not_true_eq_false,not_false_eq_true,true_iff,false_iff,iff_true,iff_false,false_implies,implies_true,decT,decide_true,decide_false,Bool.decide_eq_true,ap2,pb2,FI_3,FI_8,FI_9,FI_3g,FI_8m,Int.toNat_natCast,Int.toNat_zero,FI_40,FI_41,uIns_inv,uIns_mu,uIns,o1,othT,kU,ints,i64s,lmap,i64b,dU,cmpV,mU,bU,fU,leF,ltF,tU,a0,a1,a2,a3,a4,a5,a6] at hf hi ⊢
 all_goals
  (repeat' (with_reducible apply And.intro))<;>first
  | omega
  | assumption
  | (unfold inM;omega)
  | (rw [← hi.2.2.2,insOuter_go _ _ _ (iv 29).toNat _ (by omega)])
  | (have he:=hi.2.2.2;rw [insOuter_stop _ _ _ _ _ (by omega)] at he;exact rows6 he)
theorem uIns_o2:uIns_ob 2 uIns_L2:=by
 intro kv iv0 bv0 hin hF iv bv ha hi
 unfold uIns_L2
 refine List.forall_mem_cons.2 ⟨?_,List.forall_mem_cons.2 ⟨?_,List.forall_mem_cons.2 ⟨?_,List.forall_mem_cons.2 ⟨?_,List.forall_mem_nil _⟩⟩⟩⟩
 all_goals
  intro δ hf
 all_goals
  obtain ⟨b1,b4⟩:=uIns_b hin
 all_goals
  have a0:=ha.1 0 (by omega)
  have a1:=ha.1 1 (by omega)
  have a2:=ha.1 2 (by omega)
  have a3:=ha.1 3 (by omega)
  have a4:=ha.1 4 (by omega)
  have a5:=ha.1 5 (by omega)
  have a6:=ha.1 6 (by omega)
 all_goals
  simp only [FT,TP,SB.tp,SI.tv,sta,IB.eval,and_true,true_and,ObsT,Ob.Tv,rowT,kix,In.tiv,↓tbvT,In.tbv,get_cons,get_nil,reduceIte,Nat.reduceEqDiff,Int.reduceToNat,Int.reduceAdd,Int.reduceSub,Int.reduceLE,Int.reduceLT,Int.reduceEq,ne_eq,Bool.false_eq_true,not_true_eq_false,not_false_eq_true,true_iff,false_iff,iff_true,iff_false,false_implies,implies_true,decT,decide_true,decide_false,Bool.decide_eq_true,ap2,pb2,FI_3,FI_8,FI_9,FI_3g,FI_8m,Int.toNat_natCast,Int.toNat_zero,FI_40,FI_41,uIns_inv,uIns_mu,uIns,o1,othT,kU,ints,i64s,lmap,i64b,dU,cmpV,mU,bU,fU,leF,ltF,tU,a0,a1,a2,a3,a4,a5,a6] at hf hi ⊢
 all_goals
  (repeat' (with_reducible apply And.intro))<;>first
  | omega
  | assumption
  | (unfold inM;omega)
  | (have he:=hi.2.2.2.2;rw [insInner_go _ _ _ _ (by omega) (by rw [show (iv 31).toNat - 1=(iv 31+-1).toNat by omega,ltU_at (by omega) (by omega)];exact hf.1)] at he;rw [swp12 (by omega) (by omega) (by omega) (by omega),show (iv 31+-1).toNat=(iv 31).toNat - 1 by omega];exact he)
  | (have he:=hi.2.2.2.2;rw [insInner_stop _ _ _ _ (.inr (by rw [show (iv 31).toNat - 1=(iv 31+-1).toNat by omega,ltU_at (by omega) (by omega)];exact hf.1))] at he;rw [show (iv 29+1).toNat=(iv 29).toNat+1 by omega];exact he)
  | (have he:=hi.2.2.2.2;rw [insInner_stop _ _ _ _ (.inl (by omega))] at he;rw [show (iv 29+1).toNat=(iv 29).toNat+1 by omega];exact he)
theorem uIns_c:LsCM 1 ((tmM uIns Try.f157 (Try.f157.body.getD .skip))::[uIns_T1,uIns_T2]) uIns.os [uIns_L0,uIns_L1,uIns_L2]:=by
 unfold uIns_L0 uIns_L1 uIns_L2
 exact ⟨List.forall_mem_cons.2 ⟨⟨⟨⟨_,rfl,rfl⟩,by kernel_rfl⟩,by kernel_rfl⟩,List.forall_mem_nil _⟩,List.forall_mem_cons.2 ⟨⟨⟨⟨_,rfl,rfl⟩,by kernel_rfl⟩,by kernel_rfl⟩,List.forall_mem_cons.2 ⟨⟨⟨⟨_,rfl,rfl⟩,by kernel_rfl⟩,by kernel_rfl⟩,List.forall_mem_nil _⟩⟩,List.forall_mem_cons.2 ⟨⟨⟨⟨_,rfl,rfl⟩,by kernel_rfl⟩,by kernel_rfl⟩,List.forall_mem_cons.2 ⟨⟨⟨⟨_,rfl,rfl⟩,by kernel_rfl⟩,by kernel_rfl⟩,List.forall_mem_cons.2 ⟨⟨trivial,rfl⟩,List.forall_mem_cons.2 ⟨⟨⟨⟨_,rfl,rfl⟩,by kernel_rfl⟩,by kernel_rfl⟩,List.forall_mem_nil _⟩⟩⟩⟩,trivial⟩
theorem uIns_ok:uIns.Ok Try.prog FI FB:=
 Com.of_plain (body:=Try.f157.body.getD .skip) pok fiok (EntsFor.cons uCmp_ok EntsFor.nil) uIns Try.func157 (by kernel_rfl) 7 [uIns_T1,uIns_T2] (by kernel_rfl) [uIns_L0,uIns_L1,uIns_L2] ⟨uIns_h0,uIns_h1,uIns_h2,trivial⟩ uIns_c
  uIns_inv uIns_mu (fun _ _ _=>trivial) fun kv iv0 bv0 hin hF k l iv bv hk ha hi=>match k,hk,hi with
  | 0,hk,hi=>by
    cases hk
    exact uIns_o0 kv iv0 bv0 hin hF iv bv ha hi
  | 1,hk,hi=>by
    cases hk
    exact uIns_o1 kv iv0 bv0 hin hF iv bv ha hi
  | 2,hk,hi=>by
    cases hk
    exact uIns_o2 kv iv0 bv0 hin hF iv bv ha hi
  | k+3,hk,_=>by simp at hk
def uSif_T1:Tm:=⟨⟨168,82,[(10,(.it .i64 (.v 28))),(0,(.sl (.n 0) (.c 0) (.v 1) (.v 2))),(2,(.it .i64 (.v 6))),(3,(.it .i64 (.v 7))),(4,(.fn 117 [(.it .i64 (.v 4))] []))],[(.code (atC Try.f168 [1,0,0])),(.inLoop (atC Try.f168 [1,0,0])),(.inBlock 0)],[],.none⟩,[],
    ⟨[(0,(.arr [(.nt .i64),(.nt .i64),(.nt .i64),(.nt .i64),(.nt .i64),(.nt .i64)] (.v 29) (.v 1) 158 (.v 3)))],1,0,0,[((.le (.c 0) (.v 5)),.true),((.le (.v 5) (.c 1000)),.true),((.le (.c 0) (.v 6)),.true),((.le (.v 6) (.c 1000)),.true),((.le (.c 0) (.v 7)),.true),((.le (.v 7) (.c 1000)),.true),((.le (.v 5) (.v 6)),.true),((.le (.op .add (.v 7) (.v 6)) (.v 1)),.true),((.le (.v 1) (.v 2)),.true),((.le (.v 1) (.v 3)),.true)],[0],[(5,(0,1000)),(6,(0,1000)),(7,(0,1000)),(1,(0,1000)),(3,(0,(-1))),(4,((-9223372036854775808),9223372036854775807)),(28,(0,1000))]⟩,[28,29]⟩
def uSif_L0:List Lf:=
 [(.cut ([((.le (.c 0) (.v 5)),.true),((.le (.v 5) (.c 1000)),.true),((.le (.c 0) (.v 6)),.true),((.le (.v 6) (.c 1000)),.true),((.le (.c 0) (.v 7)),.true),((.le (.v 7) (.c 1000)),.true),((.le (.v 5) (.v 6)),.true),((.le (.op .add (.v 7) (.v 6)) (.v 1)),.true),((.le (.v 1) (.v 2)),.true),((.le (.v 1) (.v 3)),.true)]) 1 ⟨⟨[(29,(.v 0)),(28,(.v 5))],[]⟩,[(0,0)],[],[]⟩ [] (shT uSif_T1 ⟨⟨[(29,(.v 0)),(28,(.v 5))],[]⟩,[(0,0)],[],[]⟩))]
def uSif_L1:List Lf:=
 let x0_:SI:=(.op .mul (.c 2) (.v 28))
 let x1_:SI:=(.op .add (.v 7) (.v 28))
 let p2_:SB×Bool:=((.lt x1_ (.v 1)),.true)
 let p3_:SB×Bool:=((.lt x1_ (.v 1)),.false)
 let x4_:SI:=(.op .add (.op .add (.v 7) x0_) (.c 1))
 let x5_:SI:=(.op .add (.op .add (.v 7) x0_) (.c 2))
 let x6_:SI:=(.ap 3 (.v 29) x1_ (.c 3) (.c 0) (.c 0) (.c 0))
 let x7_:SI:=(.ap 3 (.v 29) x1_ (.c 5) (.c 0) (.c 0) (.c 0))
 let x8_:SI:=(.ap 3 (.v 29) x1_ (.c 4) (.c 0) (.c 0) (.c 0))
 let x9_:SI:=(.ap 3 (.v 29) x1_ (.c 0) (.c 0) (.c 0) (.c 0))
 let x10_:SI:=(.ap 3 (.v 29) x1_ (.c 1) (.c 0) (.c 0) (.c 0))
 let x11_:SI:=(.ap 3 (.v 29) x1_ (.c 2) (.c 0) (.c 0) (.c 0))
 let x12_:SI:=(.ap 3 (.v 29) x4_ (.c 3) (.c 0) (.c 0) (.c 0))
 let x13_:SI:=(.ap 3 (.v 29) x4_ (.c 5) (.c 0) (.c 0) (.c 0))
 let x14_:SI:=(.ap 3 (.v 29) x4_ (.c 4) (.c 0) (.c 0) (.c 0))
 let x15_:SI:=(.ap 3 (.v 29) x5_ (.c 3) (.c 0) (.c 0) (.c 0))
 let x16_:SI:=(.ap 3 (.v 29) x5_ (.c 5) (.c 0) (.c 0) (.c 0))
 let x17_:SI:=(.ap 3 (.v 29) x5_ (.c 4) (.c 0) (.c 0) (.c 0))
 let x18_:SI:=(.ap 40 x6_ x7_ (.op .sub x8_ (.v 4)) x15_ x16_ (.op .sub x17_ (.v 4)))
 let x19_:SI:=(.ap 40 x6_ x7_ (.op .sub x8_ (.v 4)) x12_ x13_ (.op .sub x14_ (.v 4)))
 let x20_:SI:=(.ap 40 x12_ x13_ (.op .sub x14_ (.v 4)) x15_ x16_ (.op .sub x17_ (.v 4)))
 let x21_:SI:=(.ap 8 (.ap 8 (.ap 8 (.ap 8 (.ap 8 (.ap 8 (.ap 8 (.ap 8 (.ap 8 (.ap 8 (.ap 8 (.v 29) x1_ (.c 0) (.ap 3 (.v 29) x4_ (.c 0) (.c 0) (.c 0) (.c 0)) (.c 0) (.c 0)) x1_ (.c 1) (.ap 3 (.v 29) x4_ (.c 1) (.c 0) (.c 0) (.c 0)) (.c 0) (.c 0)) x1_ (.c 2) (.ap 3 (.v 29) x4_ (.c 2) (.c 0) (.c 0) (.c 0)) (.c 0) (.c 0)) x1_ (.c 3) x12_ (.c 0) (.c 0)) x1_ (.c 4) x14_ (.c 0) (.c 0)) x1_ (.c 5) x13_ (.c 0) (.c 0)) x4_ (.c 0) x9_ (.c 0) (.c 0)) x4_ (.c 1) x10_ (.c 0) (.c 0)) x4_ (.c 2) x11_ (.c 0) (.c 0)) x4_ (.c 3) x6_ (.c 0) (.c 0)) x4_ (.c 4) x8_ (.c 0) (.c 0))
 let f0_:List (SB×Bool):=[((.le (.c 0) (.v 5)),.true),((.le (.v 5) (.c 1000)),.true),((.le (.c 0) (.v 6)),.true),((.le (.v 6) (.c 1000)),.true),((.le (.c 0) (.v 7)),.true),((.le (.v 7) (.c 1000)),.true),((.le (.v 5) (.v 6)),.true),((.le (.op .add (.v 7) (.v 6)) (.v 1)),.true),((.le (.v 1) (.v 2)),.true),((.le (.v 1) (.v 3)),.true)]
 let f1_:List (SB×Bool):=((.le (.v 6) (.op .add x0_ (.c 1))),.false)::f0_
 let f2_:List (SB×Bool):=((.lt (.op .add x0_ (.c 2)) (.v 6)),.true)::f1_
 let f3_:List (SB×Bool):=((.lt (.op .add x0_ (.c 2)) (.v 6)),.false)::f1_
 let f4_:List (SB×Bool):=((.lt x20_ (.c 0)),.true)::f2_
 let f5_:List (SB×Bool):=((.lt x20_ (.c 0)),.false)::f2_
 let f6_:List (SB×Bool):=p2_::f3_
 let f7_:List (SB×Bool):=p2_::f4_
 let f8_:List (SB×Bool):=p2_::f5_
 [(.fin (((.le (.v 6) (.op .add x0_ (.c 1))),.true)::f0_) 0 ⟨⟨[],[]⟩,[(0,0)],[],[]⟩ [(.ar [(.nt .i64),(.nt .i64),(.nt .i64),(.nt .i64),(.nt .i64),(.nt .i64)] (.ap 42 (.v 0) (.v 1) (.v 5) (.v 6) (.v 7) (.v 4)) (.v 29) (.v 1))] [.none]),
  (let i_:In:=⟨⟨[(29,(.ap 8 (.ap 8 (.ap 8 (.ap 8 (.ap 8 (.ap 8 (.ap 8 (.ap 8 (.ap 8 (.ap 8 (.ap 8 (.ap 8 (.v 29) x1_ (.c 0) (.ap 3 (.v 29) x5_ (.c 0) (.c 0) (.c 0) (.c 0)) (.c 0) (.c 0)) x1_ (.c 1) (.ap 3 (.v 29) x5_ (.c 1) (.c 0) (.c 0) (.c 0)) (.c 0) (.c 0)) x1_ (.c 2) (.ap 3 (.v 29) x5_ (.c 2) (.c 0) (.c 0) (.c 0)) (.c 0) (.c 0)) x1_ (.c 3) x15_ (.c 0) (.c 0)) x1_ (.c 4) x17_ (.c 0) (.c 0)) x1_ (.c 5) x16_ (.c 0) (.c 0)) x5_ (.c 0) x9_ (.c 0) (.c 0)) x5_ (.c 1) x10_ (.c 0) (.c 0)) x5_ (.c 2) x11_ (.c 0) (.c 0)) x5_ (.c 3) x6_ (.c 0) (.c 0)) x5_ (.c 4) x8_ (.c 0) (.c 0)) x5_ (.c 5) x7_ (.c 0) (.c 0))),(28,(.op .add x0_ (.c 2)))],[]⟩,[(0,0)],[],[]⟩;.cut (((.lt x18_ (.c 0)),.true)::f7_) 1 i_ [(.rn (.op .add x0_ (.c 2)) 0 1000)] (shT uSif_T1 i_)),
  (.fin (((.lt x18_ (.c 0)),.false)::f7_) 0 ⟨⟨[],[]⟩,[(0,0)],[],[]⟩ [(.ar [(.nt .i64),(.nt .i64),(.nt .i64),(.nt .i64),(.nt .i64),(.nt .i64)] (.ap 42 (.v 0) (.v 1) (.v 5) (.v 6) (.v 7) (.v 4)) (.v 29) (.v 1))] [.none]),
  (.bad (p3_::f4_)),
  (let i_:In:=⟨⟨[(29,(.ap 8 x21_ x4_ (.c 5) x7_ (.c 0) (.c 0))),(28,(.op .add x0_ (.c 1)))],[]⟩,[(0,0)],[],[]⟩;.cut (((.lt x19_ (.c 0)),.true)::f8_) 1 i_ [(.rn (.op .add x0_ (.c 1)) 0 1000)] (shT uSif_T1 i_)),
  (.fin (((.lt x19_ (.c 0)),.false)::f8_) 0 ⟨⟨[],[]⟩,[(0,0)],[],[]⟩ [(.ar [(.nt .i64),(.nt .i64),(.nt .i64),(.nt .i64),(.nt .i64),(.nt .i64)] (.ap 42 (.v 0) (.v 1) (.v 5) (.v 6) (.v 7) (.v 4)) (.v 29) (.v 1))] [.none]),
  (.bad (p3_::f5_)),
  (let i_:In:=⟨⟨[(29,(.ap 8 x21_ x4_ (.c 5) x7_ (.c 0) (.c 0))),(28,(.op .add x0_ (.c 1)))],[]⟩,[(0,0)],[],[]⟩;.cut (((.lt x19_ (.c 0)),.true)::f6_) 1 i_ [(.rn (.op .add x0_ (.c 1)) 0 1000)] (shT uSif_T1 i_)),
  (.fin (((.lt x19_ (.c 0)),.false)::f6_) 0 ⟨⟨[],[]⟩,[(0,0)],[],[]⟩ [(.ar [(.nt .i64),(.nt .i64),(.nt .i64),(.nt .i64),(.nt .i64),(.nt .i64)] (.ap 42 (.v 0) (.v 1) (.v 5) (.v 6) (.v 7) (.v 4)) (.v 29) (.v 1))] [.none]),
  (.bad (p3_::f3_))]
def uSif_run (T:Tm):=(ex (ccM Try.prog BF [58,84]) ((fun cc=>[uCmp.ent cc]) (ccM Try.prog BF [58,84])) (dw (ccM Try.prog BF [58,84]) ((fun cc=>[uCmp.ent cc]) (ccM Try.prog BF [58,84])) 1000 4) (stopX []) 4000 T.f T.fs T.H).lfsM 1 (ccM Try.prog BF [58,84]) ((tmM uSif Try.f168 (Try.f168.body.getD .skip))::[uSif_T1]) uSif.os
theorem uSif_h0:uSif_run (tmM uSif Try.f168 (Try.f168.body.getD .skip))=some uSif_L0:=by kernel_rfl
theorem uSif_h1:uSif_run uSif_T1=some uSif_L1:=by kernel_rfl
def uSif_inv:(Nat→Int)→(Nat→Bool)→Nat→(Nat→Int)→(Nat→Bool)→Prop:=fun iv0 _ k iv _=>match k with
 | 0=>True
 | _=>0≤iv0 5∧0≤iv0 7∧0≤iv0 6∧0≤iv 28∧iv 28≤iv0 6∧Sort.siftDown (ltU (iv0 4)) (iv0 6).toNat (iv0 7).toNat (iv 28).toNat (arrOf (iv 29) (iv0 1))=Sort.siftDown (ltU (iv0 4)) (iv0 6).toNat (iv0 7).toNat (iv0 5).toNat (arrOf (iv0 0) (iv0 1))
def uSif_mu:(Nat→Int)→(Nat→Bool)→Nat→(Nat→Int)→(Nat→Bool)→Nat:=fun iv0 _ k iv _=>match k with | 0=>2 ^ 90 | _=>(iv0 6 - iv 28).toNat
theorem uSif_b {iv0:Nat→Int} (hin:InB uSif.B iv0):(0≤iv0 1∧iv0 1≤1000)∧((-9223372036854775808)≤iv0 4∧iv0 4≤9223372036854775807):=by
 have b1:=hin 1 0 1000 (by simp [uSif,kU,ints,i64s,lmap,i64b,dU,cmpV,mU,bU,fU,leF,ltF,tU])
 simp only [Int.reduceLE,reduceIte,Int.reduceNeg] at b1
 have b4:=hin 4 (-9223372036854775808) 9223372036854775807 (by simp [uSif,kU,ints,i64s,lmap,i64b,dU,cmpV,mU,bU,fU,leF,ltF,tU])
 simp only [Int.reduceLE,reduceIte,Int.reduceNeg] at b4
 exact ⟨b1,b4⟩
def uSif_ob (k:Nat) (l:List Lf):Prop:=∀ (kv:Kv) (iv0:Nat→Int) (bv0:Nat→Bool),InB uSif.B iv0→FT (sta FI FB kv iv0 bv0) (dlt dyn0) uSif.F→∀ (iv:Nat→Int) (bv:Nat→Bool),Agr 8 iv0 bv0 iv bv→uSif_inv iv0 bv0 k iv bv→∀ lf∈l,LfT (sta FI FB kv) uSif.os (uSif_inv iv0 bv0) (uSif_mu iv0 bv0) k iv bv lf
theorem uSif_o0:uSif_ob 0 uSif_L0:=by
 intro kv iv0 bv0 hin hF iv bv ha hi
 unfold uSif_L0
 refine List.forall_mem_cons.2 ⟨?_,List.forall_mem_nil _⟩
 all_goals
  intro δ hf
 all_goals
  obtain ⟨b1,b4⟩:=uSif_b hin
 all_goals
  have a0:=ha.1 0 (by omega)
  have a1:=ha.1 1 (by omega)
  have a2:=ha.1 2 (by omega)
  have a3:=ha.1 3 (by omega)
  have a4:=ha.1 4 (by omega)
  have a5:=ha.1 5 (by omega)
  have a6:=ha.1 6 (by omega)
  have a7:=ha.1 7 (by omega)
 all_goals
  simp only [FT,TP,SB.tp,SI.tv,sta,IB.eval,and_true,true_and,ObsT,Ob.Tv,rowT,kix,In.tiv,↓tbvT,In.tbv,get_cons,get_nil,reduceIte,Nat.reduceEqDiff,Int.reduceToNat,Int.reduceAdd,Int.reduceSub,Int.reduceLE,Int.reduceLT,Int.reduceEq,ne_eq,Bool.false_eq_true,not_true_eq_false,not_false_eq_true,true_iff,false_iff,iff_true,iff_false,false_implies,implies_true,decT,decide_true,decide_false,Bool.decide_eq_true,ap2,pb2,FI_3,FI_8,FI_9,FI_3g,FI_8m,Int.toNat_natCast,Int.toNat_zero,FI_40,FI_42,uSif_inv,uSif_mu,uSif,o1,othT,kU,ints,i64s,lmap,i64b,dU,cmpV,mU,bU,fU,leF,ltF,tU,a0,a1,a2,a3,a4,a5,a6,a7] at hf hi ⊢
 all_goals
  (repeat' (with_reducible apply And.intro))<;>first
  | omega
  | assumption
  | (unfold inM;omega)
theorem uSif_o1:uSif_ob 1 uSif_L1:=by
 intro kv iv0 bv0 hin hF iv bv ha hi
 unfold uSif_L1
 refine List.forall_mem_cons.2 ⟨?_,List.forall_mem_cons.2 ⟨?_,List.forall_mem_cons.2 ⟨?_,List.forall_mem_cons.2 ⟨?_,List.forall_mem_cons.2 ⟨?_,List.forall_mem_cons.2 ⟨?_,List.forall_mem_cons.2 ⟨?_,List.forall_mem_cons.2 ⟨?_,List.forall_mem_cons.2 ⟨?_,List.forall_mem_cons.2 ⟨?_,List.forall_mem_nil _⟩⟩⟩⟩⟩⟩⟩⟩⟩⟩
 all_goals
  intro δ hf
 all_goals
  obtain ⟨b1,b4⟩:=uSif_b hin
 all_goals
  have a0:=ha.1 0 (by omega)
  have a1:=ha.1 1 (by omega)
  have a2:=ha.1 2 (by omega)
  have a3:=ha.1 3 (by omega)
  have a4:=ha.1 4 (by omega)
  have a5:=ha.1 5 (by omega)
  have a6:=ha.1 6 (by omega)
  have a7:=ha.1 7 (by omega)
 all_goals
  simp only [FT,TP,SB.tp,SI.tv,sta,IB.eval,and_true,true_and,ObsT,Ob.Tv,rowT,kix,In.tiv,↓tbvT,In.tbv,get_cons,get_nil,reduceIte,Nat.reduceEqDiff,Int.reduceToNat,Int.reduceAdd,Int.reduceSub,Int.reduceLE,Int.reduceLT,Int.reduceEq,ne_eq,Bool.false_eq_true,not_true_eq_false,not_false_eq_true,true_iff,false_iff,iff_true,iff_false,false_implies,implies_true,decT,decide_true,decide_false,Bool.decide_eq_true,ap2,pb2,FI_3,FI_8,FI_9,FI_3g,FI_8m,Int.toNat_natCast,Int.toNat_zero,FI_40,FI_42,uSif_inv,uSif_mu,uSif,o1,othT,kU,ints,i64s,lmap,i64b,dU,cmpV,mU,bU,fU,leF,ltF,tU,a0,a1,a2,a3,a4,a5,a6,a7] at hf hi ⊢
 all_goals
  have he:=hi.2.2.2.2.2
  have b1:=hi.2.1
  have b2:=hi.2.2.2.1
  have b3:iv0 7+iv0 6≤iv0 1:=by omega
 all_goals
  (repeat' (with_reducible apply And.intro))<;>first
  | omega
  | assumption
  | (unfold inM;omega)
  | (rw [sif_end b1 b2 b3 (by omega)] at he;exact rows6 he)
  | (rw [sif_R b1 b2 b3 (by omega) (by first | exact hf.1 | exact hf.2.1 | exact hf.2.2.1 | exact hf.2.2.2.1 | exact hf.2.2.2.2.1 | exact hf.2.2.2.2.2.1 | exact hf.2.2.2.2.2.2.1 | exact hf.2.2.2.2.2.2.2.1 | exact hf.2.2.2.2.2.2.2.2.1) (by first | exact hf.1 | exact hf.2.1 | exact hf.2.2.1 | exact hf.2.2.2.1 | exact hf.2.2.2.2.1 | exact hf.2.2.2.2.2.1 | exact hf.2.2.2.2.2.2.1 | exact hf.2.2.2.2.2.2.2.1 | exact hf.2.2.2.2.2.2.2.2.1),← swp12 (by omega) (by omega) (by omega) (by omega)] at he;exact he)
  | (rw [sif_L b1 b2 b3 (by omega) (fun h=>by first | omega | exact (by first | exact hf.1 | exact hf.2.1 | exact hf.2.2.1 | exact hf.2.2.2.1 | exact hf.2.2.2.2.1 | exact hf.2.2.2.2.2.1 | exact hf.2.2.2.2.2.2.1 | exact hf.2.2.2.2.2.2.2.1 | exact hf.2.2.2.2.2.2.2.2.1)) (by first | exact hf.1 | exact hf.2.1 | exact hf.2.2.1 | exact hf.2.2.2.1 | exact hf.2.2.2.2.1 | exact hf.2.2.2.2.2.1 | exact hf.2.2.2.2.2.2.1 | exact hf.2.2.2.2.2.2.2.1 | exact hf.2.2.2.2.2.2.2.2.1),← swp12 (by omega) (by omega) (by omega) (by omega)] at he;exact he)
  | (rw [sif_Rend b1 b2 b3 (by omega) (by first | exact hf.1 | exact hf.2.1 | exact hf.2.2.1 | exact hf.2.2.2.1 | exact hf.2.2.2.2.1 | exact hf.2.2.2.2.2.1 | exact hf.2.2.2.2.2.2.1 | exact hf.2.2.2.2.2.2.2.1 | exact hf.2.2.2.2.2.2.2.2.1) (by first | exact hf.1 | exact hf.2.1 | exact hf.2.2.1 | exact hf.2.2.2.1 | exact hf.2.2.2.2.1 | exact hf.2.2.2.2.2.1 | exact hf.2.2.2.2.2.2.1 | exact hf.2.2.2.2.2.2.2.1 | exact hf.2.2.2.2.2.2.2.2.1)] at he;exact rows6 he)
  | (rw [sif_Lend b1 b2 b3 (by omega) (fun h=>by first | omega | exact (by first | exact hf.1 | exact hf.2.1 | exact hf.2.2.1 | exact hf.2.2.2.1 | exact hf.2.2.2.2.1 | exact hf.2.2.2.2.2.1 | exact hf.2.2.2.2.2.2.1 | exact hf.2.2.2.2.2.2.2.1 | exact hf.2.2.2.2.2.2.2.2.1)) (by first | exact hf.1 | exact hf.2.1 | exact hf.2.2.1 | exact hf.2.2.2.1 | exact hf.2.2.2.2.1 | exact hf.2.2.2.2.2.1 | exact hf.2.2.2.2.2.2.1 | exact hf.2.2.2.2.2.2.2.1 | exact hf.2.2.2.2.2.2.2.2.1)] at he;exact rows6 he)
theorem uSif_c:LsCM 1 ((tmM uSif Try.f168 (Try.f168.body.getD .skip))::[uSif_T1]) uSif.os [uSif_L0,uSif_L1]:=by
 unfold uSif_L0 uSif_L1
 exact ⟨List.forall_mem_cons.2 ⟨⟨⟨⟨_,rfl,rfl⟩,by kernel_rfl⟩,by kernel_rfl⟩,List.forall_mem_nil _⟩,List.forall_mem_cons.2 ⟨⟨⟨⟨_,rfl,rfl⟩,by kernel_rfl⟩,by kernel_rfl⟩,List.forall_mem_cons.2 ⟨⟨⟨⟨_,rfl,rfl⟩,by kernel_rfl⟩,by kernel_rfl⟩,List.forall_mem_cons.2 ⟨⟨⟨⟨_,rfl,rfl⟩,by kernel_rfl⟩,by kernel_rfl⟩,List.forall_mem_cons.2 ⟨⟨trivial,rfl⟩,List.forall_mem_cons.2 ⟨⟨⟨⟨_,rfl,rfl⟩,by kernel_rfl⟩,by kernel_rfl⟩,List.forall_mem_cons.2 ⟨⟨⟨⟨_,rfl,rfl⟩,by kernel_rfl⟩,by kernel_rfl⟩,List.forall_mem_cons.2 ⟨⟨trivial,rfl⟩,List.forall_mem_cons.2 ⟨⟨⟨⟨_,rfl,rfl⟩,by kernel_rfl⟩,by kernel_rfl⟩,List.forall_mem_cons.2 ⟨⟨⟨⟨_,rfl,rfl⟩,by kernel_rfl⟩,by kernel_rfl⟩,List.forall_mem_cons.2 ⟨⟨trivial,rfl⟩,List.forall_mem_nil _⟩⟩⟩⟩⟩⟩⟩⟩⟩⟩,trivial⟩
theorem uSif_ok:uSif.Ok Try.prog FI FB:=
 Com.of_plain (body:=Try.f168.body.getD .skip) pok fiok (EntsFor.cons uCmp_ok EntsFor.nil) uSif Try.func168 (by kernel_rfl) 8 [uSif_T1] (by kernel_rfl) [uSif_L0,uSif_L1] ⟨uSif_h0,uSif_h1,trivial⟩ uSif_c
  uSif_inv uSif_mu (fun _ _ _=>trivial) fun kv iv0 bv0 hin hF k l iv bv hk ha hi=>match k,hk,hi with
  | 0,hk,hi=>by
    cases hk
    exact uSif_o0 kv iv0 bv0 hin hF iv bv ha hi
  | 1,hk,hi=>by
    cases hk
    exact uSif_o1 kv iv0 bv0 hin hF iv bv ha hi
  | k+2,hk,_=>by simp at hk
end
end Go.Sx.Mhw
