/- Timers: TimerHolds, by contract. -/
import Derived.Test.YtkhklaomjcgjcaaTiW
namespace Go.Sx.Ti
set_option linter.unusedVariables false
set_option linter.unusedSimpArgs false
set_option maxRecDepth 100000
set_option maxHeartbeats 0
noncomputable section
open Go Go.Sx Go.Proofs
def lHolds:Con:=⟨4,[0,1,2,3],[lA],gA,bA,fT,o1 (.bo (.c true))⟩
def lHolds0:Con:=⟨4,[],[.sn],[],[],[],o1 (.bo (.c true))⟩
theorem if_nI {c:Prop} {i:Decidable c} {a b:Int} (h:¬ c):@ite Int c i a b=b:=if_neg h
def arX (c A j:Int):Prop:=kinC c∧∀ x,(hasC c x=true→0≤mg c x∧mg c x≤1099511627776)∧((hasC c x=true∧∀ i:Nat,(i:Int) < j→kL c i≠x)→mg A x=mg c x+1)∧(¬ (hasC c x=true∧∀ i:Nat,(i:Int) < j→kL c i≠x)→mg A x=0)
theorem arX_zero:arX 0 0 0:=⟨kinC_zero,fun x=>⟨fun h=>(by rw [hasC_zero] at h;cases h),fun h=>(by have:=h.1;rw [hasC_zero] at this;cases this),fun _=>mg_zero x⟩⟩
theorem arX_all {c A x:Int} (h:arX c A 0):(hasC c x=true→mg A x=mg c x+1∧0≤mg c x)∧(¬ hasC c x=true→mg A x=0):=by
 obtain ⟨h1,h2⟩:=h
 obtain ⟨a,b,d⟩:=h2 x
 exact ⟨fun hx=>⟨b ⟨hx,fun i hi=>by omega⟩,(a hx).1⟩,fun hx=>d fun hh=>hx hh.1⟩
theorem arX_of {c A:Int} (hk:kinC c) (h:∀ x,(hasC c x=true→mg A x=mg c x+1∧0≤mg c x∧mg c x≤1099511627776)∧(¬ hasC c x=true→mg A x=0)):arX c A 0:=
 ⟨hk,fun x=>⟨fun hx=>((h x).1 hx).2,fun hx=>((h x).1 hx.1).1,fun hx=>(h x).2 fun hh=>hx ⟨hh,fun i hi=>by omega⟩⟩⟩
theorem arX_set {c A k a:Int} (h:arX c A 0) (hc:¬ hasC c k=true) (hk:in64 k) (h0:0≤a) (h1:a≤1099511627776):arX (setM c k a) (setM A k (IntKind.i64.wrap (a+1))) 0:=by
 have hw:IntKind.i64.wrap (a+1)=a+1:=w64_eq ⟨by omega,by omega⟩
 rw [hw]
 refine arX_of (kinC_set h.1 hk) fun x=>?_
 rw [mg_set x (show in64 a from ⟨by omega,by omega⟩),mg_set x (show in64 (a+1) from ⟨by omega,by omega⟩),hasC_setM]
 by_cases e:x=k
 ·simp only [if_pos e];exact ⟨fun _=>⟨trivial,h0,h1⟩,fun hh=>(hh trivial).elim⟩
 ·simp only [if_neg e]
  have h2:=arX_all (x:=x) h
  exact ⟨fun hh=>⟨(h2.1 hh).1,(h.2 x).1 hh⟩,h2.2⟩
theorem arX_del {c A k:Int} (h:arX c A 0):arX (delM c k) (setM A k 0) 0:=by
 refine arX_of (kinC_del h.1) fun x=>?_
 rw [mg_set x (show in64 0 from ⟨by omega,by omega⟩),mg_del,hasC_delM]
 by_cases e:x=k
 ·simp only [if_pos e];exact ⟨fun hh=>(by cases hh),fun _=>trivial⟩
 ·simp only [if_neg e]
  have h2:=arX_all (x:=x) h
  exact ⟨fun hh=>⟨(h2.1 hh).1,(h.2 x).1 hh⟩,h2.2⟩
theorem arX_at {c A j:Int} (h:arX c A j) (h0:0≤j) (hj:j < lenC c):mg A (kL c j.toNat)=mg c (kL c j.toNat)+1∧0≤mg c (kL c j.toNat):=by
 have hx:hasC c (kL c j.toNat)=true:=kL_has (by omega)
 exact ⟨(h.2 _).2.1 ⟨hx,fun i hi e=>by have:=kL_inj (by omega) (by omega) e;omega⟩,((h.2 _).1 hx).1⟩
theorem arX_suc {c A j:Int} (h:arX c A j) (h0:0≤j) (hj:j < lenC c):arX c (setM A (kL c j.toNat) 0) (j+1):=by
 refine ⟨h.1,fun x=>⟨(h.2 x).1,?_⟩⟩
 rw [mg_set x (show in64 0 from ⟨by omega,by omega⟩)]
 by_cases e:x=kL c j.toNat
 ·rw [if_pos e]
  exact ⟨fun hh=>absurd e.symm (hh.2 j.toNat (by omega)),fun _=>rfl⟩
 ·rw [if_neg e]
  refine ⟨fun hh=>(h.2 x).2.1 ⟨hh.1,fun i hi=>hh.2 i (by omega)⟩,fun hh=>(h.2 x).2.2 fun h3=>hh ⟨h3.1,fun i hi e2=>?_⟩⟩
  by_cases hij:(i:Int) < j
  ·exact h3.2 i hij e2
  ·exact e (by rw [← e2];congr 1;omega)
theorem arX_end {c A m:Int} (h:arX c A m) (h0:0≤m) (hm:m≤lenC c):arX (rmC c m) A 0:=by
 obtain ⟨r1,r2⟩:=rm_spec (c:=c) m.toNat (by omega)
 unfold rmC
 refine arX_of (fun x hx=>h.1 x ((r1 x).1 hx).1) fun x=>?_
 rw [r1]
 refine ⟨fun hh=>?_,fun hh=>(h.2 x).2.2 fun h3=>hh ⟨h3.1,fun j hj=>h3.2 j (by omega)⟩⟩
 rw [r2 x hh.2]
 exact ⟨(h.2 x).2.1 ⟨hh.1,fun i hi=>hh.2 i (by omega)⟩,(h.2 x).1 hh.1⟩
theorem rel_TS {c:Int} (hk:kinC c):relO c (TS c) 0 (lenC c):=relO_0.2 ⟨hk,rfl,fun j hj=>by
 unfold TS
 rw [fl_arr (by omega) (by omega) (by rw [if_pos rfl];exact hk _ (kL_has hj)),fl_arr (by omega) (by omega) (by rw [if_neg (by omega)];exact mg_has _ _)]
 simp⟩
theorem len_rm {c m:Int} (hk:kinC c) (h0:0≤m) (hm:m≤lenC c):lenC (rmC c m)=lenC c - m:=(relO_tick (o':=0+m) (rel_TS hk) (by omega) h0 hm (fun _=>rfl)).2.1.symm
theorem due_after {c now:Int} (hl:lenC c≤4096):∀ x,hasC (rmC c (dueC c now)) x=true→now < mg (rmC c (dueC c now)) x:=fun x hx=>by
 obtain ⟨d1,d2,d3,d4⟩:=dueC_spec (c:=c) (now:=now) hl
 obtain ⟨r1,r2⟩:=rm_spec (c:=c) (dueC c now).toNat (by omega)
 unfold rmC at hx ⊢
 have h1:=(r1 x).1 hx
 rw [r2 x h1.2]
 obtain ⟨i,hi,e⟩:=kL_of h1.1
 have hge:¬ i < (dueC c now).toNat:=fun hh=>h1.2 i hh e
 have hd:=d4 (by omega)
 by_cases hi2:i=(dueC c now).toNat
 ·subst hi2;rw [← e];omega
 ·have:=kL_lt (c:=c) (i:=(dueC c now).toNat) (j:=i) (by omega) hi
  rw [e] at this
  unfold ltK at this;omega
def lHolds_T1:Tm:=⟨⟨4,134,[(5,(.it .i64 (.v 24))),(4,(.mp (.n 2))),(3,(.pt (.n 1) (.c 0))),(0,(.sl (.k 0) (.v 2) (.v 1) (.v 3)))],[(.code (atC Try.f4 [1,1,1,1,0,1,0,0])),(.inLoop (atC Try.f4 [1,1,1,1,0,1,0,0])),(.inBlock 0),(.code (atC Try.f4 [1,1,1,1,1]))],[],.none⟩,[],
    ⟨[(0,(.mapc .i64 .i64 (.v 25))),(1,(.cells [(.it .i64 (.v 26)),(.mp (.n 0))] 52)),(2,(.mapc .i64 .i64 (.v 27)))],3,0,0,[((.le (.v 1) (.v 3)),.true),((.le (.c 0) (.v 3)),.true),((.le (.v 24) (.v 1)),.true)],[1,0],[(26,(0,1099511627776)),(24,(0,60)),(1,(0,60)),(2,(0,(-1)))]⟩,[24,25,26,27]⟩
def lHolds_T2:Tm:=⟨⟨4,134,[(10,(.it .i64 (.v 30))),(8,(.sl (.n 4) (.c 0) (.ap 22 (.v 25) (.op .imin (.op .add (.v 26) (.c 1)) (.c 1099511627776)) (.c 0) (.c 0) (.c 0) (.c 0)) (.v 28))),(7,(.it .i64 (.v 26))),(5,(.it .i64 (.v 24))),(4,(.mp (.n 2))),(3,(.pt (.n 1) (.c 0))),(0,(.sl (.k 0) (.v 2) (.v 1) (.v 3)))],[(.code (atC Try.f4 [1,1,1,1,0,1,0,0,1,0,0,1,1,0,1,0,1,1,1,1,1,0,1,1,0,1,0,0])),(.inLoop (atC Try.f4 [1,1,1,1,0,1,0,0,1,0,0,1,1,0,1,0,1,1,1,1,1,0,1,1,0,1,0,0])),(.inBlock 3),(.code (atC Try.f4 [1,1,1,1,0,1,0,0,1,0,0,1,1,0,1,0,1,1,1,1,1,0,1,1,1])),(.inBlock 2),(.code (atC Try.f4 [1,1,1,1,0,1,0,0,1,0,0,1,1,1])),(.inBlock 1),(.code (atC Try.f4 [1,1,1,1,0,1,0,0,1,1])),(.inLoop (atC Try.f4 [1,1,1,1,0,1,0,0])),(.inBlock 0),(.code (atC Try.f4 [1,1,1,1,1]))],[],.none⟩,[],
    ⟨[(0,(.mapc .i64 .i64 (.ap 23 (.v 25) (.ap 22 (.v 25) (.op .imin (.op .add (.v 26) (.c 1)) (.c 1099511627776)) (.c 0) (.c 0) (.c 0) (.c 0)) (.c 0) (.c 0) (.c 0) (.c 0)))),(1,(.cells [(.it .i64 (.op .imin (.op .add (.v 26) (.c 1)) (.c 1099511627776))),(.mp (.n 0))] 52)),(2,(.mapc .i64 .i64 (.v 31))),(4,(.arr [(.nt .i64)] (.ap 20 (.v 25) (.c 0) (.c 0) (.c 0) (.c 0) (.c 0)) (.ap 22 (.v 25) (.op .imin (.op .add (.v 26) (.c 1)) (.c 1099511627776)) (.c 0) (.c 0) (.c 0) (.c 0)) 3 (.v 28)))],5,0,0,[((.eq (.op .imin (.op .add (.v 26) (.c 1)) (.c 1099511627776)) (.op .add (.v 26) (.c 1))),.true),((.le (.ap 22 (.v 25) (.op .imin (.op .add (.v 26) (.c 1)) (.c 1099511627776)) (.c 0) (.c 0) (.c 0) (.c 0)) (.ap 8 (.v 25) (.c 0) (.c 0) (.c 0) (.c 2) (.c 0))),.true),((.lt (.c 0) (.ap 22 (.v 25) (.op .imin (.op .add (.v 26) (.c 1)) (.c 1099511627776)) (.c 0) (.c 0) (.c 0) (.c 0))),.true),((.le (.ap 8 (.v 25) (.c 0) (.c 0) (.c 0) (.c 2) (.c 0)) (.c 4096)),.true),((.ap 20 (.v 25) (.c 0) (.c 0) (.c 0) (.c 0) (.c 0)),.true),((.eq (.ap 3 (.v 0) (.v 24) (.c 0) (.c 0) (.c 0) (.c 0)) (.c 2)),.true),((.eq (.ap 3 (.v 0) (.v 24) (.c 0) (.c 0) (.c 0) (.c 0)) (.c 1)),.false),((.eq (.ap 3 (.v 0) (.v 24) (.c 0) (.c 0) (.c 0) (.c 0)) (.c 0)),.false),((.lt (.v 24) (.v 1)),.true),((.le (.v 1) (.v 3)),.true),((.le (.c 0) (.v 3)),.true),((.le (.v 24) (.v 1)),.true)],[1,0],[(30,(0,4096)),(1,(1,60)),(24,(0,59)),(26,(0,1099511627776)),(2,(0,(-1)))]⟩,[30,31,28]⟩
def lHolds_T3:Tm:=⟨⟨4,134,[(10,(.it .i64 (.c 0))),(8,.sn),(7,(.it .i64 (.v 26))),(5,(.it .i64 (.v 24))),(4,(.mp (.n 2))),(3,(.pt (.n 1) (.c 0))),(0,(.sl (.k 0) (.v 2) (.v 1) (.v 3)))],[(.code (atC Try.f4 [1,1,1,1,0,1,0,0,1,0,0,1,1,0,1,0,1,1,1,1,1,0,1,1,0,1,0,0])),(.inLoop (atC Try.f4 [1,1,1,1,0,1,0,0,1,0,0,1,1,0,1,0,1,1,1,1,1,0,1,1,0,1,0,0])),(.inBlock 3),(.code (atC Try.f4 [1,1,1,1,0,1,0,0,1,0,0,1,1,0,1,0,1,1,1,1,1,0,1,1,1])),(.inBlock 2),(.code (atC Try.f4 [1,1,1,1,0,1,0,0,1,0,0,1,1,1])),(.inBlock 1),(.code (atC Try.f4 [1,1,1,1,0,1,0,0,1,1])),(.inLoop (atC Try.f4 [1,1,1,1,0,1,0,0])),(.inBlock 0),(.code (atC Try.f4 [1,1,1,1,1]))],[],.none⟩,[],
    ⟨[(0,(.mapc .i64 .i64 (.v 25))),(1,(.cells [(.it .i64 (.op .imin (.op .add (.v 26) (.c 1)) (.c 1099511627776))),(.mp (.n 0))] 52)),(2,(.mapc .i64 .i64 (.v 27)))],3,0,0,[((.eq (.op .imin (.op .add (.v 26) (.c 1)) (.c 1099511627776)) (.op .add (.v 26) (.c 1))),.true),((.lt (.c 0) (.ap 22 (.v 25) (.op .imin (.op .add (.v 26) (.c 1)) (.c 1099511627776)) (.c 0) (.c 0) (.c 0) (.c 0))),.false),((.le (.ap 8 (.v 25) (.c 0) (.c 0) (.c 0) (.c 2) (.c 0)) (.c 4096)),.true),((.ap 20 (.v 25) (.c 0) (.c 0) (.c 0) (.c 0) (.c 0)),.true),((.eq (.ap 3 (.v 0) (.v 24) (.c 0) (.c 0) (.c 0) (.c 0)) (.c 2)),.true),((.eq (.ap 3 (.v 0) (.v 24) (.c 0) (.c 0) (.c 0) (.c 0)) (.c 1)),.false),((.eq (.ap 3 (.v 0) (.v 24) (.c 0) (.c 0) (.c 0) (.c 0)) (.c 0)),.false),((.lt (.v 24) (.v 1)),.true),((.le (.v 1) (.v 3)),.true),((.le (.c 0) (.v 3)),.true),((.le (.v 24) (.v 1)),.true)],[1,0],[(1,(1,60)),(24,(0,59)),(26,(0,1099511627776)),(24,(0,60)),(1,(0,60)),(2,(0,(-1)))]⟩,[]⟩
def lHolds_T4:Tm:=⟨⟨4,134,[(11,(.it .i64 (.v 38))),(7,(.it .i64 (.v 26))),(5,(.it .i64 (.v 24))),(4,(.mp (.n 2))),(3,(.pt (.n 1) (.c 0))),(0,(.sl (.k 0) (.v 2) (.v 1) (.v 3)))],[(.code (atC Try.f4 [1,1,1,1,0,1,0,0,1,0,0,1,1,0,1,0,1,1,1,1,1,0,1,1,1,1,0,0])),(.inLoop (atC Try.f4 [1,1,1,1,0,1,0,0,1,0,0,1,1,0,1,0,1,1,1,1,1,0,1,1,1,1,0,0])),(.inBlock 5),(.inBlock 2),(.code (atC Try.f4 [1,1,1,1,0,1,0,0,1,0,0,1,1,1])),(.inBlock 1),(.code (atC Try.f4 [1,1,1,1,0,1,0,0,1,1])),(.inLoop (atC Try.f4 [1,1,1,1,0,1,0,0])),(.inBlock 0),(.code (atC Try.f4 [1,1,1,1,1]))],[],.none⟩,[],
    ⟨[(0,(.mapc .i64 .i64 (.v 35))),(1,(.cells [(.it .i64 (.op .imin (.op .add (.v 26) (.c 1)) (.c 1099511627776))),(.mp (.n 0))] 52)),(2,(.mapc .i64 .i64 (.v 34)))],3,0,0,[((.eq (.op .imin (.op .add (.v 26) (.c 1)) (.c 1099511627776)) (.op .add (.v 26) (.c 1))),.true),((.le (.ap 8 (.v 25) (.c 0) (.c 0) (.c 0) (.c 2) (.c 0)) (.c 4096)),.true),((.ap 20 (.v 25) (.c 0) (.c 0) (.c 0) (.c 0) (.c 0)),.true),((.eq (.ap 3 (.v 0) (.v 24) (.c 0) (.c 0) (.c 0) (.c 0)) (.c 2)),.true),((.eq (.ap 3 (.v 0) (.v 24) (.c 0) (.c 0) (.c 0) (.c 0)) (.c 1)),.false),((.eq (.ap 3 (.v 0) (.v 24) (.c 0) (.c 0) (.c 0) (.c 0)) (.c 0)),.false),((.lt (.v 24) (.v 1)),.true),((.le (.v 1) (.v 3)),.true),((.le (.c 0) (.v 3)),.true),((.le (.v 24) (.v 1)),.true)],[1,0],[(1,(1,60)),(24,(0,59)),(26,(0,1099511627776)),(2,(0,(-1))),(38,(0,(-1)))]⟩,[38,34,35]⟩
def lHolds_L0:List Lf:=
 let f0_:List (SB×Bool):=[((.le (.v 1) (.v 3)),.true),((.le (.c 0) (.v 3)),.true)]
 [(.fin (((.lt (.c 60) (.v 1)),.true)::f0_) 0 ⟨⟨[],[]⟩,[],[],[]⟩ [] []),
  (let i_:In:=⟨⟨[(25,(.c 0)),(27,(.c 0)),(26,(.c 0)),(24,(.c 0))],[]⟩,[(0,0),(1,1),(2,2)],[],[]⟩;.cut (((.lt (.c 60) (.v 1)),.false)::f0_) 1 i_ [] (shT lHolds_T1 i_))]
def lHolds_L1:List Lf:=
 let x0_:SI:=(.ap 3 (.v 0) (.v 24) (.c 0) (.c 0) (.c 0) (.c 0))
 let x1_:SI:=(.ap 3 (.v 0) (.v 24) (.c 1) (.c 0) (.c 0) (.c 0))
 let x2_:SI:=(.ap 3 (.v 0) (.v 24) (.c 2) (.c 0) (.c 0) (.c 0))
 let x3_:SI:=(.ap 8 (.v 25) (.c 0) (.c 0) (.c 0) (.c 2) (.c 0))
 let x4_:SI:=(.op .imin (.op .add (.v 26) (.c 1)) (.c 1099511627776))
 let p5_:SB×Bool:=((.eq x4_ (.op .add (.v 26) (.c 1))),.true)
 let p6_:SB×Bool:=((.eq x4_ (.op .add (.v 26) (.c 1))),.false)
 let x7_:SI:=(.ap 22 (.v 25) x4_ (.c 0) (.c 0) (.c 0) (.c 0))
 let p8_:SB×Bool:=((.ap 1 (.v 25) x1_ (.c 0) (.c 0) (.c 0) (.c 0)),.true)
 let p9_:SB×Bool:=((.ap 1 (.v 25) x1_ (.c 0) (.c 0) (.c 0) (.c 0)),.false)
 let f0_:List (SB×Bool):=[((.le (.v 1) (.v 3)),.true),((.le (.c 0) (.v 3)),.true),((.le (.v 24) (.v 1)),.true)]
 let f1_:List (SB×Bool):=((.lt (.v 24) (.v 1)),.true)::f0_
 let f2_:List (SB×Bool):=((.eq x0_ (.c 0)),.true)::f1_
 let f3_:List (SB×Bool):=((.eq x0_ (.c 0)),.false)::f1_
 let f4_:List (SB×Bool):=((.lt x1_ (.c 0)),.false)::f2_
 let f5_:List (SB×Bool):=((.eq x0_ (.c 1)),.true)::f3_
 let f6_:List (SB×Bool):=((.eq x0_ (.c 1)),.false)::f3_
 let f7_:List (SB×Bool):=((.le (.c 0) x2_),.true)::f4_
 let f8_:List (SB×Bool):=((.lt x1_ (.c 0)),.false)::f5_
 let f9_:List (SB×Bool):=((.eq x0_ (.c 2)),.true)::f6_
 let f10_:List (SB×Bool):=((.le x2_ (.c 1099511627776)),.true)::f7_
 let f11_:List (SB×Bool):=((.ap 20 (.v 25) (.c 0) (.c 0) (.c 0) (.c 0) (.c 0)),.true)::f9_
 let f12_:List (SB×Bool):=p9_::f10_
 let f13_:List (SB×Bool):=((.le x3_ (.c 4096)),.true)::f11_
 let f14_:List (SB×Bool):=((.lt (.c 0) x7_),.false)::f13_
 let f15_:List (SB×Bool):=((.le x7_ (.d 0)),.true)::((.le x7_ x3_),.true)::((.lt (.c 0) x7_),.true)::f13_
 [(let i_:In:=⟨⟨[(25,(.v 25)),(27,(.v 27)),(26,(.v 26)),(24,(.op .add (.v 24) (.c 1)))],[]⟩,[(0,0),(1,1),(2,2)],[],[]⟩;.cut (((.lt x1_ (.c 0)),.true)::f2_) 1 i_ [] (shT lHolds_T1 i_)),
  (let i_:In:=⟨⟨[(25,(.v 25)),(27,(.v 27)),(26,(.v 26)),(24,(.op .add (.v 24) (.c 1)))],[]⟩,[(0,0),(1,1),(2,2)],[],[]⟩;.cut (p8_::f10_) 1 i_ [] (shT lHolds_T1 i_)),
  (let i_:In:=⟨⟨[(25,(.v 25)),(27,(.v 27)),(26,(.v 26)),(24,(.op .add (.v 24) (.c 1)))],[]⟩,[(0,0),(1,1),(2,2)],[],[]⟩;.cut (((.le (.c 1024) x3_),.true)::f12_) 1 i_ [] (shT lHolds_T1 i_)),
  (let i_:In:=⟨⟨[(25,(.ap 8 (.v 25) x1_ (.c 0) x2_ (.c 1) (.c 0))),(27,(.ap 8 (.v 27) x1_ (.c 0) (.wk .i64 (.op .add x2_ (.c 1))) (.c 1) (.c 0))),(26,(.v 26)),(24,(.op .add (.v 24) (.c 1)))],[]⟩,[(0,0),(1,1),(2,2)],[],[]⟩;.cut (((.le (.c 1024) x3_),.false)::f12_) 1 i_ [] (shT lHolds_T1 i_)),
  (let i_:In:=⟨⟨[(25,(.v 25)),(27,(.v 27)),(26,(.v 26)),(24,(.op .add (.v 24) (.c 1)))],[]⟩,[(0,0),(1,1),(2,2)],[],[]⟩;.cut (((.le x2_ (.c 1099511627776)),.false)::f7_) 1 i_ [] (shT lHolds_T1 i_)),
  (let i_:In:=⟨⟨[(25,(.v 25)),(27,(.v 27)),(26,(.v 26)),(24,(.op .add (.v 24) (.c 1)))],[]⟩,[(0,0),(1,1),(2,2)],[],[]⟩;.cut (((.le (.c 0) x2_),.false)::f4_) 1 i_ [] (shT lHolds_T1 i_)),
  (let i_:In:=⟨⟨[(25,(.v 25)),(27,(.v 27)),(26,(.v 26)),(24,(.op .add (.v 24) (.c 1)))],[]⟩,[(0,0),(1,1),(2,2)],[],[]⟩;.cut (((.lt x1_ (.c 0)),.true)::f5_) 1 i_ [] (shT lHolds_T1 i_)),
  (let i_:In:=⟨⟨[(25,(.ap 8 (.v 25) x1_ (.c 0) (.c 0) (.c 3) (.c 0))),(27,(.ap 8 (.v 27) x1_ (.c 0) (.c 0) (.c 1) (.c 0))),(26,(.v 26)),(24,(.op .add (.v 24) (.c 1)))],[]⟩,[(0,0),(1,1),(2,2)],[],[]⟩;.cut (p8_::f8_) 1 i_ [] (shT lHolds_T1 i_)),
  (let i_:In:=⟨⟨[(25,(.v 25)),(27,(.v 27)),(26,(.v 26)),(24,(.op .add (.v 24) (.c 1)))],[]⟩,[(0,0),(1,1),(2,2)],[],[]⟩;.cut (p9_::f8_) 1 i_ [] (shT lHolds_T1 i_)),
  (let i_:In:=⟨⟨[(31,(.v 27)),(28,(.d 0)),(30,(.c 0))],[]⟩,[(0,0),(1,1),(2,2),(4,4)],[],[]⟩;.cut (p5_::f15_) 2 i_ [] (shT lHolds_T2 i_)),
  (.fin (p6_::f15_) 0 ⟨⟨[],[]⟩,[],[],[]⟩ [(.eb (.c .true) (.c .false))] []),
  (.cut (p5_::f14_) 3 ⟨⟨[],[]⟩,[(0,0),(1,1),(2,2)],[],[]⟩ [] (shT lHolds_T3 ⟨⟨[],[]⟩,[(0,0),(1,1),(2,2)],[],[]⟩)),
  (.fin (p6_::f14_) 0 ⟨⟨[],[]⟩,[],[],[]⟩ [(.eb (.c .true) (.c .false))] []),
  (.bad (((.le x3_ (.c 4096)),.false)::f11_)),
  (.bad (((.ap 20 (.v 25) (.c 0) (.c 0) (.c 0) (.c 0) (.c 0)),.false)::f9_)),
  (let i_:In:=⟨⟨[(25,(.v 25)),(27,(.v 27)),(26,(.v 26)),(24,(.op .add (.v 24) (.c 1)))],[]⟩,[(0,0),(1,1),(2,2)],[],[]⟩;.cut (((.eq x0_ (.c 2)),.false)::f6_) 1 i_ [] (shT lHolds_T1 i_)),
  (.fin (((.lt (.v 24) (.v 1)),.false)::f0_) 0 ⟨⟨[],[]⟩,[],[],[]⟩ [] [])]
def lHolds_L2:List Lf:=
 let x0_:SI:=(.ap 8 (.v 25) (.c 0) (.c 0) (.c 0) (.c 2) (.c 0))
 let x1_:SI:=(.ap 3 (.v 0) (.v 24) (.c 0) (.c 0) (.c 0) (.c 0))
 let x2_:SI:=(.op .imin (.op .add (.v 26) (.c 1)) (.c 1099511627776))
 let x3_:SI:=(.ap 3 (.ap 20 (.v 25) (.c 0) (.c 0) (.c 0) (.c 0) (.c 0)) (.v 30) (.c 0) (.c 0) (.c 0) (.c 0))
 let x4_:SI:=(.ap 22 (.v 25) x2_ (.c 0) (.c 0) (.c 0) (.c 0))
 let x5_:SI:=(.ap 3 (.v 31) x3_ (.c 0) (.c 1) (.c 0) (.c 0))
 let x6_:SI:=(.wk .i64 (.op .add x5_ (.c (-1))))
 let f0_:List (SB×Bool):=[((.eq x2_ (.op .add (.v 26) (.c 1))),.true),((.le x4_ x0_),.true),((.lt (.c 0) x4_),.true),((.le x0_ (.c 4096)),.true),((.ap 20 (.v 25) (.c 0) (.c 0) (.c 0) (.c 0) (.c 0)),.true),((.eq x1_ (.c 2)),.true),((.eq x1_ (.c 1)),.false),((.eq x1_ (.c 0)),.false),((.lt (.v 24) (.v 1)),.true),((.le (.v 1) (.v 3)),.true),((.le (.c 0) (.v 3)),.true),((.le (.v 24) (.v 1)),.true)]
 let f1_:List (SB×Bool):=((.lt (.v 30) x4_),.true)::f0_
 let f2_:List (SB×Bool):=((.eq x5_ (.c 0)),.false)::f1_
 [(.fin (((.eq x5_ (.c 0)),.true)::f1_) 0 ⟨⟨[],[]⟩,[],[],[]⟩ [(.eb (.c .true) (.c .false))] []),
  (.fin (((.lt x2_ x6_),.true)::f2_) 0 ⟨⟨[],[]⟩,[],[],[]⟩ [(.eb (.c .true) (.c .false))] []),
  (let i_:In:=⟨⟨[(31,(.ap 8 (.v 31) x3_ (.c 0) (.c 0) (.c 1) (.c 0))),(28,(.v 28)),(30,(.op .add (.v 30) (.c 1)))],[]⟩,[(0,0),(1,1),(2,2),(4,4)],[],[]⟩;.cut (((.lt x2_ x6_),.false)::f2_) 2 i_ [(.rn (.op .add (.v 30) (.c 1)) 0 4096)] (shT lHolds_T2 i_)),
  (let i_:In:=⟨⟨[(35,(.ap 23 (.v 25) x4_ (.c 0) (.c 0) (.c 0) (.c 0))),(34,(.v 31)),(38,(.c 0))],[]⟩,[(0,0),(1,1),(2,2)],[],[]⟩;.cut (((.lt (.v 30) x4_),.false)::f0_) 4 i_ [] (shT lHolds_T4 i_))]
def lHolds_L3:List Lf:=
 let x0_:SI:=(.ap 3 (.v 0) (.v 24) (.c 0) (.c 0) (.c 0) (.c 0))
 let x1_:SI:=(.op .imin (.op .add (.v 26) (.c 1)) (.c 1099511627776))
 [(let i_:In:=⟨⟨[(35,(.v 25)),(34,(.v 27)),(38,(.c 0))],[]⟩,[(0,0),(1,1),(2,2)],[],[]⟩;.cut ([((.eq x1_ (.op .add (.v 26) (.c 1))),.true),((.lt (.c 0) (.ap 22 (.v 25) x1_ (.c 0) (.c 0) (.c 0) (.c 0))),.false),((.le (.ap 8 (.v 25) (.c 0) (.c 0) (.c 0) (.c 2) (.c 0)) (.c 4096)),.true),((.ap 20 (.v 25) (.c 0) (.c 0) (.c 0) (.c 0) (.c 0)),.true),((.eq x0_ (.c 2)),.true),((.eq x0_ (.c 1)),.false),((.eq x0_ (.c 0)),.false),((.lt (.v 24) (.v 1)),.true),((.le (.v 1) (.v 3)),.true),((.le (.c 0) (.v 3)),.true),((.le (.v 24) (.v 1)),.true)]) 4 i_ [] (shT lHolds_T4 i_))]
def lHolds_L4:List Lf:=
 let x0_:SI:=(.ap 3 (.v 0) (.v 24) (.c 0) (.c 0) (.c 0) (.c 0))
 let x1_:SI:=(.op .imin (.op .add (.v 26) (.c 1)) (.c 1099511627776))
 let x2_:SI:=(.ap 3 (.v 34) (.ap 3 (.v 0) (.v 38) (.c 1) (.c 0) (.c 0) (.c 0)) (.c 0) (.c 1) (.c 0) (.c 0))
 let x3_:SI:=(.wk .i64 (.op .add x2_ (.c (-1))))
 let f0_:List (SB×Bool):=[((.eq x1_ (.op .add (.v 26) (.c 1))),.true),((.le (.ap 8 (.v 25) (.c 0) (.c 0) (.c 0) (.c 2) (.c 0)) (.c 4096)),.true),((.ap 20 (.v 25) (.c 0) (.c 0) (.c 0) (.c 0) (.c 0)),.true),((.eq x0_ (.c 2)),.true),((.eq x0_ (.c 1)),.false),((.eq x0_ (.c 0)),.false),((.lt (.v 24) (.v 1)),.true),((.le (.v 1) (.v 3)),.true),((.le (.c 0) (.v 3)),.true),((.le (.v 24) (.v 1)),.true)]
 let f1_:List (SB×Bool):=((.lt (.v 38) (.v 1)),.true)::f0_
 let f2_:List (SB×Bool):=((.lt (.c 0) x2_),.true)::f1_
 [(.fin (((.le x3_ x1_),.true)::f2_) 0 ⟨⟨[],[]⟩,[],[],[]⟩ [(.eb (.c .true) (.c .false))] []),
  (let i_:In:=⟨⟨[(35,(.v 35)),(34,(.v 34)),(38,(.op .add (.v 38) (.c 1)))],[]⟩,[(0,0),(1,1),(2,2)],[],[]⟩;.cut (((.le x3_ x1_),.false)::f2_) 4 i_ [] (shT lHolds_T4 i_)),
  (let i_:In:=⟨⟨[(35,(.v 35)),(34,(.v 34)),(38,(.op .add (.v 38) (.c 1)))],[]⟩,[(0,0),(1,1),(2,2)],[],[]⟩;.cut (((.lt (.c 0) x2_),.false)::f1_) 4 i_ [] (shT lHolds_T4 i_)),
  (let i_:In:=⟨⟨[(25,(.v 35)),(27,(.v 34)),(26,(.op .imin (.op .add (.v 26) (.c 1)) (.c 1099511627776))),(24,(.op .add (.v 24) (.c 1)))],[]⟩,[(0,0),(1,1),(2,2)],[],[]⟩;.cut (((.lt (.v 38) (.v 1)),.false)::f0_) 1 i_ [] (shT lHolds_T1 i_))]
def lHolds_run (T:Tm):=(ex (ccOf Try.prog BF [62,32] lHolds) ((fun cc=>[cWorks.ent cc,tTick.ent cc]) (ccOf Try.prog BF [62,32] lHolds)) (dw (ccOf Try.prog BF [62,32] lHolds) ((fun cc=>[cWorks.ent cc,tTick.ent cc]) (ccOf Try.prog BF [62,32] lHolds)) 1000 4) (stopX [25]) 20000 T.f T.fs T.H).lfs (ccOf Try.prog BF [62,32] lHolds) ((tm0 lHolds Try.f4 (Try.f4.body.getD .skip))::[lHolds_T1,lHolds_T2,lHolds_T3,lHolds_T4]) lHolds.os
theorem lHolds_h0:lHolds_run (tm0 lHolds Try.f4 (Try.f4.body.getD .skip))=some lHolds_L0:=by kernel_rfl
theorem lHolds_h1:lHolds_run lHolds_T1=some lHolds_L1:=by kernel_rfl
theorem lHolds_h2:lHolds_run lHolds_T2=some lHolds_L2:=by kernel_rfl
theorem lHolds_h3:lHolds_run lHolds_T3=some lHolds_L3:=by kernel_rfl
theorem lHolds_h4:lHolds_run lHolds_T4=some lHolds_L4:=by kernel_rfl
def lHolds_inv:(Nat→Int)→(Nat→Bool)→Nat→(Nat→Int)→(Nat→Bool)→Prop:=fun iv0 _ k iv _=>match k with | 0=>True | 1=>0≤iv 24∧iv 24≤iv0 1∧iv0 1≤60∧0≤iv 26∧iv 26≤iv 24∧arX (iv 25) (iv 27) 0∧lenC (iv 25)≤iv 24 | 2=>0≤iv 24∧iv 24≤iv0 1∧iv0 1≤60∧0≤iv 26∧iv 26≤iv 24∧iv 24 < iv0 1∧arX (iv 25) (iv 31) (iv 30)∧lenC (iv 25)≤iv 24∧0≤iv 30∧iv 30≤dueC (iv 25) (iv 26+1) | 3=>0≤iv 24∧iv 24≤iv0 1∧iv0 1≤60∧0≤iv 26∧iv 26≤iv 24∧iv 24 < iv0 1∧arX (iv 25) (iv 27) 0∧lenC (iv 25)≤iv 24 | _=>0≤iv 24∧iv 24≤iv0 1∧iv0 1≤60∧0≤iv 26∧iv 26≤iv 24∧iv 24 < iv0 1∧arX (iv 35) (iv 34) 0∧lenC (iv 35)≤iv 24∧0≤iv 38∧iv 38≤iv0 1∧∀ x,hasC (iv 35) x=true→(iv 26+1) < mg (iv 35) x
def lHolds_mu:(Nat→Int)→(Nat→Bool)→Nat→(Nat→Int)→(Nat→Bool)→Nat:=fun iv0 _ k iv _=>match k with | 0=>2 ^ 90 | 1=>(iv0 1 - iv 24).toNat * 2 ^ 70 | 2=>(iv0 1 - iv 24 - 1).toNat * 2 ^ 70+2 ^ 60+(dueC (iv 25) (iv 26+1) - iv 30).toNat | 3=>(iv0 1 - iv 24 - 1).toNat * 2 ^ 70+2 ^ 60 | _=>(iv0 1 - iv 24 - 1).toNat * 2 ^ 70+(iv0 1 - iv 38).toNat+1
theorem lHolds_b {iv0:Nat→Int} (hin:InB lHolds.B iv0):(0≤iv0 1∧iv0 1≤9223372036854775807)∧0≤iv0 2:=by
 have b1:=hin 1 0 9223372036854775807 (by simp [lHolds,kA,lA,gA,bA,bA4,fT,i64b,o1,kT,kI])
 simp only [Int.reduceLE,reduceIte,Int.reduceNeg] at b1
 have b2:=hin 2 0 (-1) (by simp [lHolds,kA,lA,gA,bA,bA4,fT,i64b,o1,kT,kI])
 simp only [Int.reduceLE,reduceIte,Int.reduceNeg] at b2
 exact ⟨b1,b2.1⟩
def lHolds_ob (k:Nat) (l:List Lf):Prop:=∀ (kv:Kv) (iv0:Nat→Int) (bv0:Nat→Bool),InB lHolds.B iv0→FT (sta FI FB kv iv0 bv0) (dlt dyn0) lHolds.F→∀ (iv:Nat→Int) (bv:Nat→Bool),Agr 4 iv0 bv0 iv bv→lHolds_inv iv0 bv0 k iv bv→∀ lf∈l,LfT (sta FI FB kv) lHolds.os (lHolds_inv iv0 bv0) (lHolds_mu iv0 bv0) k iv bv lf
theorem lHolds_o0:lHolds_ob 0 lHolds_L0:=by
 intro kv iv0 bv0 hin hF iv bv ha hi
 unfold lHolds_L0
 refine List.forall_mem_cons.2 ⟨?_,List.forall_mem_cons.2 ⟨?_,List.forall_mem_nil _⟩⟩
 all_goals
  intro δ hf
 all_goals
  obtain ⟨b1,b2⟩:=lHolds_b hin
 all_goals
  have a0:=ha.1 0 (by omega)
  have a1:=ha.1 1 (by omega)
  have a2:=ha.1 2 (by omega)
  have a3:=ha.1 3 (by omega)
 all_goals
  simp only [FT,TP,SB.tp,SI.tv,sta,IB.eval,and_true,true_and,ObsT,Ob.Tv,rowT,kix,In.tiv,↓tbvT,In.tbv,get_cons,get_nil,reduceIte,Nat.reduceEqDiff,Int.reduceToNat,Int.reduceAdd,Int.reduceSub,Int.reduceLE,Int.reduceLT,Int.reduceEq,ne_eq,Bool.false_eq_true,not_true_eq_false,not_false_eq_true,true_iff,false_iff,iff_true,iff_false,false_implies,implies_true,decT,decide_true,decide_false,Bool.decide_eq_true,ap2,pb2,FI_3,FI_8,FI_9,FI_3g,FI_3k,FI_8s,FI_8l,FI_8d,FB_1h,FB_1a,Int.toNat_natCast,Int.toNat_zero,FI_20,FI_22,FI_23,FB_20,FB_22,FB_23,lHolds_inv,lHolds_mu,lHolds,o1,othT,kA,lA,gA,bA,bA4,fT,i64b,o1,kT,kI,a0,a1,a2,a3] at hf hi ⊢
 all_goals
  (repeat' (with_reducible apply And.intro))<;>first
  | omega
  | assumption
  | (unfold inM;omega)
  | exact trivial
  | (exact arX_zero)
  | (rw [lenC_zero];omega)
  | (clear hin hF ha;grind)
theorem lHolds_o1:lHolds_ob 1 lHolds_L1:=by
 intro kv iv0 bv0 hin hF iv bv ha hi
 unfold lHolds_L1
 refine List.forall_mem_cons.2 ⟨?_,List.forall_mem_cons.2 ⟨?_,List.forall_mem_cons.2 ⟨?_,List.forall_mem_cons.2 ⟨?_,List.forall_mem_cons.2 ⟨?_,List.forall_mem_cons.2 ⟨?_,List.forall_mem_cons.2 ⟨?_,List.forall_mem_cons.2 ⟨?_,List.forall_mem_cons.2 ⟨?_,List.forall_mem_cons.2 ⟨?_,List.forall_mem_cons.2 ⟨?_,List.forall_mem_cons.2 ⟨?_,List.forall_mem_cons.2 ⟨?_,List.forall_mem_cons.2 ⟨?_,List.forall_mem_cons.2 ⟨?_,List.forall_mem_cons.2 ⟨?_,List.forall_mem_cons.2 ⟨?_,List.forall_mem_nil _⟩⟩⟩⟩⟩⟩⟩⟩⟩⟩⟩⟩⟩⟩⟩⟩⟩
 all_goals
  intro δ hf
 all_goals
  obtain ⟨b1,b2⟩:=lHolds_b hin
 all_goals
  have a0:=ha.1 0 (by omega)
  have a1:=ha.1 1 (by omega)
  have a2:=ha.1 2 (by omega)
  have a3:=ha.1 3 (by omega)
 all_goals
  simp only [FT,TP,SB.tp,SI.tv,sta,IB.eval,and_true,true_and,ObsT,Ob.Tv,rowT,kix,In.tiv,↓tbvT,In.tbv,get_cons,get_nil,reduceIte,Nat.reduceEqDiff,Int.reduceToNat,Int.reduceAdd,Int.reduceSub,Int.reduceLE,Int.reduceLT,Int.reduceEq,ne_eq,Bool.false_eq_true,not_true_eq_false,not_false_eq_true,true_iff,false_iff,iff_true,iff_false,false_implies,implies_true,decT,decide_true,decide_false,Bool.decide_eq_true,ap2,pb2,FI_3,FI_8,FI_9,FI_3g,FI_3k,FI_8s,FI_8l,FI_8d,FB_1h,FB_1a,Int.toNat_natCast,Int.toNat_zero,FI_20,FI_22,FI_23,FB_20,FB_22,FB_23,lHolds_inv,lHolds_mu,lHolds,o1,othT,kA,lA,gA,bA,bA4,fT,i64b,o1,kT,kI,a0,a1,a2,a3] at hf hi ⊢
 all_goals
  obtain ⟨g1,g2,g3,g4,g5,hA,hL⟩:=hi
 all_goals
  try simp only [if_nI (show ¬ (1099511627776:Int) < iv 26+1 by omega)] at hf ⊢
 all_goals
  have hK:=hA.1
 all_goals
  have hd:=dueC_spec (c:=iv 25) (now:=(iv 26+1)) (by omega)
 all_goals
  have q1:=fun h h0 h1=>arX_set (k:=(fl (iv0 0) (iv 24).toNat 1)) (a:=(fl (iv0 0) (iv 24).toNat 2)) hA h (fl_has _ _ _) h0 h1
 all_goals
  have q2:=arX_del (k:=(fl (iv0 0) (iv 24).toNat 1)) hA
 all_goals
  have l1:=lenC_setM (iv 25) (fl (iv0 0) (iv 24).toNat 1) (fl (iv0 0) (iv 24).toNat 2)
 all_goals
  have l2:=lenC_delM (iv 25) (fl (iv0 0) (iv 24).toNat 1)
 all_goals
  (repeat' (with_reducible apply And.intro))<;>first
  | omega
  | assumption
  | (unfold inM;omega)
  | exact trivial
  | (clear hin hF ha hd;grind)
  | (clear hin hF ha;grind)
theorem lHolds_o2:lHolds_ob 2 lHolds_L2:=by
 intro kv iv0 bv0 hin hF iv bv ha hi
 unfold lHolds_L2
 refine List.forall_mem_cons.2 ⟨?_,List.forall_mem_cons.2 ⟨?_,List.forall_mem_cons.2 ⟨?_,List.forall_mem_cons.2 ⟨?_,List.forall_mem_nil _⟩⟩⟩⟩
 all_goals
  intro δ hf
 all_goals
  obtain ⟨b1,b2⟩:=lHolds_b hin
 all_goals
  have a0:=ha.1 0 (by omega)
  have a1:=ha.1 1 (by omega)
  have a2:=ha.1 2 (by omega)
  have a3:=ha.1 3 (by omega)
 all_goals
  simp only [FT,TP,SB.tp,SI.tv,sta,IB.eval,and_true,true_and,ObsT,Ob.Tv,rowT,kix,In.tiv,↓tbvT,In.tbv,get_cons,get_nil,reduceIte,Nat.reduceEqDiff,Int.reduceToNat,Int.reduceAdd,Int.reduceSub,Int.reduceLE,Int.reduceLT,Int.reduceEq,ne_eq,Bool.false_eq_true,not_true_eq_false,not_false_eq_true,true_iff,false_iff,iff_true,iff_false,false_implies,implies_true,decT,decide_true,decide_false,Bool.decide_eq_true,ap2,pb2,FI_3,FI_8,FI_9,FI_3g,FI_3k,FI_8s,FI_8l,FI_8d,FB_1h,FB_1a,Int.toNat_natCast,Int.toNat_zero,FI_20,FI_22,FI_23,FB_20,FB_22,FB_23,lHolds_inv,lHolds_mu,lHolds,o1,othT,kA,lA,gA,bA,bA4,fT,i64b,o1,kT,kI,a0,a1,a2,a3] at hf hi ⊢
 all_goals
  obtain ⟨g1,g2,g3,g4,g5,g6,hA,hL,h0,h1⟩:=hi
 all_goals
  try simp only [if_nI (show ¬ (1099511627776:Int) < iv 26+1 by omega)] at hf ⊢
 all_goals
  have hK:=hA.1
 all_goals
  have hd:=dueC_spec (c:=iv 25) (now:=(iv 26+1)) (by omega)
 all_goals
  have e1:=fun h=>fl_KS (c:=iv 25) hK (j:=(iv 30).toNat) h
 all_goals
  have s1:=fun h=>arX_at hA h0 h
 all_goals
  have s2:=fun h=>arX_suc hA h0 h
 all_goals
  have s3:=fun h=>hd.2.2.1 (iv 30).toNat h
 all_goals
  have s4:=fun h=>arX_end hA (m:=iv 30) h0 h
 all_goals
  have s5:=due_after (c:=iv 25) (now:=(iv 26+1)) (by omega)
 all_goals
  have s6:=len_rm (c:=iv 25) (m:=dueC (iv 25) (iv 26+1)) hK (by omega) (by omega)
 all_goals
  (repeat' (with_reducible apply And.intro))<;>first
  | omega
  | assumption
  | (unfold inM;omega)
  | exact trivial
  | (have f0:iv 30 < dueC (iv 25) (iv 26+1):=(by clear hin hF ha s1 s2 s3 s4 s5 s6 e1;grind);have f1:=e1 (by omega);have f2:=s1 (by omega);have f3:=s2 (by omega);have f4:=s3 (by omega);rw [← f1] at f2 f3 f4;have w2:=mg_has (iv 25) (fl (KS (iv 25)) (iv 30).toNat 0);unfold in64 at w2;have w1:=w64_eq (x:=mg (iv 31) (fl (KS (iv 25)) (iv 30).toNat 0)+-1) ⟨by omega,by omega⟩;(try rw [w1] at hf);clear hin hF ha hd s1 s2 s3 s4 s5 s6 e1 hA;first | omega | grind)
  | (have f1:iv 30=dueC (iv 25) (iv 26+1):=(by omega);have f2:=s4 (by omega);rw [f1] at f2;clear hin hF ha hd s1 s2 s3 s4 e1;grind)
  | (clear hin hF ha;grind)
theorem lHolds_o3:lHolds_ob 3 lHolds_L3:=by
 intro kv iv0 bv0 hin hF iv bv ha hi
 unfold lHolds_L3
 refine List.forall_mem_cons.2 ⟨?_,List.forall_mem_nil _⟩
 all_goals
  intro δ hf
 all_goals
  obtain ⟨b1,b2⟩:=lHolds_b hin
 all_goals
  have a0:=ha.1 0 (by omega)
  have a1:=ha.1 1 (by omega)
  have a2:=ha.1 2 (by omega)
  have a3:=ha.1 3 (by omega)
 all_goals
  simp only [FT,TP,SB.tp,SI.tv,sta,IB.eval,and_true,true_and,ObsT,Ob.Tv,rowT,kix,In.tiv,↓tbvT,In.tbv,get_cons,get_nil,reduceIte,Nat.reduceEqDiff,Int.reduceToNat,Int.reduceAdd,Int.reduceSub,Int.reduceLE,Int.reduceLT,Int.reduceEq,ne_eq,Bool.false_eq_true,not_true_eq_false,not_false_eq_true,true_iff,false_iff,iff_true,iff_false,false_implies,implies_true,decT,decide_true,decide_false,Bool.decide_eq_true,ap2,pb2,FI_3,FI_8,FI_9,FI_3g,FI_3k,FI_8s,FI_8l,FI_8d,FB_1h,FB_1a,Int.toNat_natCast,Int.toNat_zero,FI_20,FI_22,FI_23,FB_20,FB_22,FB_23,lHolds_inv,lHolds_mu,lHolds,o1,othT,kA,lA,gA,bA,bA4,fT,i64b,o1,kT,kI,a0,a1,a2,a3] at hf hi ⊢
 all_goals
  obtain ⟨g1,g2,g3,g4,g5,g6,hA,hL⟩:=hi
 all_goals
  try simp only [if_nI (show ¬ (1099511627776:Int) < iv 26+1 by omega)] at hf ⊢
 all_goals
  have hK:=hA.1
 all_goals
  have hd:=dueC_spec (c:=iv 25) (now:=(iv 26+1)) (by omega)
 all_goals
  have s5:=due_after (c:=iv 25) (now:=(iv 26+1)) (by omega)
 all_goals
  have d0:dueC (iv 25) (iv 26+1)=0:=(by clear hin hF ha;grind)
 all_goals
  rw [d0,rmC_0] at s5
 all_goals
  (repeat' (with_reducible apply And.intro))<;>first
  | omega
  | assumption
  | (unfold inM;omega)
  | exact trivial
  | (exact s5)
  | (clear hin hF ha;grind)
theorem lHolds_o4:lHolds_ob 4 lHolds_L4:=by
 intro kv iv0 bv0 hin hF iv bv ha hi
 unfold lHolds_L4
 refine List.forall_mem_cons.2 ⟨?_,List.forall_mem_cons.2 ⟨?_,List.forall_mem_cons.2 ⟨?_,List.forall_mem_cons.2 ⟨?_,List.forall_mem_nil _⟩⟩⟩⟩
 all_goals
  intro δ hf
 all_goals
  obtain ⟨b1,b2⟩:=lHolds_b hin
 all_goals
  have a0:=ha.1 0 (by omega)
  have a1:=ha.1 1 (by omega)
  have a2:=ha.1 2 (by omega)
  have a3:=ha.1 3 (by omega)
 all_goals
  simp only [FT,TP,SB.tp,SI.tv,sta,IB.eval,and_true,true_and,ObsT,Ob.Tv,rowT,kix,In.tiv,↓tbvT,In.tbv,get_cons,get_nil,reduceIte,Nat.reduceEqDiff,Int.reduceToNat,Int.reduceAdd,Int.reduceSub,Int.reduceLE,Int.reduceLT,Int.reduceEq,ne_eq,Bool.false_eq_true,not_true_eq_false,not_false_eq_true,true_iff,false_iff,iff_true,iff_false,false_implies,implies_true,decT,decide_true,decide_false,Bool.decide_eq_true,ap2,pb2,FI_3,FI_8,FI_9,FI_3g,FI_3k,FI_8s,FI_8l,FI_8d,FB_1h,FB_1a,Int.toNat_natCast,Int.toNat_zero,FI_20,FI_22,FI_23,FB_20,FB_22,FB_23,lHolds_inv,lHolds_mu,lHolds,o1,othT,kA,lA,gA,bA,bA4,fT,i64b,o1,kT,kI,a0,a1,a2,a3] at hf hi ⊢
 all_goals
  obtain ⟨g1,g2,g3,g4,g5,g6,hA,hL,h0,h1,h2⟩:=hi
 all_goals
  try simp only [if_nI (show ¬ (1099511627776:Int) < iv 26+1 by omega)] at hf ⊢
 all_goals
  have s1:=arX_all (x:=fl (iv0 0) (iv 38).toNat 1) hA
 all_goals
  have s2:=h2 (fl (iv0 0) (iv 38).toNat 1)
 all_goals
  (repeat' (with_reducible apply And.intro))<;>first
  | omega
  | assumption
  | (unfold inM;omega)
  | exact trivial
  | (by_cases hx:hasC (iv 35) (fl (iv0 0) (iv 38).toNat 1)=true;(have e1:=s1.1 hx;have e2:=s2 hx;have e4:=mg_has (iv 34) (fl (iv0 0) (iv 38).toNat 1);unfold in64 at e4;have e3:=w64_eq (x:=mg (iv 34) (fl (iv0 0) (iv 38).toNat 1)+-1) ⟨by omega,by omega⟩;rw [e3] at hf;omega);(have e1:=s1.2 hx;omega))
  | (clear hin hF ha;grind)
theorem lHolds_c:LsC ((tm0 lHolds Try.f4 (Try.f4.body.getD .skip))::[lHolds_T1,lHolds_T2,lHolds_T3,lHolds_T4]) lHolds.os [lHolds_L0,lHolds_L1,lHolds_L2,lHolds_L3,lHolds_L4]:=by
 unfold lHolds_L0 lHolds_L1 lHolds_L2 lHolds_L3 lHolds_L4
 exact ⟨List.forall_mem_cons.2 ⟨⟨⟨_,rfl,rfl⟩,by kernel_rfl⟩,List.forall_mem_cons.2 ⟨⟨⟨_,rfl,rfl⟩,by kernel_rfl⟩,List.forall_mem_nil _⟩⟩,List.forall_mem_cons.2 ⟨⟨⟨_,rfl,rfl⟩,by kernel_rfl⟩,List.forall_mem_cons.2 ⟨⟨⟨_,rfl,rfl⟩,by kernel_rfl⟩,List.forall_mem_cons.2 ⟨⟨⟨_,rfl,rfl⟩,by kernel_rfl⟩,List.forall_mem_cons.2 ⟨⟨⟨_,rfl,rfl⟩,by kernel_rfl⟩,List.forall_mem_cons.2 ⟨⟨⟨_,rfl,rfl⟩,by kernel_rfl⟩,List.forall_mem_cons.2 ⟨⟨⟨_,rfl,rfl⟩,by kernel_rfl⟩,List.forall_mem_cons.2 ⟨⟨⟨_,rfl,rfl⟩,by kernel_rfl⟩,List.forall_mem_cons.2 ⟨⟨⟨_,rfl,rfl⟩,by kernel_rfl⟩,List.forall_mem_cons.2 ⟨⟨⟨_,rfl,rfl⟩,by kernel_rfl⟩,List.forall_mem_cons.2 ⟨⟨⟨_,rfl,rfl⟩,by kernel_rfl⟩,List.forall_mem_cons.2 ⟨⟨⟨_,rfl,rfl⟩,by kernel_rfl⟩,List.forall_mem_cons.2 ⟨⟨⟨_,rfl,rfl⟩,by kernel_rfl⟩,List.forall_mem_cons.2 ⟨⟨⟨_,rfl,rfl⟩,by kernel_rfl⟩,List.forall_mem_cons.2 ⟨trivial,List.forall_mem_cons.2 ⟨trivial,List.forall_mem_cons.2 ⟨⟨⟨_,rfl,rfl⟩,by kernel_rfl⟩,List.forall_mem_cons.2 ⟨⟨⟨_,rfl,rfl⟩,by kernel_rfl⟩,List.forall_mem_nil _⟩⟩⟩⟩⟩⟩⟩⟩⟩⟩⟩⟩⟩⟩⟩⟩⟩,List.forall_mem_cons.2 ⟨⟨⟨_,rfl,rfl⟩,by kernel_rfl⟩,List.forall_mem_cons.2 ⟨⟨⟨_,rfl,rfl⟩,by kernel_rfl⟩,List.forall_mem_cons.2 ⟨⟨⟨_,rfl,rfl⟩,by kernel_rfl⟩,List.forall_mem_cons.2 ⟨⟨⟨_,rfl,rfl⟩,by kernel_rfl⟩,List.forall_mem_nil _⟩⟩⟩⟩,List.forall_mem_cons.2 ⟨⟨⟨_,rfl,rfl⟩,by kernel_rfl⟩,List.forall_mem_nil _⟩,List.forall_mem_cons.2 ⟨⟨⟨_,rfl,rfl⟩,by kernel_rfl⟩,List.forall_mem_cons.2 ⟨⟨⟨_,rfl,rfl⟩,by kernel_rfl⟩,List.forall_mem_cons.2 ⟨⟨⟨_,rfl,rfl⟩,by kernel_rfl⟩,List.forall_mem_cons.2 ⟨⟨⟨_,rfl,rfl⟩,by kernel_rfl⟩,List.forall_mem_nil _⟩⟩⟩⟩,trivial⟩
theorem lHolds_ok:lHolds.Ok Try.prog FI FB:=
 Con.of_plain (body:=Try.f4.body.getD .skip) pok fiok (EntsFor.cons cWorks_ok (EntsFor.consM tTick_ok EntsFor.nil)) lHolds Try.func4 (by kernel_rfl) 4 [lHolds_T1,lHolds_T2,lHolds_T3,lHolds_T4] (by kernel_rfl) [lHolds_L0,lHolds_L1,lHolds_L2,lHolds_L3,lHolds_L4] ⟨lHolds_h0,lHolds_h1,lHolds_h2,lHolds_h3,lHolds_h4,trivial⟩ lHolds_c
  lHolds_inv lHolds_mu (fun _ _ _=>trivial) fun kv iv0 bv0 hin hF k l iv bv hk ha hi=>match k,hk,hi with
  | 0,hk,hi=>by
    cases hk
    exact lHolds_o0 kv iv0 bv0 hin hF iv bv ha hi
  | 1,hk,hi=>by
    cases hk
    exact lHolds_o1 kv iv0 bv0 hin hF iv bv ha hi
  | 2,hk,hi=>by
    cases hk
    exact lHolds_o2 kv iv0 bv0 hin hF iv bv ha hi
  | 3,hk,hi=>by
    cases hk
    exact lHolds_o3 kv iv0 bv0 hin hF iv bv ha hi
  | 4,hk,hi=>by
    cases hk
    exact lHolds_o4 kv iv0 bv0 hin hF iv bv ha hi
  | k+5,hk,_=>by simp at hk
def lHolds0_L0:List Lf:=
 [(.fin ([]) 0 ⟨⟨[],[]⟩,[],[],[]⟩ [] [])]
def lHolds0_run (T:Tm):=(ex (ccOf Try.prog BF [62,32] lHolds0) ((fun cc=>[cWorks.ent cc,tTick.ent cc]) (ccOf Try.prog BF [62,32] lHolds0)) (dw (ccOf Try.prog BF [62,32] lHolds0) ((fun cc=>[cWorks.ent cc,tTick.ent cc]) (ccOf Try.prog BF [62,32] lHolds0)) 1000 4) (stopX [4,25]) 20000 T.f T.fs T.H).lfs (ccOf Try.prog BF [62,32] lHolds0) ((tm0 lHolds0 Try.f4 (Try.f4.body.getD .skip))::[]) lHolds0.os
theorem lHolds0_h0:lHolds0_run (tm0 lHolds0 Try.f4 (Try.f4.body.getD .skip))=some lHolds0_L0:=by kernel_rfl
def lHolds0_inv:(Nat→Int)→(Nat→Bool)→Nat→(Nat→Int)→(Nat→Bool)→Prop:=fun _ _ _ _ _=>True
def lHolds0_mu:(Nat→Int)→(Nat→Bool)→Nat→(Nat→Int)→(Nat→Bool)→Nat:=fun _ _ _ _ _=>0
def lHolds0_ob (k:Nat) (l:List Lf):Prop:=∀ (kv:Kv) (iv0:Nat→Int) (bv0:Nat→Bool),InB lHolds0.B iv0→FT (sta FI FB kv iv0 bv0) (dlt dyn0) lHolds0.F→∀ (iv:Nat→Int) (bv:Nat→Bool),Agr 4 iv0 bv0 iv bv→lHolds0_inv iv0 bv0 k iv bv→∀ lf∈l,LfT (sta FI FB kv) lHolds0.os (lHolds0_inv iv0 bv0) (lHolds0_mu iv0 bv0) k iv bv lf
theorem lHolds0_o0:lHolds0_ob 0 lHolds0_L0:=by
 intro kv iv0 bv0 hin hF iv bv ha hi
 unfold lHolds0_L0
 refine List.forall_mem_cons.2 ⟨?_,List.forall_mem_nil _⟩
 all_goals
  intro δ hf
 all_goals
  simp only [FT,TP,SB.tp,SI.tv,sta,IB.eval,and_true,true_and,ObsT,Ob.Tv,rowT,kix,In.tiv,↓tbvT,In.tbv,get_cons,get_nil,reduceIte,Nat.reduceEqDiff,Int.reduceToNat,Int.reduceAdd,Int.reduceSub,Int.reduceLE,Int.reduceLT,Int.reduceEq,ne_eq,Bool.false_eq_true,not_true_eq_false,not_false_eq_true,true_iff,false_iff,iff_true,iff_false,false_implies,implies_true,decT,decide_true,decide_false,Bool.decide_eq_true,ap2,pb2,FI_3,FI_8,FI_9,FI_3g,FI_3k,FI_8s,FI_8l,FI_8d,FB_1h,FB_1a,Int.toNat_natCast,Int.toNat_zero,lHolds0_inv,lHolds0_mu,lHolds0,o1,othT,kA,lA,gA,bA,bA4,fT,i64b,o1,kT,kI] at hf hi ⊢
 all_goals
  (repeat' (with_reducible apply And.intro))<;>first
  | omega
  | assumption
  | (unfold inM;omega)
  | exact trivial
  | (clear hin hF ha;grind)
theorem lHolds0_c:LsC ((tm0 lHolds0 Try.f4 (Try.f4.body.getD .skip))::[]) lHolds0.os [lHolds0_L0]:=by
 unfold lHolds0_L0
 exact ⟨List.forall_mem_cons.2 ⟨⟨⟨_,rfl,rfl⟩,by kernel_rfl⟩,List.forall_mem_nil _⟩,trivial⟩
theorem lHolds0_ok:lHolds0.Ok Try.prog FI FB:=
 Con.of_plain (body:=Try.f4.body.getD .skip) pok fiok (EntsFor.cons cWorks_ok (EntsFor.consM tTick_ok EntsFor.nil)) lHolds0 Try.func4 (by kernel_rfl) 4 [] (by kernel_rfl) [lHolds0_L0] ⟨lHolds0_h0,trivial⟩ lHolds0_c
  lHolds0_inv lHolds0_mu (fun _ _ _=>trivial) fun kv iv0 bv0 hin hF k l iv bv hk ha hi=>match k,hk,hi with
  | 0,hk,hi=>by
    cases hk
    exact lHolds0_o0 kv iv0 bv0 hin hF iv bv ha hi
  | k+1,hk,_=>by simp at hk
end
end Go.Sx.Ti
