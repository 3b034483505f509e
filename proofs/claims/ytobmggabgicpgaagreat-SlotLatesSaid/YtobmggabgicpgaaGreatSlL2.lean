/- Slots: the document's Late, by contract. -/
import Derived.Test.YtobmggabgicpgaaGreatSlL1
namespace Go.Sx.Sl
set_option linter.unusedVariables false
set_option linter.unusedSimpArgs false
set_option maxRecDepth 100000
set_option maxHeartbeats 0
noncomputable section
open Go Go.Sx Go.Sx.Ti Go.Proofs
theorem wh_le {c w m i now:Int} (h:whI c w m i now) (h0:0≤i):m≤i:=by
 have hl:(lst w m).length=m.toNat:=lst_len w m
 have h1:=(lateL_perm c i now).length_eq
 have h2:=lateM_len c i now
 rw [h.2] at hl
 have:=h.1
 omega
theorem wh_congr {c w w' m i now:Int} (h:whI c w m i now) (e:∀ t:Nat,(t:Int) < m→fl w' t 0=fl w t 0):whI c w' m i now:=by
 refine ⟨h.1,?_⟩
 rw [← h.2]
 unfold lst
 exact List.map_congr_left fun t ht=>e t (by have:=List.mem_range.1 ht;have:=h.1;omega)
theorem wh_push {c w m i now:Int} (h:whI c w m i now) (h0:0≤i) (hi:i < 4096) (hl:lateP c now i.toNat) (hb:0 < m→fl c (fl w (m - 1).toNat 0).toNat 4≤fl c i.toNat 4):whI c (setC w m 0 i) (m+1) (i+1) now:=by
 have hin:in64 i:=by unfold in64;omega
 refine wh_congr (wh_ins h h0 hi hl h.1 (Int.le_refl _) (fun t h1 h2=>by omega) hb) fun t ht=>?_
 rw [fl_insW h.1 (Int.le_refl _) hin ht,fl_set0 _ _ _ hin]
 have:=h.1
 by_cases e:t=m.toNat
 ·rw [if_pos e,if_neg (by omega),if_pos (by omega)]
 ·rw [if_neg e,if_pos (by omega)]
theorem ge_step {c w i x p m:Int} (h:∀ t:Nat,p≤(t:Int)→(t:Int) < m→x < fl c (fl w t 0).toNat 4) (h0:0 < p) (e:x < fl c (fl w (p - 1).toNat 0).toNat 4):∀ t:Nat,p - 1≤(t:Int)→(t:Int) < m→x < fl c (fl w t 0).toNat 4:=fun t h1 h2=>by
 by_cases h3:p≤(t:Int)
 ·exact h t h3 h2
 ·have:t=(p - 1).toNat:=by omega
  subst this;exact e
def rLat_T1:Tm:=⟨⟨19,100,[(11,(.it .i64 (.v 30))),(10,.sn),(9,(.sl (.n 2) (.c 0) (.v 1) (.v 28))),(1,(.sl (.k 0) (.v 2) (.v 1) (.v 3))),(2,(.it .i64 (.v 7)))],[(.code (atC Tryz.f19 [1,1,1,1,0,1,0,0])),(.inLoop (atC Tryz.f19 [1,1,1,1,0,1,0,0])),(.inBlock 0),(.code (atC Tryz.f19 [1,1,1,1,1]))],[],.none⟩,[],
    ⟨[(2,(.arr [(.nt .i64),(.nt .i64),(.nt .i64),(.nt .i64),(.nt .i64),(.nt .i64),(.nt .i64),(.nt .u64)] (.v 0) (.v 1) 55 (.v 28)))],3,0,0,[((.le (.v 7) (.c 1099511627776)),.true),((.le (.c 0) (.v 7)),.true),((.eq (.ap 22 (.v 0) (.v 1) (.v 4) (.v 5) (.v 6) (.c 0)) (.c 0)),.true),((.le (.v 1) (.v 3)),.true),((.le (.c 0) (.v 3)),.true)],[1,0],[(7,(0,1099511627776)),(4,((-9223372036854775808),9223372036854775807)),(5,((-9223372036854775808),9223372036854775807)),(6,((-9223372036854775808),9223372036854775807)),(1,(0,64)),(2,(0,(-1))),(30,(0,(-1)))]⟩,[30,28]⟩
def rLat_T2:Tm:=⟨⟨19,100,[(12,(.it .i64 (.c 0))),(11,(.it .i64 (.v 30))),(10,.sn),(9,(.sl (.n 2) (.c 0) (.v 1) (.v 28))),(1,(.sl (.k 0) (.v 2) (.v 1) (.v 3))),(2,(.it .i64 (.v 7)))],[(.code (atC Tryz.f19 [1,1,1,1,0,1,0,0,1,0,0,1,1,1,0,0,0])),(.inLoop (atC Tryz.f19 [1,1,1,1,0,1,0,0,1,0,0,1,1,1,0,0,0])),(.inBlock 2),(.code (atC Tryz.f19 [1,1,1,1,0,1,0,0,1,0,0,1,1,1,1])),(.inBlock 1),(.code (atC Tryz.f19 [1,1,1,1,0,1,0,0,1,1])),(.inLoop (atC Tryz.f19 [1,1,1,1,0,1,0,0])),(.inBlock 0),(.code (atC Tryz.f19 [1,1,1,1,1]))],[],.none⟩,[],
    ⟨[(2,(.arr [(.nt .i64),(.nt .i64),(.nt .i64),(.nt .i64),(.nt .i64),(.nt .i64),(.nt .i64),(.nt .u64)] (.ap 8 (.ap 8 (.ap 8 (.ap 8 (.ap 8 (.ap 8 (.ap 8 (.ap 8 (.v 0) (.v 30) (.c 0) (.ap 3 (.v 0) (.v 30) (.c 0) (.c 0) (.c 0) (.c 0)) (.c 0) (.c 0)) (.v 30) (.c 1) (.c 5) (.c 0) (.c 0)) (.v 30) (.c 2) (.c 0) (.c 0) (.c 0)) (.v 30) (.c 3) (.c 0) (.c 0) (.c 0)) (.v 30) (.c 4) (.c 0) (.c 0) (.c 0)) (.v 30) (.c 5) (.c 0) (.c 0) (.c 0)) (.v 30) (.c 6) (.c 0) (.c 0) (.c 0)) (.v 30) (.c 7) (.c 0) (.c 0) (.c 0)) (.v 1) 55 (.v 28)))],3,0,0,[((.lt (.v 7) (.ap 3 (.v 0) (.v 30) (.c 4) (.c 0) (.c 0) (.c 0))),.false),((.eq (.ap 3 (.v 0) (.v 30) (.c 4) (.c 0) (.c 0) (.c 0)) (.c 0)),.false),((.eq (.ap 3 (.v 0) (.v 30) (.c 1) (.c 0) (.c 0) (.c 0)) (.c 1)),.true),((.lt (.v 30) (.v 1)),.true),((.le (.v 7) (.c 1099511627776)),.true),((.le (.c 0) (.v 7)),.true),((.eq (.ap 22 (.v 0) (.v 1) (.v 4) (.v 5) (.v 6) (.c 0)) (.c 0)),.true),((.le (.v 1) (.v 3)),.true),((.le (.c 0) (.v 3)),.true)],[1,0],[(7,(0,1099511627776)),(1,(1,64)),(30,(0,63)),(7,(0,1099511627776)),(4,((-9223372036854775808),9223372036854775807)),(5,((-9223372036854775808),9223372036854775807)),(6,((-9223372036854775808),9223372036854775807)),(1,(0,64)),(2,(0,(-1))),(30,(0,(-1)))]⟩,[]⟩
def rLat_T3:Tm:=⟨⟨19,100,[(11,(.it .i64 (.v 37))),(10,(.sl (.n 5) (.c 0) (.v 50) (.v 34))),(9,(.sl (.n 2) (.c 0) (.v 1) (.v 28))),(1,(.sl (.k 0) (.v 2) (.v 1) (.v 3))),(2,(.it .i64 (.v 7)))],[(.code (atC Tryz.f19 [1,1,1,1,0,1,0,0])),(.inLoop (atC Tryz.f19 [1,1,1,1,0,1,0,0])),(.inBlock 0),(.code (atC Tryz.f19 [1,1,1,1,1]))],[],.none⟩,[],
    ⟨[(2,(.arr [(.nt .i64),(.nt .i64),(.nt .i64),(.nt .i64),(.nt .i64),(.nt .i64),(.nt .i64),(.nt .u64)] (.v 52) (.v 1) 55 (.v 28))),(5,(.arr [(.nt .i64)] (.v 51) (.v 50) 3 (.v 34)))],6,0,0,[((.lt (.v 7) (.ap 3 (.v 0) (.v 30) (.c 4) (.c 0) (.c 0) (.c 0))),.false),((.eq (.ap 3 (.v 0) (.v 30) (.c 4) (.c 0) (.c 0) (.c 0)) (.c 0)),.false),((.eq (.ap 3 (.v 0) (.v 30) (.c 1) (.c 0) (.c 0) (.c 0)) (.c 1)),.true),((.lt (.v 30) (.v 1)),.true),((.le (.v 7) (.c 1099511627776)),.true),((.le (.c 0) (.v 7)),.true),((.eq (.ap 22 (.v 0) (.v 1) (.v 4) (.v 5) (.v 6) (.c 0)) (.c 0)),.true),((.le (.v 1) (.v 3)),.true),((.le (.c 0) (.v 3)),.true),((.le (.v 50) (.v 34)),.true)],[1,0],[(50,(1,64)),(37,((-9223372036854775808),9223372036854775807)),(7,(0,1099511627776)),(1,(1,64)),(4,((-9223372036854775808),9223372036854775807)),(5,((-9223372036854775808),9223372036854775807)),(6,((-9223372036854775808),9223372036854775807)),(2,(0,(-1)))]⟩,[50,51,52,37,34]⟩
def rLat_T4:Tm:=⟨⟨19,100,[(12,(.it .i64 (.v 59))),(11,(.it .i64 (.v 37))),(10,(.sl (.n 5) (.c 0) (.v 50) (.v 34))),(9,(.sl (.n 2) (.c 0) (.v 1) (.v 28))),(1,(.sl (.k 0) (.v 2) (.v 1) (.v 3))),(2,(.it .i64 (.v 7)))],[(.code (atC Tryz.f19 [1,1,1,1,0,1,0,0,1,0,0,1,1,1,0,0,0])),(.inLoop (atC Tryz.f19 [1,1,1,1,0,1,0,0,1,0,0,1,1,1,0,0,0])),(.inBlock 2),(.code (atC Tryz.f19 [1,1,1,1,0,1,0,0,1,0,0,1,1,1,1])),(.inBlock 1),(.code (atC Tryz.f19 [1,1,1,1,0,1,0,0,1,1])),(.inLoop (atC Tryz.f19 [1,1,1,1,0,1,0,0])),(.inBlock 0),(.code (atC Tryz.f19 [1,1,1,1,1]))],[],.none⟩,[],
    ⟨[(2,(.arr [(.nt .i64),(.nt .i64),(.nt .i64),(.nt .i64),(.nt .i64),(.nt .i64),(.nt .i64),(.nt .u64)] (.ap 8 (.ap 8 (.ap 8 (.ap 8 (.ap 8 (.ap 8 (.ap 8 (.ap 8 (.v 52) (.v 37) (.c 0) (.ap 3 (.v 0) (.v 37) (.c 0) (.c 0) (.c 0) (.c 0)) (.c 0) (.c 0)) (.v 37) (.c 1) (.c 5) (.c 0) (.c 0)) (.v 37) (.c 2) (.c 0) (.c 0) (.c 0)) (.v 37) (.c 3) (.c 0) (.c 0) (.c 0)) (.v 37) (.c 4) (.c 0) (.c 0) (.c 0)) (.v 37) (.c 5) (.c 0) (.c 0) (.c 0)) (.v 37) (.c 6) (.c 0) (.c 0) (.c 0)) (.v 37) (.c 7) (.c 0) (.c 0) (.c 0)) (.v 1) 55 (.v 28))),(5,(.arr [(.nt .i64)] (.v 51) (.v 50) 3 (.v 34)))],6,0,0,[((.lt (.v 7) (.ap 3 (.v 0) (.v 37) (.c 4) (.c 0) (.c 0) (.c 0))),.false),((.eq (.ap 3 (.v 0) (.v 37) (.c 4) (.c 0) (.c 0) (.c 0)) (.c 0)),.false),((.eq (.ap 3 (.v 0) (.v 37) (.c 1) (.c 0) (.c 0) (.c 0)) (.c 1)),.true),((.le (.c 0) (.v 37)),.true),((.lt (.v 37) (.v 1)),.true),((.lt (.v 7) (.ap 3 (.v 0) (.v 30) (.c 4) (.c 0) (.c 0) (.c 0))),.false),((.eq (.ap 3 (.v 0) (.v 30) (.c 4) (.c 0) (.c 0) (.c 0)) (.c 0)),.false),((.eq (.ap 3 (.v 0) (.v 30) (.c 1) (.c 0) (.c 0) (.c 0)) (.c 1)),.true),((.lt (.v 30) (.v 1)),.true),((.le (.v 7) (.c 1099511627776)),.true),((.le (.c 0) (.v 7)),.true),((.eq (.ap 22 (.v 0) (.v 1) (.v 4) (.v 5) (.v 6) (.c 0)) (.c 0)),.true),((.le (.v 1) (.v 3)),.true),((.le (.c 0) (.v 3)),.true),((.le (.v 50) (.v 34)),.true)],[1,0],[(59,(0,64)),(7,(0,1099511627776)),(37,(0,63)),(1,(1,64)),(50,(1,64)),(4,((-9223372036854775808),9223372036854775807)),(5,((-9223372036854775808),9223372036854775807)),(6,((-9223372036854775808),9223372036854775807)),(2,(0,(-1)))]⟩,[59]⟩
def rLat_L0:List Lf:=
 let x0_:SI:=(.ap 22 (.v 0) (.v 1) (.v 4) (.v 5) (.v 6) (.c 0))
 let f0_:List (SB×Bool):=[((.le (.v 1) (.v 3)),.true),((.le (.c 0) (.v 3)),.true)]
 let f1_:List (SB×Bool):=((.eq x0_ (.c 0)),.true)::f0_
 let f2_:List (SB×Bool):=((.le (.c 0) (.v 7)),.true)::f1_
 [(.cut (((.le (.v 1) (.d 0)),.true)::((.le (.v 7) (.c 1099511627776)),.true)::f2_) 1 ⟨⟨[(28,(.d 0)),(30,(.c 0))],[]⟩,[(2,2)],[],[]⟩ [] (shT rLat_T1 ⟨⟨[(28,(.d 0)),(30,(.c 0))],[]⟩,[(2,2)],[],[]⟩)),
  (.fin (((.le (.v 7) (.c 1099511627776)),.false)::f2_) 0 ⟨⟨[],[]⟩,[],[],[]⟩ [] []),
  (.fin (((.le (.c 0) (.v 7)),.false)::f1_) 0 ⟨⟨[],[]⟩,[],[],[]⟩ [] []),
  (.fin (((.eq x0_ (.c 0)),.false)::f0_) 0 ⟨⟨[],[]⟩,[],[],[]⟩ [] [])]
def rLat_L1:List Lf:=
 let x0_:SI:=(.ap 3 (.v 0) (.v 30) (.c 1) (.c 0) (.c 0) (.c 0))
 let x1_:SI:=(.ap 3 (.v 0) (.v 30) (.c 4) (.c 0) (.c 0) (.c 0))
 let f0_:List (SB×Bool):=[((.le (.v 7) (.c 1099511627776)),.true),((.le (.c 0) (.v 7)),.true),((.eq (.ap 22 (.v 0) (.v 1) (.v 4) (.v 5) (.v 6) (.c 0)) (.c 0)),.true),((.le (.v 1) (.v 3)),.true),((.le (.c 0) (.v 3)),.true)]
 let f1_:List (SB×Bool):=((.lt (.v 30) (.v 1)),.true)::f0_
 let f2_:List (SB×Bool):=((.eq x0_ (.c 1)),.true)::f1_
 let f3_:List (SB×Bool):=((.eq x1_ (.c 0)),.false)::f2_
 [(let i_:In:=⟨⟨[(28,(.v 28)),(30,(.op .add (.v 30) (.c 1)))],[]⟩,[(2,2)],[],[]⟩;.cut (((.eq x1_ (.c 0)),.true)::f2_) 1 i_ [] (shT rLat_T1 i_)),
  (let i_:In:=⟨⟨[(28,(.v 28)),(30,(.op .add (.v 30) (.c 1)))],[]⟩,[(2,2)],[],[]⟩;.cut (((.lt (.v 7) x1_),.true)::f3_) 1 i_ [] (shT rLat_T1 i_)),
  (.cut (((.lt (.v 7) x1_),.false)::f3_) 2 ⟨⟨[],[]⟩,[(2,2)],[],[]⟩ [] (shT rLat_T2 ⟨⟨[],[]⟩,[(2,2)],[],[]⟩)),
  (let i_:In:=⟨⟨[(28,(.v 28)),(30,(.op .add (.v 30) (.c 1)))],[]⟩,[(2,2)],[],[]⟩;.cut (((.eq x0_ (.c 1)),.false)::f1_) 1 i_ [] (shT rLat_T1 i_)),
  (.fin (((.lt (.v 30) (.v 1)),.false)::f0_) 1 ⟨⟨[],[]⟩,[(0,2)],[(0,(.v 28))],[]⟩ [(.ar [(.nt .i64),(.nt .i64),(.nt .i64),(.nt .i64),(.nt .i64),(.nt .i64),(.nt .i64),(.nt .u64)] (.ap 23 (.v 0) (.v 1) (.v 7) (.c 0) (.c 0) (.c 0)) (.v 0) (.v 1)),(.fa (.le (.v 1) (.v 28)) .true)] [.none])]
def rLat_L2:List Lf:=
 let x0_:SI:=(.ap 3 (.v 0) (.v 30) (.c 4) (.c 0) (.c 0) (.c 0))
 [(let i_:In:=⟨⟨[(51,(.ap 8 (.c 0) (.c 0) (.c 0) (.v 30) (.c 0) (.c 0))),(52,(.ap 8 (.ap 8 (.ap 8 (.ap 8 (.ap 8 (.ap 8 (.ap 8 (.ap 8 (.v 0) (.v 30) (.c 0) (.ap 3 (.v 0) (.v 30) (.c 0) (.c 0) (.c 0) (.c 0)) (.c 0) (.c 0)) (.v 30) (.c 1) (.c 5) (.c 0) (.c 0)) (.v 30) (.c 2) (.c 0) (.c 0) (.c 0)) (.v 30) (.c 3) (.c 0) (.c 0) (.c 0)) (.v 30) (.c 4) (.c 0) (.c 0) (.c 0)) (.v 30) (.c 5) (.c 0) (.c 0) (.c 0)) (.v 30) (.c 6) (.c 0) (.c 0) (.c 0)) (.v 30) (.c 7) (.c 0) (.c 0) (.c 0))),(34,(.d 0)),(50,(.c 1)),(37,(.op .add (.v 30) (.c 1)))],[]⟩,[(2,2),(5,5)],[],[]⟩;.cut ([((.le (.c 1) (.d 0)),.true),((.lt (.v 7) x0_),.false),((.eq x0_ (.c 0)),.false),((.eq (.ap 3 (.v 0) (.v 30) (.c 1) (.c 0) (.c 0) (.c 0)) (.c 1)),.true),((.lt (.v 30) (.v 1)),.true),((.le (.v 7) (.c 1099511627776)),.true),((.le (.c 0) (.v 7)),.true),((.eq (.ap 22 (.v 0) (.v 1) (.v 4) (.v 5) (.v 6) (.c 0)) (.c 0)),.true),((.le (.v 1) (.v 3)),.true),((.le (.c 0) (.v 3)),.true)]) 3 i_ [] (shT rLat_T3 i_))]
def rLat_L3:List Lf:=
 let x0_:SI:=(.ap 3 (.v 0) (.v 30) (.c 4) (.c 0) (.c 0) (.c 0))
 let x1_:SI:=(.ap 3 (.v 0) (.v 37) (.c 1) (.c 0) (.c 0) (.c 0))
 let x2_:SI:=(.ap 3 (.v 0) (.v 37) (.c 4) (.c 0) (.c 0) (.c 0))
 let x3_:SI:=(.ap 24 (.v 0) (.v 1) (.v 7) (.c 0) (.c 0) (.c 0))
 let f0_:List (SB×Bool):=[((.lt (.v 7) x0_),.false),((.eq x0_ (.c 0)),.false),((.eq (.ap 3 (.v 0) (.v 30) (.c 1) (.c 0) (.c 0) (.c 0)) (.c 1)),.true),((.lt (.v 30) (.v 1)),.true),((.le (.v 7) (.c 1099511627776)),.true),((.le (.c 0) (.v 7)),.true),((.eq (.ap 22 (.v 0) (.v 1) (.v 4) (.v 5) (.v 6) (.c 0)) (.c 0)),.true),((.le (.v 1) (.v 3)),.true),((.le (.c 0) (.v 3)),.true),((.le (.v 50) (.v 34)),.true)]
 let f1_:List (SB×Bool):=((.lt (.v 37) (.v 1)),.true)::f0_
 let f2_:List (SB×Bool):=((.le (.c 0) (.v 37)),.true)::f1_
 let f3_:List (SB×Bool):=((.eq x1_ (.c 1)),.true)::f2_
 let f4_:List (SB×Bool):=((.eq x2_ (.c 0)),.false)::f3_
 [(let i_:In:=⟨⟨[(51,(.v 51)),(52,(.v 52)),(34,(.v 34)),(50,(.v 50)),(37,(.op .add (.v 37) (.c 1)))],[]⟩,[(2,2),(5,5)],[],[]⟩;.cut (((.eq x2_ (.c 0)),.true)::f3_) 3 i_ [] (shT rLat_T3 i_)),
  (let i_:In:=⟨⟨[(51,(.v 51)),(52,(.v 52)),(34,(.v 34)),(50,(.v 50)),(37,(.op .add (.v 37) (.c 1)))],[]⟩,[(2,2),(5,5)],[],[]⟩;.cut (((.lt (.v 7) x2_),.true)::f4_) 3 i_ [] (shT rLat_T3 i_)),
  (.cut (((.lt (.v 7) x2_),.false)::f4_) 4 ⟨⟨[(59,(.v 50))],[]⟩,[(2,2),(5,5)],[],[]⟩ [] (shT rLat_T4 ⟨⟨[(59,(.v 50))],[]⟩,[(2,2),(5,5)],[],[]⟩)),
  (let i_:In:=⟨⟨[(51,(.v 51)),(52,(.v 52)),(34,(.v 34)),(50,(.v 50)),(37,(.op .add (.v 37) (.c 1)))],[]⟩,[(2,2),(5,5)],[],[]⟩;.cut (((.eq x1_ (.c 1)),.false)::f2_) 3 i_ [] (shT rLat_T3 i_)),
  (.bad (((.le (.c 0) (.v 37)),.false)::f1_)),
  (.fin (((.lt (.v 37) (.v 1)),.false)::f0_) 2 ⟨⟨[],[]⟩,[(1,5),(0,2)],[(1,(.v 34)),(0,(.v 28))],[]⟩ [(.ei (.ap 24 (.v 0) (.v 1) (.v 7) (.c 0) (.c 0) (.c 0)) (.v 50)),(.ar [(.nt .i64),(.nt .i64),(.nt .i64),(.nt .i64),(.nt .i64),(.nt .i64),(.nt .i64),(.nt .u64)] (.ap 23 (.v 0) (.v 1) (.v 7) (.c 0) (.c 0) (.c 0)) (.v 52) (.v 1)),(.ar [(.nt .i64)] (.ap 25 (.v 0) (.v 1) (.v 7) (.c 0) (.c 0) (.c 0)) (.v 51) (.ap 24 (.v 0) (.v 1) (.v 7) (.c 0) (.c 0) (.c 0))),(.fa (.le x3_ (.v 50)) .true),(.fa (.le (.v 1) (.v 28)) .true),(.fa (.le x3_ (.v 34)) .true)] [.none,.none])]
def rLat_L4:List Lf:=
 let x0_:SI:=(.op .add (.v 59) (.c 1))
 let x1_:SI:=(.op .add (.v 59) (.c (-1)))
 let x2_:SI:=(.ap 3 (.v 0) (.v 37) (.c 4) (.c 0) (.c 0) (.c 0))
 let x3_:SI:=(.ap 3 (.v 0) (.v 30) (.c 4) (.c 0) (.c 0) (.c 0))
 let x4_:SI:=(.ap 8 (.v 51) (.v 59) (.c 0) (.v 37) (.c 0) (.c 0))
 let x5_:SI:=(.ap 3 (.v 51) x1_ (.c 0) (.c 0) (.c 0) (.c 0))
 let x6_:SI:=(.ap 3 (.v 0) x5_ (.c 4) (.c 0) (.c 0) (.c 0))
 let x7_:SI:=(.ap 8 (.ap 8 (.ap 8 (.ap 8 (.ap 8 (.ap 8 (.ap 8 (.v 52) (.v 37) (.c 0) (.ap 3 (.v 0) (.v 37) (.c 0) (.c 0) (.c 0) (.c 0)) (.c 0) (.c 0)) (.v 37) (.c 1) (.c 5) (.c 0) (.c 0)) (.v 37) (.c 2) (.c 0) (.c 0) (.c 0)) (.v 37) (.c 3) (.c 0) (.c 0) (.c 0)) (.v 37) (.c 4) (.c 0) (.c 0) (.c 0)) (.v 37) (.c 5) (.c 0) (.c 0) (.c 0)) (.v 37) (.c 6) (.c 0) (.c 0) (.c 0))
 let f0_:List (SB×Bool):=[((.lt (.v 7) x2_),.false),((.eq x2_ (.c 0)),.false),((.eq (.ap 3 (.v 0) (.v 37) (.c 1) (.c 0) (.c 0) (.c 0)) (.c 1)),.true),((.le (.c 0) (.v 37)),.true),((.lt (.v 37) (.v 1)),.true),((.lt (.v 7) x3_),.false),((.eq x3_ (.c 0)),.false),((.eq (.ap 3 (.v 0) (.v 30) (.c 1) (.c 0) (.c 0) (.c 0)) (.c 1)),.true),((.lt (.v 30) (.v 1)),.true),((.le (.v 7) (.c 1099511627776)),.true),((.le (.c 0) (.v 7)),.true),((.eq (.ap 22 (.v 0) (.v 1) (.v 4) (.v 5) (.v 6) (.c 0)) (.c 0)),.true),((.le (.v 1) (.v 3)),.true),((.le (.c 0) (.v 3)),.true),((.le (.v 50) (.v 34)),.true)]
 let f1_:List (SB×Bool):=((.lt (.c 0) (.v 59)),.true)::f0_
 let f2_:List (SB×Bool):=((.lt x1_ (.v 50)),.true)::f1_
 let f3_:List (SB×Bool):=((.le (.c 0) x5_),.true)::f2_
 let f4_:List (SB×Bool):=((.lt x5_ (.v 1)),.true)::f3_
 let f5_:List (SB×Bool):=((.lt x2_ x6_),.false)::f4_
 [(let i_:In:=⟨⟨[(59,(.op .add (.v 59) (.c (-1))))],[]⟩,[(2,2),(5,5)],[],[]⟩;.cut (((.lt x2_ x6_),.true)::f4_) 4 i_ [] (shT rLat_T4 i_)),
  (let i_:In:=⟨⟨[(51,(.ap 8 (.v 51) (.v 59) (.c 0) (.v 37) (.c 0) (.c 0))),(52,(.ap 8 x7_ (.v 37) (.c 7) (.c 0) (.c 0) (.c 0))),(34,(.d 1)),(50,(.op .add (.v 59) (.c 1))),(37,(.op .add (.v 37) (.c 1)))],[]⟩,[(2,2),(5,9)],[],[]⟩;.cut (((.le x0_ (.d 1)),.true)::((.le (.v 59) (.d 0)),.true)::((.eq (.v 50) (.v 59)),.true)::f5_) 3 i_ [(.rn (.op .add (.v 59) (.c 1)) 1 64)] (shT rLat_T3 i_)),
  (let i_:In:=⟨⟨[(51,(.ap 9 x4_ x0_ (.v 51) (.v 59) (.op .sub (.v 50) (.v 59)) (.c 0))),(52,(.ap 8 x7_ (.v 37) (.c 7) (.c 0) (.c 0) (.c 0))),(34,(.d 2)),(50,(.op .add (.v 50) (.c 1))),(37,(.op .add (.v 37) (.c 1)))],[]⟩,[(2,2),(5,10)],[],[]⟩;.cut (((.le (.op .add (.v 50) (.c 1)) (.d 2)),.true)::((.le x0_ (.d 1)),.true)::((.le (.v 59) (.d 0)),.true)::((.eq (.v 50) (.v 59)),.false)::f5_) 3 i_ [(.rn (.op .add (.v 50) (.c 1)) 1 64)] (shT rLat_T3 i_)),
  (.bad (((.lt x5_ (.v 1)),.false)::f3_)),
  (.bad (((.le (.c 0) x5_),.false)::f2_)),
  (.bad (((.lt x1_ (.v 50)),.false)::f1_)),
  (let i_:In:=⟨⟨[(51,(.ap 9 x4_ x0_ (.v 51) (.v 59) (.op .sub (.v 50) (.v 59)) (.c 0))),(52,(.ap 8 x7_ (.v 37) (.c 7) (.c 0) (.c 0) (.c 0))),(34,(.d 1)),(50,(.op .add (.v 50) (.c 1))),(37,(.op .add (.v 37) (.c 1)))],[]⟩,[(2,2),(5,9)],[],[]⟩;.cut (((.le (.op .add (.v 50) (.c 1)) (.d 1)),.true)::((.le x0_ (.d 0)),.true)::((.lt (.c 0) (.v 59)),.false)::f0_) 3 i_ [(.rn (.op .add (.v 50) (.c 1)) 1 64)] (shT rLat_T3 i_))]
def rLat_run (T:Tm):=(ex (ccOf Tryz.prog BF [55,53,52,54] rLat) ((fun cc=>[rMay.ent cc,rRt.ent cc]) (ccOf Tryz.prog BF [55,53,52,54] rLat)) (dw (ccOf Tryz.prog BF [55,53,52,54] rLat) ((fun cc=>[rMay.ent cc,rRt.ent cc]) (ccOf Tryz.prog BF [55,53,52,54] rLat)) 1000 4) (stopX []) 20000 T.f T.fs T.H).lfs (ccOf Tryz.prog BF [55,53,52,54] rLat) ((tm0 rLat Tryz.f19 (Tryz.f19.body.getD .skip))::[rLat_T1,rLat_T2,rLat_T3,rLat_T4]) rLat.os
theorem rLat_h0:rLat_run (tm0 rLat Tryz.f19 (Tryz.f19.body.getD .skip))=some rLat_L0:=by kernel_rfl
theorem rLat_h1:rLat_run rLat_T1=some rLat_L1:=by kernel_rfl
theorem rLat_h2:rLat_run rLat_T2=some rLat_L2:=by kernel_rfl
theorem rLat_h3:rLat_run rLat_T3=some rLat_L3:=by kernel_rfl
theorem rLat_h4:rLat_run rLat_T4=some rLat_L4:=by kernel_rfl
def rLat_inv:(Nat→Int)→(Nat→Bool)→Nat→(Nat→Int)→(Nat→Bool)→Prop:=fun iv0 _ k iv _=>match k with | 0=>True | 1=>iv0 1≤iv 28∧0≤iv 30∧iv 30≤iv0 1∧lateL (iv0 0) (iv 30) (iv0 7)=[] | 2=>iv0 1≤iv 28∧0≤iv 30∧iv 30 < iv0 1∧lateL (iv0 0) (iv 30) (iv0 7)=[] | 3=>iv0 1≤iv 28∧0≤iv 37∧iv 37≤iv0 1∧1≤iv 50∧iv 50≤64∧iv 50≤iv 34∧whI (iv0 0) (iv 51) (iv 50) (iv 37) (iv0 7)∧rowL (iv0 0) (iv 52) (iv 37) (iv0 7) | _=>iv0 1≤iv 28∧0≤iv 37∧iv 37 < iv0 1∧1≤iv 50∧iv 50≤64∧iv 50≤iv 34∧whI (iv0 0) (iv 51) (iv 50) (iv 37) (iv0 7)∧rowL (iv0 0) (iv 52) (iv 37) (iv0 7)∧0≤iv 59∧iv 59≤iv 50∧∀ t:Nat,iv 59≤(t:Int)→(t:Int) < iv 50→fl (iv0 0) (iv 37).toNat 4 < fl (iv0 0) (fl (iv 51) t 0).toNat 4
def rLat_mu:(Nat→Int)→(Nat→Bool)→Nat→(Nat→Int)→(Nat→Bool)→Nat:=fun iv0 _ k iv _=>match k with | 0=>2 ^ 90 | 1=>(iv0 1 - iv 30).toNat * 2 ^ 71+1 | 2=>(iv0 1 - iv 30).toNat * 2 ^ 71 | 3=>(iv0 1 - iv 37).toNat * 2 ^ 71+2 ^ 70 | _=>(iv0 1 - iv 37).toNat * 2 ^ 71+(iv 59).toNat
theorem rLat_b {iv0:Nat→Int} (hin:InB rLat.B iv0):(0≤iv0 1∧iv0 1≤64)∧0≤iv0 2∧((-9223372036854775808)≤iv0 4∧iv0 4≤9223372036854775807)∧((-9223372036854775808)≤iv0 5∧iv0 5≤9223372036854775807)∧((-9223372036854775808)≤iv0 6∧iv0 6≤9223372036854775807)∧((-9223372036854775808)≤iv0 7∧iv0 7≤9223372036854775807):=by
 have b1:=hin 1 0 64 (by simp [rLat,kS,slV,mayV,i64s,i64b,lmap,lS,gS,bS,fS,bdS,shV,o1,frS,stS,chS,mAS,usS,acS,erS,chE,gS2,lS2,bS2,fS2,sAcq,laS,lwS,lcS,kI1,nwB,oLat])
 simp only [Int.reduceLE,reduceIte,Int.reduceNeg] at b1
 have b2:=hin 2 0 (-1) (by simp [rLat,kS,slV,mayV,i64s,i64b,lmap,lS,gS,bS,fS,bdS,shV,o1,frS,stS,chS,mAS,usS,acS,erS,chE,gS2,lS2,bS2,fS2,sAcq,laS,lwS,lcS,kI1,nwB,oLat])
 simp only [Int.reduceLE,reduceIte,Int.reduceNeg] at b2
 have b4:=hin 4 (-9223372036854775808) 9223372036854775807 (by simp [rLat,kS,slV,mayV,i64s,i64b,lmap,lS,gS,bS,fS,bdS,shV,o1,frS,stS,chS,mAS,usS,acS,erS,chE,gS2,lS2,bS2,fS2,sAcq,laS,lwS,lcS,kI1,nwB,oLat])
 simp only [Int.reduceLE,reduceIte,Int.reduceNeg] at b4
 have b5:=hin 5 (-9223372036854775808) 9223372036854775807 (by simp [rLat,kS,slV,mayV,i64s,i64b,lmap,lS,gS,bS,fS,bdS,shV,o1,frS,stS,chS,mAS,usS,acS,erS,chE,gS2,lS2,bS2,fS2,sAcq,laS,lwS,lcS,kI1,nwB,oLat])
 simp only [Int.reduceLE,reduceIte,Int.reduceNeg] at b5
 have b6:=hin 6 (-9223372036854775808) 9223372036854775807 (by simp [rLat,kS,slV,mayV,i64s,i64b,lmap,lS,gS,bS,fS,bdS,shV,o1,frS,stS,chS,mAS,usS,acS,erS,chE,gS2,lS2,bS2,fS2,sAcq,laS,lwS,lcS,kI1,nwB,oLat])
 simp only [Int.reduceLE,reduceIte,Int.reduceNeg] at b6
 have b7:=hin 7 (-9223372036854775808) 9223372036854775807 (by simp [rLat,kS,slV,mayV,i64s,i64b,lmap,lS,gS,bS,fS,bdS,shV,o1,frS,stS,chS,mAS,usS,acS,erS,chE,gS2,lS2,bS2,fS2,sAcq,laS,lwS,lcS,kI1,nwB,oLat])
 simp only [Int.reduceLE,reduceIte,Int.reduceNeg] at b7
 exact ⟨b1,b2.1,b4,b5,b6,b7⟩
def rLat_ob (k:Nat) (l:List Lf):Prop:=∀ (kv:Kv) (iv0:Nat→Int) (bv0:Nat→Bool),InB rLat.B iv0→FT (sta FI FB kv iv0 bv0) (dlt dyn0) rLat.F→∀ (iv:Nat→Int) (bv:Nat→Bool),Agr 8 iv0 bv0 iv bv→rLat_inv iv0 bv0 k iv bv→∀ lf∈l,LfT (sta FI FB kv) rLat.os (rLat_inv iv0 bv0) (rLat_mu iv0 bv0) k iv bv lf
theorem rLat_o0:rLat_ob 0 rLat_L0:=by
 intro kv iv0 bv0 hin hF iv bv ha hi
 unfold rLat_L0
 refine List.forall_mem_cons.2 ⟨?_,List.forall_mem_cons.2 ⟨?_,List.forall_mem_cons.2 ⟨?_,List.forall_mem_cons.2 ⟨?_,List.forall_mem_nil _⟩⟩⟩⟩
 all_goals
  intro δ hf
 all_goals
  obtain ⟨b1,b2,b4,b5,b6,b7⟩:=rLat_b hin
 all_goals
  have a0:=ha.1 0 (by omega)
  have a1:=ha.1 1 (by omega)
  have a2:=ha.1 2 (by omega)
  have a3:=ha.1 3 (by omega)
  have a4:=ha.1 4 (by omega)
  have a5:=ha.1 5 (by omega)
  have a6:=ha.1 6 (by omega)
  have a7:=ha.1 7 (by omega)
 all_goals
  simp only [FT,TP,SB.tp,SI.tv,sta,IB.eval,and_true,true_and,ObsT,Ob.Tv,rowT,kix,In.tiv,↓tbvT,In.tbv,get_cons,get_nil,reduceIte,Nat.reduceEqDiff,Int.reduceToNat,Int.reduceAdd,Int.reduceSub,Int.reduceLE,Int.reduceLT,Int.reduceEq,ne_eq,Bool.false_eq_true,not_true_eq_false,not_false_eq_true,true_iff,false_iff,iff_true,iff_false,false_implies,implies_true,decT,decide_true,decide_false,Bool.decide_eq_true,ap2,pb2,FI_3,FI_3u,FI_8,FI_9,FI_3g,FI_3k,FI_8s,FI_8l,FI_8d,FB_1h,FB_1a,Int.toNat_natCast,Int.toNat_zero,FI_22,FI_23,FI_24,FI_25,FB_22,FB_23,FB_24,rLat_inv,rLat_mu,rLat,o1,othT,kS,slV,mayV,i64s,i64b,lmap,lS,gS,bS,fS,bdS,shV,o1,frS,stS,chS,mAS,usS,acS,erS,chE,gS2,lS2,bS2,fS2,sAcq,laS,lwS,lcS,kI1,nwB,oLat,a0,a1,a2,a3,a4,a5,a6,a7] at hf hi ⊢
 all_goals
  (repeat' (with_reducible apply And.intro))<;>first
  | omega
  | assumption
  | (unfold inM;omega)
  | exact trivial
  | (exact lateM_mem0)
  | (intro _ h;exact h ⟨by omega,by omega,by omega⟩)
  | (clear hin hF ha;grind)
theorem rLat_o1:rLat_ob 1 rLat_L1:=by
 intro kv iv0 bv0 hin hF iv bv ha hi
 unfold rLat_L1
 refine List.forall_mem_cons.2 ⟨?_,List.forall_mem_cons.2 ⟨?_,List.forall_mem_cons.2 ⟨?_,List.forall_mem_cons.2 ⟨?_,List.forall_mem_cons.2 ⟨?_,List.forall_mem_nil _⟩⟩⟩⟩⟩
 all_goals
  intro δ hf
 all_goals
  obtain ⟨b1,b2,b4,b5,b6,b7⟩:=rLat_b hin
 all_goals
  have a0:=ha.1 0 (by omega)
  have a1:=ha.1 1 (by omega)
  have a2:=ha.1 2 (by omega)
  have a3:=ha.1 3 (by omega)
  have a4:=ha.1 4 (by omega)
  have a5:=ha.1 5 (by omega)
  have a6:=ha.1 6 (by omega)
  have a7:=ha.1 7 (by omega)
 all_goals
  simp only [FT,TP,SB.tp,SI.tv,sta,IB.eval,and_true,true_and,ObsT,Ob.Tv,rowT,kix,In.tiv,↓tbvT,In.tbv,get_cons,get_nil,reduceIte,Nat.reduceEqDiff,Int.reduceToNat,Int.reduceAdd,Int.reduceSub,Int.reduceLE,Int.reduceLT,Int.reduceEq,ne_eq,Bool.false_eq_true,not_true_eq_false,not_false_eq_true,true_iff,false_iff,iff_true,iff_false,false_implies,implies_true,decT,decide_true,decide_false,Bool.decide_eq_true,ap2,pb2,FI_3,FI_3u,FI_8,FI_9,FI_3g,FI_3k,FI_8s,FI_8l,FI_8d,FB_1h,FB_1a,Int.toNat_natCast,Int.toNat_zero,FI_22,FI_23,FI_24,FI_25,FB_22,FB_23,FB_24,rLat_inv,rLat_mu,rLat,o1,othT,kS,slV,mayV,i64s,i64b,lmap,lS,gS,bS,fS,bdS,shV,o1,frS,stS,chS,mAS,usS,acS,erS,chE,gS2,lS2,bS2,fS2,sAcq,laS,lwS,lcS,kI1,nwB,oLat,a0,a1,a2,a3,a4,a5,a6,a7] at hf hi ⊢
 all_goals
  obtain ⟨gc,g0,g1,g2⟩:=hi
 all_goals
  have e1:¬ (fl (iv0 0) (iv 30).toNat 1=1∧fl (iv0 0) (iv 30).toNat 4≠0∧fl (iv0 0) (iv 30).toNat 4≤iv0 7)→lateL (iv0 0) (iv 30+1) (iv0 7)=[]:=fun h=>by rw [late_skip g0 h];exact g2
 all_goals
  have e0:iv 30=iv0 1→latN (iv0 0) (iv0 1) (iv0 7)=0:=fun e=>wh_nil (by omega) (e ▸ g2)
 all_goals
  have eR:iv 30=iv0 1→eqR (latC (iv0 0) (iv0 1) (iv0 7)) (iv0 0) (iv0 1):=fun e=>rowL_end (rowL_nil (by omega) (e ▸ g2))
 all_goals
  (repeat' (with_reducible apply And.intro))<;>first
  | omega
  | assumption
  | (unfold inM;omega)
  | exact trivial
  | (exact e1 (by omega))
  | (exact fun j hj=>eqR_row (eR (by omega)) hj)
  | (have:=e0 (by omega);omega)
  | (intro _ h;exact h ⟨by omega,by omega,by omega⟩)
  | (intro _ h;have:=e0 (by omega);omega)
theorem rLat_o2:rLat_ob 2 rLat_L2:=by
 intro kv iv0 bv0 hin hF iv bv ha hi
 unfold rLat_L2
 refine List.forall_mem_cons.2 ⟨?_,List.forall_mem_nil _⟩
 all_goals
  intro δ hf
 all_goals
  obtain ⟨b1,b2,b4,b5,b6,b7⟩:=rLat_b hin
 all_goals
  have a0:=ha.1 0 (by omega)
  have a1:=ha.1 1 (by omega)
  have a2:=ha.1 2 (by omega)
  have a3:=ha.1 3 (by omega)
  have a4:=ha.1 4 (by omega)
  have a5:=ha.1 5 (by omega)
  have a6:=ha.1 6 (by omega)
  have a7:=ha.1 7 (by omega)
 all_goals
  simp only [FT,TP,SB.tp,SI.tv,sta,IB.eval,and_true,true_and,ObsT,Ob.Tv,rowT,kix,In.tiv,↓tbvT,In.tbv,get_cons,get_nil,reduceIte,Nat.reduceEqDiff,Int.reduceToNat,Int.reduceAdd,Int.reduceSub,Int.reduceLE,Int.reduceLT,Int.reduceEq,ne_eq,Bool.false_eq_true,not_true_eq_false,not_false_eq_true,true_iff,false_iff,iff_true,iff_false,false_implies,implies_true,decT,decide_true,decide_false,Bool.decide_eq_true,ap2,pb2,FI_3,FI_3u,FI_8,FI_9,FI_3g,FI_3k,FI_8s,FI_8l,FI_8d,FB_1h,FB_1a,Int.toNat_natCast,Int.toNat_zero,FI_22,FI_23,FI_24,FI_25,FB_22,FB_23,FB_24,rLat_inv,rLat_mu,rLat,o1,othT,kS,slV,mayV,i64s,i64b,lmap,lS,gS,bS,fS,bdS,shV,o1,frS,stS,chS,mAS,usS,acS,erS,chE,gS2,lS2,bS2,fS2,sAcq,laS,lwS,lcS,kI1,nwB,oLat,a0,a1,a2,a3,a4,a5,a6,a7] at hf hi ⊢
 all_goals
  obtain ⟨gc,g0,g1,g2⟩:=hi
 all_goals
  have hp:fl (iv0 0) (iv 30).toNat 1=1∧fl (iv0 0) (iv 30).toNat 4≠0∧fl (iv0 0) (iv 30).toNat 4≤iv0 7:=by omega
 all_goals
  have e1:=wh_1 g2 g0 (by omega) hp
 all_goals
  have e2:=rowL_set (rowL_nil g0 g2) g0 hp
 all_goals
  (repeat' (with_reducible apply And.intro))<;>first
  | omega
  | assumption
  | (unfold inM;omega)
  | exact trivial
  | (exact e1)
  | (exact e2)
  | (rw [fl_set0 _ _ _ (by unfold in64;omega),if_pos (by simp)])
  | (clear hin hF ha;grind)
theorem rLat_o3:rLat_ob 3 rLat_L3:=by
 intro kv iv0 bv0 hin hF iv bv ha hi
 unfold rLat_L3
 refine List.forall_mem_cons.2 ⟨?_,List.forall_mem_cons.2 ⟨?_,List.forall_mem_cons.2 ⟨?_,List.forall_mem_cons.2 ⟨?_,List.forall_mem_cons.2 ⟨?_,List.forall_mem_cons.2 ⟨?_,List.forall_mem_nil _⟩⟩⟩⟩⟩⟩
 all_goals
  intro δ hf
 all_goals
  obtain ⟨b1,b2,b4,b5,b6,b7⟩:=rLat_b hin
 all_goals
  have a0:=ha.1 0 (by omega)
  have a1:=ha.1 1 (by omega)
  have a2:=ha.1 2 (by omega)
  have a3:=ha.1 3 (by omega)
  have a4:=ha.1 4 (by omega)
  have a5:=ha.1 5 (by omega)
  have a6:=ha.1 6 (by omega)
  have a7:=ha.1 7 (by omega)
 all_goals
  simp only [FT,TP,SB.tp,SI.tv,sta,IB.eval,and_true,true_and,ObsT,Ob.Tv,rowT,kix,In.tiv,↓tbvT,In.tbv,get_cons,get_nil,reduceIte,Nat.reduceEqDiff,Int.reduceToNat,Int.reduceAdd,Int.reduceSub,Int.reduceLE,Int.reduceLT,Int.reduceEq,ne_eq,Bool.false_eq_true,not_true_eq_false,not_false_eq_true,true_iff,false_iff,iff_true,iff_false,false_implies,implies_true,decT,decide_true,decide_false,Bool.decide_eq_true,ap2,pb2,FI_3,FI_3u,FI_8,FI_9,FI_3g,FI_3k,FI_8s,FI_8l,FI_8d,FB_1h,FB_1a,Int.toNat_natCast,Int.toNat_zero,FI_22,FI_23,FI_24,FI_25,FB_22,FB_23,FB_24,rLat_inv,rLat_mu,rLat,o1,othT,kS,slV,mayV,i64s,i64b,lmap,lS,gS,bS,fS,bdS,shV,o1,frS,stS,chS,mAS,usS,acS,erS,chE,gS2,lS2,bS2,fS2,sAcq,laS,lwS,lcS,kI1,nwB,oLat,a0,a1,a2,a3,a4,a5,a6,a7] at hf hi ⊢
 all_goals
  obtain ⟨gc,g0,g1,g3,g4,g5,g6,g7⟩:=hi
 all_goals
  have e1:=fun h:¬ (fl (iv0 0) (iv 37).toNat 1=1∧fl (iv0 0) (iv 37).toNat 4≠0∧fl (iv0 0) (iv 37).toNat 4≤iv0 7)=>wh_skip g6 g0 h
 all_goals
  have e2:=fun h:¬ (fl (iv0 0) (iv 37).toNat 1=1∧fl (iv0 0) (iv 37).toNat 4≠0∧fl (iv0 0) (iv 37).toNat 4≤iv0 7)=>rowL_skip g7 g0 h
 all_goals
  have e0:iv 37=iv0 1→_:=fun e=>wh_end (c:=iv0 0) (w:=iv 51) (m:=iv 50) (n:=iv0 1) (now:=iv0 7) (by omega) (e ▸ g6)
 all_goals
  have eR:iv 37=iv0 1→eqR (latC (iv0 0) (iv0 1) (iv0 7)) (iv 52) (iv0 1):=fun e=>rowL_end (e ▸ g7)
 all_goals
  (repeat' (with_reducible apply And.intro))<;>first
  | omega
  | assumption
  | (unfold inM;omega)
  | exact trivial
  | (exact e1 (by omega))
  | (exact e2 (by omega))
  | (exact fun j hj=>eqR_row (eR (by omega)) hj)
  | (have:=(e0 (by omega)).1;omega)
  | (intro t ht;have h0:=e0 (by omega);rw [fl_latW ht];exact h0.2 t (by omega))
  | (intro _ h;exact h ⟨by omega,by omega,by omega⟩)
  | (intro t h1 h2;omega)
  | (intro _ h;have:=(e0 (by omega)).1;omega)
theorem rLat_o4:rLat_ob 4 rLat_L4:=by
 intro kv iv0 bv0 hin hF iv bv ha hi
 unfold rLat_L4
 refine List.forall_mem_cons.2 ⟨?_,List.forall_mem_cons.2 ⟨?_,List.forall_mem_cons.2 ⟨?_,List.forall_mem_cons.2 ⟨?_,List.forall_mem_cons.2 ⟨?_,List.forall_mem_cons.2 ⟨?_,List.forall_mem_cons.2 ⟨?_,List.forall_mem_nil _⟩⟩⟩⟩⟩⟩⟩
 all_goals
  intro δ hf
 all_goals
  obtain ⟨b1,b2,b4,b5,b6,b7⟩:=rLat_b hin
 all_goals
  have a0:=ha.1 0 (by omega)
  have a1:=ha.1 1 (by omega)
  have a2:=ha.1 2 (by omega)
  have a3:=ha.1 3 (by omega)
  have a4:=ha.1 4 (by omega)
  have a5:=ha.1 5 (by omega)
  have a6:=ha.1 6 (by omega)
  have a7:=ha.1 7 (by omega)
 all_goals
  simp only [FT,TP,SB.tp,SI.tv,sta,IB.eval,and_true,true_and,ObsT,Ob.Tv,rowT,kix,In.tiv,↓tbvT,In.tbv,get_cons,get_nil,reduceIte,Nat.reduceEqDiff,Int.reduceToNat,Int.reduceAdd,Int.reduceSub,Int.reduceLE,Int.reduceLT,Int.reduceEq,ne_eq,Bool.false_eq_true,not_true_eq_false,not_false_eq_true,true_iff,false_iff,iff_true,iff_false,false_implies,implies_true,decT,decide_true,decide_false,Bool.decide_eq_true,ap2,pb2,FI_3,FI_3u,FI_8,FI_9,FI_3g,FI_3k,FI_8s,FI_8l,FI_8d,FB_1h,FB_1a,Int.toNat_natCast,Int.toNat_zero,FI_22,FI_23,FI_24,FI_25,FB_22,FB_23,FB_24,rLat_inv,rLat_mu,rLat,o1,othT,kS,slV,mayV,i64s,i64b,lmap,lS,gS,bS,fS,bdS,shV,o1,frS,stS,chS,mAS,usS,acS,erS,chE,gS2,lS2,bS2,fS2,sAcq,laS,lwS,lcS,kI1,nwB,oLat,a0,a1,a2,a3,a4,a5,a6,a7] at hf hi ⊢
 all_goals
  obtain ⟨gc,g0,g1,g3,g4,g5,g6,g7,g8,g9,gA⟩:=hi
 all_goals
  have hp:fl (iv0 0) (iv 37).toNat 1=1∧fl (iv0 0) (iv 37).toNat 4≠0∧fl (iv0 0) (iv 37).toNat 4≤iv0 7:=by omega
 all_goals
  have e1:=fun hb=>wh_ins g6 g0 (by omega) hp g8 g9 gA hb
 all_goals
  have e2:=rowL_set g7 g0 hp
 all_goals
  have e3:=wh_le g6 g0
 all_goals
  have e4:=fun h0 h=>ge_step (i:=iv 37) gA h0 h
 all_goals
  have hm:=fun h=>wh_mem g6 (t:=(iv 59 - 1).toNat) h
 all_goals
  have hm2:=fun h=>wh_mem g6 (t:=(iv 59+-1).toNat) h
 all_goals
  have e5:=fun hb=>wh_push g6 g0 (by omega) hp hb
 all_goals
  (repeat' (with_reducible apply And.intro))<;>first
  | omega
  | assumption
  | (unfold inM;omega)
  | exact trivial
  | (exact e2)
  | (exact e1 (fun h=>by omega))
  | (exact e1 (fun h=>by rw [show iv 59 - 1=iv 59+-1 from by omega];omega))
  | (have q:=e4 (by omega) (by rw [show iv 59 - 1=iv 59+-1 from by omega];omega);intro t h1 h2;exact q t (by omega) h2)
  | (have q:=hm2 (by omega);omega)
  | (have q:=e5 (fun h=>by rw [show iv 50 - 1=iv 59+-1 from by omega];omega);rw [show iv 59=iv 50 from by omega];exact q)
  | (exact e5 (fun h=>by rw [show iv 50 - 1=iv 59+-1 from by omega];omega))
  | (clear hin hF ha;grind)
theorem rLat_c:LsC ((tm0 rLat Tryz.f19 (Tryz.f19.body.getD .skip))::[rLat_T1,rLat_T2,rLat_T3,rLat_T4]) rLat.os [rLat_L0,rLat_L1,rLat_L2,rLat_L3,rLat_L4]:=by
 unfold rLat_L0 rLat_L1 rLat_L2 rLat_L3 rLat_L4
 exact ⟨List.forall_mem_cons.2 ⟨⟨⟨_,rfl,rfl⟩,by kernel_rfl⟩,List.forall_mem_cons.2 ⟨⟨⟨_,rfl,rfl⟩,by kernel_rfl⟩,List.forall_mem_cons.2 ⟨⟨⟨_,rfl,rfl⟩,by kernel_rfl⟩,List.forall_mem_cons.2 ⟨⟨⟨_,rfl,rfl⟩,by kernel_rfl⟩,List.forall_mem_nil _⟩⟩⟩⟩,List.forall_mem_cons.2 ⟨⟨⟨_,rfl,rfl⟩,by kernel_rfl⟩,List.forall_mem_cons.2 ⟨⟨⟨_,rfl,rfl⟩,by kernel_rfl⟩,List.forall_mem_cons.2 ⟨⟨⟨_,rfl,rfl⟩,by kernel_rfl⟩,List.forall_mem_cons.2 ⟨⟨⟨_,rfl,rfl⟩,by kernel_rfl⟩,List.forall_mem_cons.2 ⟨⟨⟨_,rfl,rfl⟩,by kernel_rfl⟩,List.forall_mem_nil _⟩⟩⟩⟩⟩,List.forall_mem_cons.2 ⟨⟨⟨_,rfl,rfl⟩,by kernel_rfl⟩,List.forall_mem_nil _⟩,List.forall_mem_cons.2 ⟨⟨⟨_,rfl,rfl⟩,by kernel_rfl⟩,List.forall_mem_cons.2 ⟨⟨⟨_,rfl,rfl⟩,by kernel_rfl⟩,List.forall_mem_cons.2 ⟨⟨⟨_,rfl,rfl⟩,by kernel_rfl⟩,List.forall_mem_cons.2 ⟨⟨⟨_,rfl,rfl⟩,by kernel_rfl⟩,List.forall_mem_cons.2 ⟨trivial,List.forall_mem_cons.2 ⟨⟨⟨_,rfl,rfl⟩,by kernel_rfl⟩,List.forall_mem_nil _⟩⟩⟩⟩⟩⟩,List.forall_mem_cons.2 ⟨⟨⟨_,rfl,rfl⟩,by kernel_rfl⟩,List.forall_mem_cons.2 ⟨⟨⟨_,rfl,rfl⟩,by kernel_rfl⟩,List.forall_mem_cons.2 ⟨⟨⟨_,rfl,rfl⟩,by kernel_rfl⟩,List.forall_mem_cons.2 ⟨trivial,List.forall_mem_cons.2 ⟨trivial,List.forall_mem_cons.2 ⟨trivial,List.forall_mem_cons.2 ⟨⟨⟨_,rfl,rfl⟩,by kernel_rfl⟩,List.forall_mem_nil _⟩⟩⟩⟩⟩⟩⟩,trivial⟩
theorem rLat_ok:rLat.Ok Tryz.prog FI FB:=
 Con.of_plain (body:=Tryz.f19.body.getD .skip) pok fiok (EntsFor.cons rMay_ok (EntsFor.cons rRt_ok EntsFor.nil)) rLat Tryz.func19 (by kernel_rfl) 8 [rLat_T1,rLat_T2,rLat_T3,rLat_T4] (by kernel_rfl) [rLat_L0,rLat_L1,rLat_L2,rLat_L3,rLat_L4] ⟨rLat_h0,rLat_h1,rLat_h2,rLat_h3,rLat_h4,trivial⟩ rLat_c
  rLat_inv rLat_mu (fun _ _ _=>trivial) fun kv iv0 bv0 hin hF k l iv bv hk ha hi=>match k,hk,hi with
  | 0,hk,hi=>by
    cases hk
    exact rLat_o0 kv iv0 bv0 hin hF iv bv ha hi
  | 1,hk,hi=>by
    cases hk
    exact rLat_o1 kv iv0 bv0 hin hF iv bv ha hi
  | 2,hk,hi=>by
    cases hk
    exact rLat_o2 kv iv0 bv0 hin hF iv bv ha hi
  | 3,hk,hi=>by
    cases hk
    exact rLat_o3 kv iv0 bv0 hin hF iv bv ha hi
  | 4,hk,hi=>by
    cases hk
    exact rLat_o4 kv iv0 bv0 hin hF iv bv ha hi
  | k+5,hk,_=>by simp at hk
end
end Go.Sx.Sl
