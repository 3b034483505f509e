/- Slots: SlotLates, by contract. -/
import Derived.Test.YtobmggabgicpgaaGreatSlX
namespace Go.Sx.Sl
set_option linter.unusedVariables false
set_option linter.unusedSimpArgs false
set_option maxRecDepth 100000
set_option maxHeartbeats 0
noncomputable section
open Go Go.Sx Go.Sx.Ti Go.Proofs
theorem pok2:POk Tryz.prog [55,53,52,54,60,59]:=POk.of (by kernel_rfl) (by kernel_rfl) (by kernel_rfl)
def bY:List (Nat×Int×Int):=[i64b 4,i64b 5,i64b 6,i64b 7,i64b 8,(1,0,9223372036854775807),(2,0,-1)]
def wY:SV:=.ag [.it .i64 (.v 7),.it .i64 (.v 8)]
def lLat:Con:=⟨4,[0,1,2,3,4,5,6,7,8],[shV,lS,wY],gS,bY,fS,o1 (.bo (.c true))⟩
def lLat0:Con:=⟨4,[4,5,6,7,8],[shV,.sn,wY],[],[i64b 4,i64b 5,i64b 6,i64b 7,i64b 8],[],o1 (.bo (.c true))⟩
theorem lateP_congr {c d n now:Int} (h:eqR c d n) {j:Nat} (hj:(j:Int) < n):lateP c now j↔lateP d now j:=by
 obtain ⟨h1,_⟩:=h j hj
 unfold lateP;rw [h1 1 (by omega),h1 4 (by omega)]
theorem lateL_congr {c d n now:Int} (h:eqR c d n):lateL c n now=lateL d n now:=by
 refine lateL_uniq ((lateL_pw c n now).imp_of_mem fun {x y} hx hy hl=>?_) fun x=>?_
 ·have hx:=mem_lateL.1 hx
  have hy:=mem_lateL.1 hy
  have e1:=(h x.toNat (by omega)).1 4 (by omega)
  have e2:=(h y.toNat (by omega)).1 4 (by omega)
  unfold ltL at *;rw [← e1,← e2];exact hl
 ·rw [mem_lateL]
  constructor
  ·rintro ⟨h1,h2,h3⟩;exact ⟨h1,h2,(lateP_congr h (by omega)).1 h3⟩
  ·rintro ⟨h1,h2,h3⟩;exact ⟨h1,h2,(lateP_congr h (by omega)).2 h3⟩
theorem latN_congr {c d n now:Int} (h:eqR c d n) (hn:n≤64):latN c n now=latN d n now:=by unfold latN;rw [Int.min_eq_left hn,lateL_congr h]
theorem lateI_congr {c d n now:Int} (h:eqR c d n) (hn:n≤64) (j:Nat):lateI c n now j=lateI d n now j:=by unfold lateI;rw [Int.min_eq_left hn,lateL_congr h]
theorem latW_congr {c d n now:Int} (h:eqR c d n) (hn:n≤64):latW c n now=latW d n now:=by
 unfold latW;rw [latN_congr h hn];congr 1;funext j _;exact lateI_congr h hn j
theorem latC_congr {c d n now:Int} (h:eqR c d n):eqR (latC c n now) (latC d n now) n:=fun j hj=>by
 have hp:=lateP_congr (now:=now) h hj
 obtain ⟨h1,h2⟩:=h j hj
 refine ⟨fun f hf=>?_,?_⟩
 ·rw [fl_latC hj hf,fl_latC hj hf,h1 f hf,h1 0 (by omega)]
  by_cases e:lateP c now j
  ·rw [if_pos e,if_pos (hp.1 e)]
  ·rw [if_neg e,if_neg (fun hh=>e (hp.2 hh))]
 ·rw [flu_latC hj,flu_latC hj,h2]
  by_cases e:lateP c now j
  ·rw [if_pos e,if_pos (hp.1 e)]
  ·rw [if_neg e,if_neg (fun hh=>e (hp.2 hh))]
def lLat_T1:Tm:=⟨⟨4,159,[(14,(.it .i64 (.v 41))),(12,(.sl (.n 11) (.c 0) (.ap 24 (.v 0) (.v 1) (.v 7) (.c 0) (.c 0) (.c 0)) (.v 30))),(9,(.sl (.n 9) (.c 0) (.ap 24 (.ap 8 (.ap 8 (.ap 8 (.ap 8 (.ap 8 (.ap 8 (.ap 8 (.ap 8 (.v 0) (.v 1) (.c 0) (.c 77) (.c 0) (.c 0)) (.v 1) (.c 1) (.c 0) (.c 0) (.c 0)) (.v 1) (.c 2) (.c 0) (.c 0) (.c 0)) (.v 1) (.c 3) (.c 0) (.c 0) (.c 0)) (.v 1) (.c 4) (.c 0) (.c 0) (.c 0)) (.v 1) (.c 5) (.c 0) (.c 0) (.c 0)) (.v 1) (.c 6) (.c 0) (.c 0) (.c 0)) (.v 1) (.c 7) (.c 0) (.c 0) (.c 0)) (.v 1) (.v 7) (.c 0) (.c 0) (.c 0)) (.v 29))),(6,(.pt (.n 3) (.c 0))),(5,(.pt (.n 2) (.c 0))),(4,(.pt (.n 1) (.c 0)))],[(.code (atC Tryz.f4 [1,1,1,1,1,1,0,1,0,0])),(.inLoop (atC Tryz.f4 [1,1,1,1,1,1,0,1,0,0])),(.inBlock 0),(.code (atC Tryz.f4 [1,1,1,1,1,1,1]))],[],.none⟩,[],
    ⟨[(1,(.cells [(.sl (.k 0) (.v 2) (.v 1) (.v 3))] 24)),(2,(.cells [(.it .i64 (.v 7)),(.it .i64 (.v 8))] 44)),(3,(.cells [(.bo (.c .false))] 4)),(9,(.arr [(.nt .i64)] (.ap 25 (.ap 8 (.ap 8 (.ap 8 (.ap 8 (.ap 8 (.ap 8 (.ap 8 (.ap 8 (.v 0) (.v 1) (.c 0) (.c 77) (.c 0) (.c 0)) (.v 1) (.c 1) (.c 0) (.c 0) (.c 0)) (.v 1) (.c 2) (.c 0) (.c 0) (.c 0)) (.v 1) (.c 3) (.c 0) (.c 0) (.c 0)) (.v 1) (.c 4) (.c 0) (.c 0) (.c 0)) (.v 1) (.c 5) (.c 0) (.c 0) (.c 0)) (.v 1) (.c 6) (.c 0) (.c 0) (.c 0)) (.v 1) (.c 7) (.c 0) (.c 0) (.c 0)) (.v 1) (.v 7) (.c 0) (.c 0) (.c 0)) (.ap 24 (.ap 8 (.ap 8 (.ap 8 (.ap 8 (.ap 8 (.ap 8 (.ap 8 (.ap 8 (.v 0) (.v 1) (.c 0) (.c 77) (.c 0) (.c 0)) (.v 1) (.c 1) (.c 0) (.c 0) (.c 0)) (.v 1) (.c 2) (.c 0) (.c 0) (.c 0)) (.v 1) (.c 3) (.c 0) (.c 0) (.c 0)) (.v 1) (.c 4) (.c 0) (.c 0) (.c 0)) (.v 1) (.c 5) (.c 0) (.c 0) (.c 0)) (.v 1) (.c 6) (.c 0) (.c 0) (.c 0)) (.v 1) (.c 7) (.c 0) (.c 0) (.c 0)) (.v 1) (.v 7) (.c 0) (.c 0) (.c 0)) 3 (.v 29))),(11,(.arr [(.nt .i64)] (.ap 25 (.v 0) (.v 1) (.v 7) (.c 0) (.c 0) (.c 0)) (.ap 24 (.v 0) (.v 1) (.v 7) (.c 0) (.c 0) (.c 0)) 3 (.v 30)))],12,0,0,[((.ap 24 (.ap 8 (.ap 8 (.ap 8 (.ap 8 (.ap 8 (.ap 8 (.ap 8 (.ap 8 (.v 0) (.v 1) (.c 0) (.c 77) (.c 0) (.c 0)) (.v 1) (.c 1) (.c 0) (.c 0) (.c 0)) (.v 1) (.c 2) (.c 0) (.c 0) (.c 0)) (.v 1) (.c 3) (.c 0) (.c 0) (.c 0)) (.v 1) (.c 4) (.c 0) (.c 0) (.c 0)) (.v 1) (.c 5) (.c 0) (.c 0) (.c 0)) (.v 1) (.c 6) (.c 0) (.c 0) (.c 0)) (.v 1) (.c 7) (.c 0) (.c 0) (.c 0)) (.v 1) (.v 0) (.v 1) (.c 0) (.c 0)),.true),((.eq (.ap 24 (.ap 8 (.ap 8 (.ap 8 (.ap 8 (.ap 8 (.ap 8 (.ap 8 (.ap 8 (.v 0) (.v 1) (.c 0) (.c 77) (.c 0) (.c 0)) (.v 1) (.c 1) (.c 0) (.c 0) (.c 0)) (.v 1) (.c 2) (.c 0) (.c 0) (.c 0)) (.v 1) (.c 3) (.c 0) (.c 0) (.c 0)) (.v 1) (.c 4) (.c 0) (.c 0) (.c 0)) (.v 1) (.c 5) (.c 0) (.c 0) (.c 0)) (.v 1) (.c 6) (.c 0) (.c 0) (.c 0)) (.v 1) (.c 7) (.c 0) (.c 0) (.c 0)) (.v 1) (.v 7) (.c 0) (.c 0) (.c 0)) (.ap 24 (.v 0) (.v 1) (.v 7) (.c 0) (.c 0) (.c 0))),.true),((.ap 24 (.ap 23 (.ap 8 (.ap 8 (.ap 8 (.ap 8 (.ap 8 (.ap 8 (.ap 8 (.ap 8 (.v 0) (.v 1) (.c 0) (.c 77) (.c 0) (.c 0)) (.v 1) (.c 1) (.c 0) (.c 0) (.c 0)) (.v 1) (.c 2) (.c 0) (.c 0) (.c 0)) (.v 1) (.c 3) (.c 0) (.c 0) (.c 0)) (.v 1) (.c 4) (.c 0) (.c 0) (.c 0)) (.v 1) (.c 5) (.c 0) (.c 0) (.c 0)) (.v 1) (.c 6) (.c 0) (.c 0) (.c 0)) (.v 1) (.c 7) (.c 0) (.c 0) (.c 0)) (.v 1) (.v 7) (.c 0) (.c 0) (.c 0)) (.v 1) (.ap 23 (.v 0) (.v 1) (.v 7) (.c 0) (.c 0) (.c 0)) (.v 1) (.c 0) (.c 0)),.true),((.lt (.c 0) (.ap 24 (.v 0) (.v 1) (.v 7) (.c 0) (.c 0) (.c 0))),.true),((.eq (.ap 22 (.v 0) (.v 1) (.v 4) (.v 5) (.v 6) (.c 0)) (.c 0)),.true),((.lt (.c 0) (.ap 24 (.ap 8 (.ap 8 (.ap 8 (.ap 8 (.ap 8 (.ap 8 (.ap 8 (.ap 8 (.v 0) (.v 1) (.c 0) (.c 77) (.c 0) (.c 0)) (.v 1) (.c 1) (.c 0) (.c 0) (.c 0)) (.v 1) (.c 2) (.c 0) (.c 0) (.c 0)) (.v 1) (.c 3) (.c 0) (.c 0) (.c 0)) (.v 1) (.c 4) (.c 0) (.c 0) (.c 0)) (.v 1) (.c 5) (.c 0) (.c 0) (.c 0)) (.v 1) (.c 6) (.c 0) (.c 0) (.c 0)) (.v 1) (.c 7) (.c 0) (.c 0) (.c 0)) (.v 1) (.v 7) (.c 0) (.c 0) (.c 0))),.true),((.le (.v 7) (.c 1099511627776)),.true),((.le (.c 0) (.v 7)),.true),((.eq (.ap 22 (.ap 8 (.ap 8 (.ap 8 (.ap 8 (.ap 8 (.ap 8 (.ap 8 (.ap 8 (.v 0) (.v 1) (.c 0) (.c 77) (.c 0) (.c 0)) (.v 1) (.c 1) (.c 0) (.c 0) (.c 0)) (.v 1) (.c 2) (.c 0) (.c 0) (.c 0)) (.v 1) (.c 3) (.c 0) (.c 0) (.c 0)) (.v 1) (.c 4) (.c 0) (.c 0) (.c 0)) (.v 1) (.c 5) (.c 0) (.c 0) (.c 0)) (.v 1) (.c 6) (.c 0) (.c 0) (.c 0)) (.v 1) (.c 7) (.c 0) (.c 0) (.c 0)) (.v 1) (.v 4) (.v 5) (.v 6) (.c 0)) (.c 0)),.true),((.le (.v 1) (.c 20)),.true),((.le (.v 1) (.v 3)),.true),((.le (.c 0) (.v 3)),.true)],[1,0],[(41,(0,64)),(1,(0,20)),(7,(0,1099511627776)),(4,((-9223372036854775808),9223372036854775807)),(5,((-9223372036854775808),9223372036854775807)),(6,((-9223372036854775808),9223372036854775807)),(8,((-9223372036854775808),9223372036854775807)),(2,(0,(-1)))]⟩,[41,29,30]⟩
def lLat_T2:Tm:=⟨⟨4,159,[(14,(.it .i64 (.c 0))),(12,.sn),(9,.sn),(6,(.pt (.n 3) (.c 0))),(5,(.pt (.n 2) (.c 0))),(4,(.pt (.n 1) (.c 0)))],[(.code (atC Tryz.f4 [1,1,1,1,1,1,0,1,0,0])),(.inLoop (atC Tryz.f4 [1,1,1,1,1,1,0,1,0,0])),(.inBlock 0),(.code (atC Tryz.f4 [1,1,1,1,1,1,1]))],[],.none⟩,[],
    ⟨[(1,(.cells [(.sl (.k 0) (.v 2) (.v 1) (.v 3))] 24)),(2,(.cells [(.it .i64 (.v 7)),(.it .i64 (.v 8))] 44)),(3,(.cells [(.bo (.c .false))] 4))],4,0,0,[((.ap 24 (.ap 8 (.ap 8 (.ap 8 (.ap 8 (.ap 8 (.ap 8 (.ap 8 (.ap 8 (.v 0) (.v 1) (.c 0) (.c 77) (.c 0) (.c 0)) (.v 1) (.c 1) (.c 0) (.c 0) (.c 0)) (.v 1) (.c 2) (.c 0) (.c 0) (.c 0)) (.v 1) (.c 3) (.c 0) (.c 0) (.c 0)) (.v 1) (.c 4) (.c 0) (.c 0) (.c 0)) (.v 1) (.c 5) (.c 0) (.c 0) (.c 0)) (.v 1) (.c 6) (.c 0) (.c 0) (.c 0)) (.v 1) (.c 7) (.c 0) (.c 0) (.c 0)) (.v 1) (.v 0) (.v 1) (.c 0) (.c 0)),.true),((.le (.v 1) (.c 20)),.true),((.le (.v 1) (.v 3)),.true),((.le (.c 0) (.v 3)),.true)],[1,0],[(1,(0,20)),(7,((-9223372036854775808),9223372036854775807)),(4,((-9223372036854775808),9223372036854775807)),(5,((-9223372036854775808),9223372036854775807)),(6,((-9223372036854775808),9223372036854775807)),(8,((-9223372036854775808),9223372036854775807)),(2,(0,(-1)))]⟩,[]⟩
def lLat_T3:Tm:=⟨⟨4,159,[(15,(.it .i64 (.v 58))),(6,(.pt (.n 3) (.c 0))),(5,(.pt (.n 2) (.c 0))),(4,(.pt (.n 1) (.c 0)))],[(.code (atC Tryz.f4 [1,1,1,1,1,1,1,0,1,0,0])),(.inLoop (atC Tryz.f4 [1,1,1,1,1,1,1,0,1,0,0])),(.inBlock 2),(.code (atC Tryz.f4 [1,1,1,1,1,1,1,1]))],[],.none⟩,[],
    ⟨[(1,(.cells [(.sl (.k 0) (.v 2) (.v 1) (.v 3))] 24)),(2,(.cells [(.it .i64 (.v 7)),(.it .i64 (.v 8))] 44)),(3,(.cells [(.bo (.c .false))] 4))],4,0,0,[((.ap 24 (.ap 8 (.ap 8 (.ap 8 (.ap 8 (.ap 8 (.ap 8 (.ap 8 (.ap 8 (.v 0) (.v 1) (.c 0) (.c 77) (.c 0) (.c 0)) (.v 1) (.c 1) (.c 0) (.c 0) (.c 0)) (.v 1) (.c 2) (.c 0) (.c 0) (.c 0)) (.v 1) (.c 3) (.c 0) (.c 0) (.c 0)) (.v 1) (.c 4) (.c 0) (.c 0) (.c 0)) (.v 1) (.c 5) (.c 0) (.c 0) (.c 0)) (.v 1) (.c 6) (.c 0) (.c 0) (.c 0)) (.v 1) (.c 7) (.c 0) (.c 0) (.c 0)) (.v 1) (.v 0) (.v 1) (.c 0) (.c 0)),.true),((.le (.v 1) (.c 20)),.true),((.le (.v 1) (.v 3)),.true),((.le (.c 0) (.v 3)),.true)],[1,0],[(1,(0,20)),(7,((-9223372036854775808),9223372036854775807)),(4,((-9223372036854775808),9223372036854775807)),(5,((-9223372036854775808),9223372036854775807)),(6,((-9223372036854775808),9223372036854775807)),(8,((-9223372036854775808),9223372036854775807)),(2,(0,(-1))),(58,(0,(-1)))]⟩,[58]⟩
def lLat_T4:Tm:=⟨⟨4,159,[(17,(.pt (.n 7) (.c 0))),(16,(.fn 50 [] [(.pt (.n 6) (.c 0))])),(6,(.pt (.n 3) (.c 0))),(5,(.pt (.n 2) (.c 0))),(4,(.pt (.n 1) (.c 0)))],[(.code (atC Tryz.f4 [1,1,1,1,1,1,1,1,1,1,0,1,0,0])),(.inLoop (atC Tryz.f4 [1,1,1,1,1,1,1,1,1,1,0,1,0,0])),(.inBlock 4),(.code (atC Tryz.f4 [1,1,1,1,1,1,1,1,1,1,1]))],[],.none⟩,[],
    ⟨[(1,(.cells [(.sl (.k 0) (.v 2) (.v 1) (.v 3))] 24)),(2,(.cells [(.it .i64 (.v 7)),(.it .i64 (.v 8))] 44)),(3,(.cells [(.bo (.c .false))] 4)),(5,(.arr [(.nt .i64),(.nt .i64),(.nt .i64),(.nt .i64),(.nt .i64),(.nt .i64),(.nt .i64),(.nt .u64)] (.v 0) (.v 1) 55 (.v 63))),(6,(.cells [(.sl (.n 5) (.c 0) (.v 1) (.v 63))] 24)),(7,(.cells [(.it .i64 (.c 0))] 3))],8,0,0,[((.le (.v 1) (.v 63)),.true),((.lt (.v 58) (.v 1)),.false),((.ap 24 (.ap 8 (.ap 8 (.ap 8 (.ap 8 (.ap 8 (.ap 8 (.ap 8 (.ap 8 (.v 0) (.v 1) (.c 0) (.c 77) (.c 0) (.c 0)) (.v 1) (.c 1) (.c 0) (.c 0) (.c 0)) (.v 1) (.c 2) (.c 0) (.c 0) (.c 0)) (.v 1) (.c 3) (.c 0) (.c 0) (.c 0)) (.v 1) (.c 4) (.c 0) (.c 0) (.c 0)) (.v 1) (.c 5) (.c 0) (.c 0) (.c 0)) (.v 1) (.c 6) (.c 0) (.c 0) (.c 0)) (.v 1) (.c 7) (.c 0) (.c 0) (.c 0)) (.v 1) (.v 0) (.v 1) (.c 0) (.c 0)),.true),((.le (.v 1) (.c 20)),.true),((.le (.v 1) (.v 3)),.true),((.le (.c 0) (.v 3)),.true)],[1,0],[(1,(0,20)),(58,(0,(-1))),(1,(0,20)),(7,((-9223372036854775808),9223372036854775807)),(4,((-9223372036854775808),9223372036854775807)),(5,((-9223372036854775808),9223372036854775807)),(6,((-9223372036854775808),9223372036854775807)),(8,((-9223372036854775808),9223372036854775807)),(2,(0,(-1))),(58,(0,(-1)))]⟩,[63]⟩
def lLat_T5:Tm:=⟨⟨50,20,[(7,(.it .i64 (.v 70))),(6,(.it .i64 (.v 1))),(5,(.sl (.n 5) (.c 0) (.v 1) (.v 63))),(0,(.yl 10))],[(.code (atC Tryz.f50 [0,1,1,0,0])),(.inLoop (atC Tryz.f50 [0,1,1,0,0])),(.inBlock 0),(.inScope (atC Tryz.f50 [0]))],[],.none⟩,[⟨4,159,[(18,(.pt (.n 8) (.c 0))),(17,(.pt (.n 7) (.c 0))),(16,(.fn 50 [] [(.pt (.n 6) (.c 0))])),(6,(.pt (.n 3) (.c 0))),(5,(.pt (.n 2) (.c 0))),(4,(.pt (.n 1) (.c 0)))],[(.inRangeFunc 10),(.inBlock 6),(.code (atC Tryz.f4 [1,1,1,1,1,1,1,1,1,1,0,1,0,0,1,0,0,1,1])),(.inBlock 5),(.code (atC Tryz.f4 [1,1,1,1,1,1,1,1,1,1,0,1,0,0,1,1])),(.inLoop (atC Tryz.f4 [1,1,1,1,1,1,1,1,1,1,0,1,0,0])),(.inBlock 4),(.code (atC Tryz.f4 [1,1,1,1,1,1,1,1,1,1,1]))],[9],.none⟩],
    ⟨[(1,(.cells [(.sl (.k 0) (.v 2) (.v 1) (.v 3))] 24)),(2,(.cells [(.it .i64 (.v 7)),(.it .i64 (.v 8))] 44)),(3,(.cells [(.bo (.c .false))] 4)),(5,(.arr [(.nt .i64),(.nt .i64),(.nt .i64),(.nt .i64),(.nt .i64),(.nt .i64),(.nt .i64),(.nt .u64)] (.v 0) (.v 1) 55 (.v 63))),(6,(.cells [(.sl (.n 5) (.c 0) (.v 1) (.v 63))] 24)),(7,(.cells [(.it .i64 (.c 0))] 3)),(8,(.cells [(.it .i64 (.v 70))] 3)),(9,.dfr),(10,(.loop .ready .none 4 159 [(104,(.fn 50 [] [(.pt (.n 6) (.c 0))])),(18,(.pt (.n 8) (.c 0))),(101,(.bo (.c .true))),(100,(.it .i64 (.c 0))),(17,(.pt (.n 7) (.c 0))),(16,(.fn 50 [] [(.pt (.n 6) (.c 0))])),(6,(.pt (.n 3) (.c 0))),(5,(.pt (.n 2) (.c 0))),(4,(.pt (.n 1) (.c 0)))] #[105,106] (atC Tryz.f4 [1,1,1,1,1,1,1,1,1,1,0,1,0,0,1,0,0,1,0,1,0,0]) (atC Tryz.f4 [1,1,1,1,1,1,1,1,1,1,0,1,0,0,1,0,0,1,0,1,0,1]) 9))],11,0,0,[((.le (.v 1) (.v 63)),.true),((.lt (.v 58) (.v 1)),.false),((.ap 24 (.ap 8 (.ap 8 (.ap 8 (.ap 8 (.ap 8 (.ap 8 (.ap 8 (.ap 8 (.v 0) (.v 1) (.c 0) (.c 77) (.c 0) (.c 0)) (.v 1) (.c 1) (.c 0) (.c 0) (.c 0)) (.v 1) (.c 2) (.c 0) (.c 0) (.c 0)) (.v 1) (.c 3) (.c 0) (.c 0) (.c 0)) (.v 1) (.c 4) (.c 0) (.c 0) (.c 0)) (.v 1) (.c 5) (.c 0) (.c 0) (.c 0)) (.v 1) (.c 6) (.c 0) (.c 0) (.c 0)) (.v 1) (.c 7) (.c 0) (.c 0) (.c 0)) (.v 1) (.v 0) (.v 1) (.c 0) (.c 0)),.true),((.le (.v 1) (.c 20)),.true),((.le (.v 1) (.v 3)),.true),((.le (.c 0) (.v 3)),.true)],[1,0],[(1,(0,20)),(7,((-9223372036854775808),9223372036854775807)),(4,((-9223372036854775808),9223372036854775807)),(5,((-9223372036854775808),9223372036854775807)),(6,((-9223372036854775808),9223372036854775807)),(8,((-9223372036854775808),9223372036854775807)),(2,(0,(-1))),(70,(0,(-1)))]⟩,[70]⟩
def lLat_T6:Tm:=⟨⟨4,159,[(17,(.pt (.n 18) (.c 0))),(16,(.fn 50 [] [(.pt (.n 6) (.c 0))])),(6,(.pt (.n 3) (.c 0))),(5,(.pt (.n 2) (.c 0))),(4,(.pt (.n 1) (.c 0)))],[(.code (atC Tryz.f4 [1,1,1,1,1,1,1,1,1,1,0,1,0,0])),(.inLoop (atC Tryz.f4 [1,1,1,1,1,1,1,1,1,1,0,1,0,0])),(.inBlock 4),(.code (atC Tryz.f4 [1,1,1,1,1,1,1,1,1,1,1]))],[9],.none⟩,[],
    ⟨[(1,(.cells [(.sl (.k 0) (.v 2) (.v 1) (.v 3))] 24)),(2,(.cells [(.it .i64 (.v 7)),(.it .i64 (.v 8))] 44)),(3,(.cells [(.bo (.c .false))] 4)),(5,(.arr [(.nt .i64),(.nt .i64),(.nt .i64),(.nt .i64),(.nt .i64),(.nt .i64),(.nt .i64),(.nt .u64)] (.v 0) (.v 1) 55 (.v 63))),(6,(.cells [(.sl (.n 5) (.c 0) (.v 1) (.v 63))] 24)),(9,.dfr),(18,(.cells [(.it .i64 (.c 1))] 3))],19,0,0,[((.le (.v 1) (.v 63)),.true),((.lt (.v 58) (.v 1)),.false),((.ap 24 (.ap 8 (.ap 8 (.ap 8 (.ap 8 (.ap 8 (.ap 8 (.ap 8 (.ap 8 (.v 0) (.v 1) (.c 0) (.c 77) (.c 0) (.c 0)) (.v 1) (.c 1) (.c 0) (.c 0) (.c 0)) (.v 1) (.c 2) (.c 0) (.c 0) (.c 0)) (.v 1) (.c 3) (.c 0) (.c 0) (.c 0)) (.v 1) (.c 4) (.c 0) (.c 0) (.c 0)) (.v 1) (.c 5) (.c 0) (.c 0) (.c 0)) (.v 1) (.c 6) (.c 0) (.c 0) (.c 0)) (.v 1) (.c 7) (.c 0) (.c 0) (.c 0)) (.v 1) (.v 0) (.v 1) (.c 0) (.c 0)),.true),((.le (.v 1) (.c 20)),.true),((.le (.v 1) (.v 3)),.true),((.le (.c 0) (.v 3)),.true)],[1,0],[(8,((-9223372036854775808),9223372036854775807)),(1,(0,20)),(7,((-9223372036854775808),9223372036854775807)),(4,((-9223372036854775808),9223372036854775807)),(5,((-9223372036854775808),9223372036854775807)),(6,((-9223372036854775808),9223372036854775807)),(2,(0,(-1)))]⟩,[]⟩
def lLat_T7:Tm:=⟨⟨50,20,[(7,(.it .i64 (.v 89))),(6,(.it .i64 (.v 1))),(5,(.sl (.n 5) (.c 0) (.v 1) (.v 63))),(0,(.yl 21))],[(.code (atC Tryz.f50 [0,1,1,0,0])),(.inLoop (atC Tryz.f50 [0,1,1,0,0])),(.inBlock 0),(.inScope (atC Tryz.f50 [0]))],[],.none⟩,[⟨4,159,[(18,(.pt (.n 19) (.c 0))),(17,(.pt (.n 18) (.c 0))),(16,(.fn 50 [] [(.pt (.n 6) (.c 0))])),(6,(.pt (.n 3) (.c 0))),(5,(.pt (.n 2) (.c 0))),(4,(.pt (.n 1) (.c 0)))],[(.inRangeFunc 21),(.inBlock 6),(.code (atC Tryz.f4 [1,1,1,1,1,1,1,1,1,1,0,1,0,0,1,0,0,1,1])),(.inBlock 5),(.code (atC Tryz.f4 [1,1,1,1,1,1,1,1,1,1,0,1,0,0,1,1])),(.inLoop (atC Tryz.f4 [1,1,1,1,1,1,1,1,1,1,0,1,0,0])),(.inBlock 4),(.code (atC Tryz.f4 [1,1,1,1,1,1,1,1,1,1,1]))],[20,9],.none⟩],
    ⟨[(1,(.cells [(.sl (.k 0) (.v 2) (.v 1) (.v 3))] 24)),(2,(.cells [(.it .i64 (.v 7)),(.it .i64 (.v 8))] 44)),(3,(.cells [(.bo (.c .false))] 4)),(5,(.arr [(.nt .i64),(.nt .i64),(.nt .i64),(.nt .i64),(.nt .i64),(.nt .i64),(.nt .i64),(.nt .u64)] (.v 0) (.v 1) 55 (.v 63))),(6,(.cells [(.sl (.n 5) (.c 0) (.v 1) (.v 63))] 24)),(9,.dfr),(18,(.cells [(.it .i64 (.c 1))] 3)),(19,(.cells [(.it .i64 (.v 89))] 3)),(20,.dfr),(21,(.loop .ready .none 4 159 [(104,(.fn 50 [] [(.pt (.n 6) (.c 0))])),(18,(.pt (.n 19) (.c 0))),(101,(.bo (.c .true))),(100,(.it .i64 (.c 1))),(17,(.pt (.n 18) (.c 0))),(16,(.fn 50 [] [(.pt (.n 6) (.c 0))])),(6,(.pt (.n 3) (.c 0))),(5,(.pt (.n 2) (.c 0))),(4,(.pt (.n 1) (.c 0)))] #[105,106] (atC Tryz.f4 [1,1,1,1,1,1,1,1,1,1,0,1,0,0,1,0,0,1,0,1,0,0]) (atC Tryz.f4 [1,1,1,1,1,1,1,1,1,1,0,1,0,0,1,0,0,1,0,1,0,1]) 20))],22,0,0,[((.le (.v 1) (.v 63)),.true),((.lt (.v 58) (.v 1)),.false),((.ap 24 (.ap 8 (.ap 8 (.ap 8 (.ap 8 (.ap 8 (.ap 8 (.ap 8 (.ap 8 (.v 0) (.v 1) (.c 0) (.c 77) (.c 0) (.c 0)) (.v 1) (.c 1) (.c 0) (.c 0) (.c 0)) (.v 1) (.c 2) (.c 0) (.c 0) (.c 0)) (.v 1) (.c 3) (.c 0) (.c 0) (.c 0)) (.v 1) (.c 4) (.c 0) (.c 0) (.c 0)) (.v 1) (.c 5) (.c 0) (.c 0) (.c 0)) (.v 1) (.c 6) (.c 0) (.c 0) (.c 0)) (.v 1) (.c 7) (.c 0) (.c 0) (.c 0)) (.v 1) (.v 0) (.v 1) (.c 0) (.c 0)),.true),((.le (.v 1) (.c 20)),.true),((.le (.v 1) (.v 3)),.true),((.le (.c 0) (.v 3)),.true)],[1,0],[(8,((-9223372036854775808),9223372036854775807)),(1,(0,20)),(7,((-9223372036854775808),9223372036854775807)),(4,((-9223372036854775808),9223372036854775807)),(5,((-9223372036854775808),9223372036854775807)),(6,((-9223372036854775808),9223372036854775807)),(2,(0,(-1))),(89,(0,(-1)))]⟩,[89]⟩
def lLat_T8:Tm:=⟨⟨4,159,[(17,(.pt (.n 22) (.c 0))),(16,(.fn 50 [] [(.pt (.n 6) (.c 0))])),(6,(.pt (.n 3) (.c 0))),(5,(.pt (.n 2) (.c 0))),(4,(.pt (.n 1) (.c 0)))],[(.code (atC Tryz.f4 [1,1,1,1,1,1,1,1,1,1,0,1,0,0])),(.inLoop (atC Tryz.f4 [1,1,1,1,1,1,1,1,1,1,0,1,0,0])),(.inBlock 4),(.code (atC Tryz.f4 [1,1,1,1,1,1,1,1,1,1,1]))],[20,9],.none⟩,[],
    ⟨[(1,(.cells [(.sl (.k 0) (.v 2) (.v 1) (.v 3))] 24)),(2,(.cells [(.it .i64 (.v 7)),(.it .i64 (.v 8))] 44)),(3,(.cells [(.bo (.c .false))] 4)),(5,(.arr [(.nt .i64),(.nt .i64),(.nt .i64),(.nt .i64),(.nt .i64),(.nt .i64),(.nt .i64),(.nt .u64)] (.v 0) (.v 1) 55 (.v 63))),(6,(.cells [(.sl (.n 5) (.c 0) (.v 1) (.v 63))] 24)),(9,.dfr),(20,.dfr),(22,(.cells [(.it .i64 (.c 2))] 3))],23,0,0,[((.eq (.v 89) (.v 1)),.true),((.lt (.v 89) (.v 1)),.false),((.le (.v 1) (.v 63)),.true),((.lt (.v 58) (.v 1)),.false),((.ap 24 (.ap 8 (.ap 8 (.ap 8 (.ap 8 (.ap 8 (.ap 8 (.ap 8 (.ap 8 (.v 0) (.v 1) (.c 0) (.c 77) (.c 0) (.c 0)) (.v 1) (.c 1) (.c 0) (.c 0) (.c 0)) (.v 1) (.c 2) (.c 0) (.c 0) (.c 0)) (.v 1) (.c 3) (.c 0) (.c 0) (.c 0)) (.v 1) (.c 4) (.c 0) (.c 0) (.c 0)) (.v 1) (.c 5) (.c 0) (.c 0) (.c 0)) (.v 1) (.c 6) (.c 0) (.c 0) (.c 0)) (.v 1) (.c 7) (.c 0) (.c 0) (.c 0)) (.v 1) (.v 0) (.v 1) (.c 0) (.c 0)),.true),((.le (.v 1) (.c 20)),.true),((.le (.v 1) (.v 3)),.true),((.le (.c 0) (.v 3)),.true)],[1,0],[(1,(0,20)),(89,(0,(-1))),(8,((-9223372036854775808),9223372036854775807)),(1,(0,20)),(7,((-9223372036854775808),9223372036854775807)),(4,((-9223372036854775808),9223372036854775807)),(5,((-9223372036854775808),9223372036854775807)),(6,((-9223372036854775808),9223372036854775807)),(2,(0,(-1))),(89,(0,(-1)))]⟩,[]⟩
def lLat_L0:List Lf:=
 let p0_:SB×Bool:=((.le (.v 1) (.d 2)),.true)
 let x1_:SI:=(.ap 22 (.v 0) (.v 1) (.v 4) (.v 5) (.v 6) (.c 0))
 let x2_:SI:=(.ap 24 (.v 0) (.v 1) (.v 7) (.c 0) (.c 0) (.c 0))
 let x3_:SI:=(.ap 23 (.v 0) (.v 1) (.v 7) (.c 0) (.c 0) (.c 0))
 let p4_:SB×Bool:=((.eq x1_ (.c 0)),.true)
 let p5_:SB×Bool:=((.lt (.c 0) x2_),.true)
 let p6_:SB×Bool:=((.eq x1_ (.c 0)),.false)
 let p7_:SB×Bool:=((.lt (.c 0) x2_),.false)
 let x8_:SI:=(.ap 8 (.ap 8 (.ap 8 (.ap 8 (.ap 8 (.ap 8 (.ap 8 (.ap 8 (.v 0) (.v 1) (.c 0) (.c 77) (.c 0) (.c 0)) (.v 1) (.c 1) (.c 0) (.c 0) (.c 0)) (.v 1) (.c 2) (.c 0) (.c 0) (.c 0)) (.v 1) (.c 3) (.c 0) (.c 0) (.c 0)) (.v 1) (.c 4) (.c 0) (.c 0) (.c 0)) (.v 1) (.c 5) (.c 0) (.c 0) (.c 0)) (.v 1) (.c 6) (.c 0) (.c 0) (.c 0)) (.v 1) (.c 7) (.c 0) (.c 0) (.c 0))
 let x9_:SI:=(.ap 22 x8_ (.v 1) (.v 4) (.v 5) (.v 6) (.c 0))
 let x10_:SI:=(.ap 24 x8_ (.v 1) (.v 7) (.c 0) (.c 0) (.c 0))
 let x11_:SI:=(.ap 23 x8_ (.v 1) (.v 7) (.c 0) (.c 0) (.c 0))
 let p12_:SB×Bool:=((.ap 24 x8_ (.v 1) (.v 0) (.v 1) (.c 0) (.c 0)),.true)
 let p13_:SB×Bool:=((.ap 24 x8_ (.v 1) (.v 0) (.v 1) (.c 0) (.c 0)),.false)
 let p14_:SB×Bool:=((.ap 24 x11_ (.v 1) x3_ (.v 1) (.c 0) (.c 0)),.true)
 let p15_:SB×Bool:=((.ap 24 x11_ (.v 1) x3_ (.v 1) (.c 0) (.c 0)),.false)
 let f0_:List (SB×Bool):=[((.le (.v 1) (.v 3)),.true),((.le (.c 0) (.v 3)),.true)]
 let f1_:List (SB×Bool):=((.le (.op .add (.v 1) (.c 1)) (.d 1)),.true)::((.le (.v 1) (.d 0)),.true)::((.le (.v 1) (.c 20)),.true)::f0_
 let f2_:List (SB×Bool):=((.eq x9_ (.c 0)),.true)::f1_
 let f3_:List (SB×Bool):=((.eq x9_ (.c 0)),.false)::f1_
 let f4_:List (SB×Bool):=((.le (.c 0) (.v 7)),.true)::f2_
 let f5_:List (SB×Bool):=((.le (.c 0) (.v 7)),.false)::f2_
 let f6_:List (SB×Bool):=p4_::f3_
 let f7_:List (SB×Bool):=p6_::f3_
 let f8_:List (SB×Bool):=((.le (.v 7) (.c 1099511627776)),.true)::f4_
 let f9_:List (SB×Bool):=((.le (.v 7) (.c 1099511627776)),.false)::f4_
 let f10_:List (SB×Bool):=p4_::f5_
 let f11_:List (SB×Bool):=p6_::f5_
 let f12_:List (SB×Bool):=((.le (.c 0) (.v 7)),.true)::f6_
 let f13_:List (SB×Bool):=((.le (.c 0) (.v 7)),.false)::f6_
 let f14_:List (SB×Bool):=p4_::f9_
 let f15_:List (SB×Bool):=p6_::f9_
 let f16_:List (SB×Bool):=((.le (.v 7) (.c 1099511627776)),.true)::f12_
 let f17_:List (SB×Bool):=((.le (.v 7) (.c 1099511627776)),.false)::f12_
 let f18_:List (SB×Bool):=p0_::((.lt (.c 0) x10_),.false)::f8_
 let f19_:List (SB×Bool):=p0_::((.le x10_ (.d 3)),.true)::((.lt (.c 0) x10_),.true)::f8_
 let f20_:List (SB×Bool):=p4_::f18_
 let f21_:List (SB×Bool):=p6_::f18_
 let f22_:List (SB×Bool):=p0_::p7_::f16_
 let f23_:List (SB×Bool):=p4_::f19_
 let f24_:List (SB×Bool):=p6_::f19_
 let f25_:List (SB×Bool):=p0_::((.le x2_ (.d 3)),.true)::p5_::f16_
 let f26_:List (SB×Bool):=((.le (.v 1) (.d 3)),.true)::p7_::f20_
 let f27_:List (SB×Bool):=((.le (.v 1) (.d 4)),.true)::p7_::f23_
 let f28_:List (SB×Bool):=((.le (.v 1) (.d 3)),.true)::((.le x2_ (.d 4)),.true)::p5_::f20_
 let f29_:List (SB×Bool):=p14_::f26_
 let f30_:List (SB×Bool):=((.le (.v 1) (.d 4)),.true)::((.le x2_ (.d 5)),.true)::p5_::f23_
 let f31_:List (SB×Bool):=p14_::f30_
 let f32_:List (SB×Bool):=((.eq x10_ x2_),.true)::f31_
 [(let i_:In:=⟨⟨[(29,(.d 3)),(30,(.d 5)),(41,(.c 0))],[]⟩,[(1,1),(2,2),(3,3),(9,9),(11,11)],[],[]⟩;.cut (p12_::f32_) 1 i_ [] (shT lLat_T1 i_)),
  (.fin (p13_::f32_) 0 ⟨⟨[],[]⟩,[],[],[]⟩ [(.eb (.c .true) (.c .false))] []),
  (.fin (((.eq x10_ x2_),.false)::f31_) 0 ⟨⟨[],[]⟩,[],[],[]⟩ [(.eb (.c .true) (.c .false))] []),
  (.fin (p15_::f30_) 0 ⟨⟨[],[]⟩,[],[],[]⟩ [(.eb (.c .true) (.c .false))] []),
  (.fin (p14_::f27_) 0 ⟨⟨[],[]⟩,[],[],[]⟩ [(.eb (.c .true) (.c .false))] []),
  (.fin (p15_::f27_) 0 ⟨⟨[],[]⟩,[],[],[]⟩ [(.eb (.c .true) (.c .false))] []),
  (.fin (((.eq (.v 1) (.c 0)),.true)::f24_) 0 ⟨⟨[],[]⟩,[],[],[]⟩ [(.eb (.c .true) (.c .false))] []),
  (.fin (((.eq (.v 1) (.c 0)),.false)::f24_) 0 ⟨⟨[],[]⟩,[],[],[]⟩ [(.eb (.c .true) (.c .false))] []),
  (.fin (p14_::f28_) 0 ⟨⟨[],[]⟩,[],[],[]⟩ [(.eb (.c .true) (.c .false))] []),
  (.fin (p15_::f28_) 0 ⟨⟨[],[]⟩,[],[],[]⟩ [(.eb (.c .true) (.c .false))] []),
  (.cut (p12_::f29_) 2 ⟨⟨[],[]⟩,[(1,1),(2,2),(3,3)],[],[]⟩ [] (shT lLat_T2 ⟨⟨[],[]⟩,[(1,1),(2,2),(3,3)],[],[]⟩)),
  (.fin (p13_::f29_) 0 ⟨⟨[],[]⟩,[],[],[]⟩ [(.eb (.c .true) (.c .false))] []),
  (.fin (p15_::f26_) 0 ⟨⟨[],[]⟩,[],[],[]⟩ [(.eb (.c .true) (.c .false))] []),
  (.fin (((.eq (.v 1) (.c 0)),.true)::f21_) 0 ⟨⟨[],[]⟩,[],[],[]⟩ [(.eb (.c .true) (.c .false))] []),
  (.fin (((.eq (.v 1) (.c 0)),.false)::f21_) 0 ⟨⟨[],[]⟩,[],[],[]⟩ [(.eb (.c .true) (.c .false))] []),
  (.cut (p12_::f14_) 2 ⟨⟨[],[]⟩,[(1,1),(2,2),(3,3)],[],[]⟩ [] (shT lLat_T2 ⟨⟨[],[]⟩,[(1,1),(2,2),(3,3)],[],[]⟩)),
  (.fin (p13_::f14_) 0 ⟨⟨[],[]⟩,[],[],[]⟩ [(.eb (.c .true) (.c .false))] []),
  (.cut (p12_::f15_) 2 ⟨⟨[],[]⟩,[(1,1),(2,2),(3,3)],[],[]⟩ [] (shT lLat_T2 ⟨⟨[],[]⟩,[(1,1),(2,2),(3,3)],[],[]⟩)),
  (.fin (p13_::f15_) 0 ⟨⟨[],[]⟩,[],[],[]⟩ [(.eb (.c .true) (.c .false))] []),
  (.cut (p12_::f10_) 2 ⟨⟨[],[]⟩,[(1,1),(2,2),(3,3)],[],[]⟩ [] (shT lLat_T2 ⟨⟨[],[]⟩,[(1,1),(2,2),(3,3)],[],[]⟩)),
  (.fin (p13_::f10_) 0 ⟨⟨[],[]⟩,[],[],[]⟩ [(.eb (.c .true) (.c .false))] []),
  (.cut (p12_::f11_) 2 ⟨⟨[],[]⟩,[(1,1),(2,2),(3,3)],[],[]⟩ [] (shT lLat_T2 ⟨⟨[],[]⟩,[(1,1),(2,2),(3,3)],[],[]⟩)),
  (.fin (p13_::f11_) 0 ⟨⟨[],[]⟩,[],[],[]⟩ [(.eb (.c .true) (.c .false))] []),
  (.fin (((.eq (.c 0) (.v 1)),.true)::f25_) 0 ⟨⟨[],[]⟩,[],[],[]⟩ [(.eb (.c .true) (.c .false))] []),
  (.fin (((.eq (.c 0) (.v 1)),.false)::f25_) 0 ⟨⟨[],[]⟩,[],[],[]⟩ [(.eb (.c .true) (.c .false))] []),
  (.fin (((.eq (.c 0) (.v 1)),.true)::f22_) 0 ⟨⟨[],[]⟩,[],[],[]⟩ [(.eb (.c .true) (.c .false))] []),
  (.fin (((.eq (.c 0) (.v 1)),.false)::f22_) 0 ⟨⟨[],[]⟩,[],[],[]⟩ [(.eb (.c .true) (.c .false))] []),
  (.cut (p12_::f17_) 2 ⟨⟨[],[]⟩,[(1,1),(2,2),(3,3)],[],[]⟩ [] (shT lLat_T2 ⟨⟨[],[]⟩,[(1,1),(2,2),(3,3)],[],[]⟩)),
  (.fin (p13_::f17_) 0 ⟨⟨[],[]⟩,[],[],[]⟩ [(.eb (.c .true) (.c .false))] []),
  (.cut (p12_::f13_) 2 ⟨⟨[],[]⟩,[(1,1),(2,2),(3,3)],[],[]⟩ [] (shT lLat_T2 ⟨⟨[],[]⟩,[(1,1),(2,2),(3,3)],[],[]⟩)),
  (.fin (p13_::f13_) 0 ⟨⟨[],[]⟩,[],[],[]⟩ [(.eb (.c .true) (.c .false))] []),
  (.cut (p12_::f7_) 2 ⟨⟨[],[]⟩,[(1,1),(2,2),(3,3)],[],[]⟩ [] (shT lLat_T2 ⟨⟨[],[]⟩,[(1,1),(2,2),(3,3)],[],[]⟩)),
  (.fin (p13_::f7_) 0 ⟨⟨[],[]⟩,[],[],[]⟩ [(.eb (.c .true) (.c .false))] []),
  (.fin (((.le (.v 1) (.c 20)),.false)::f0_) 0 ⟨⟨[],[]⟩,[],[],[]⟩ [] [])]
def lLat_L1:List Lf:=
 let x0_:SI:=(.ap 24 (.v 0) (.v 1) (.v 7) (.c 0) (.c 0) (.c 0))
 let x1_:SI:=(.ap 3 (.ap 25 (.v 0) (.v 1) (.v 7) (.c 0) (.c 0) (.c 0)) (.v 41) (.c 0) (.c 0) (.c 0) (.c 0))
 let x2_:SI:=(.ap 8 (.ap 8 (.ap 8 (.ap 8 (.ap 8 (.ap 8 (.ap 8 (.ap 8 (.v 0) (.v 1) (.c 0) (.c 77) (.c 0) (.c 0)) (.v 1) (.c 1) (.c 0) (.c 0) (.c 0)) (.v 1) (.c 2) (.c 0) (.c 0) (.c 0)) (.v 1) (.c 3) (.c 0) (.c 0) (.c 0)) (.v 1) (.c 4) (.c 0) (.c 0) (.c 0)) (.v 1) (.c 5) (.c 0) (.c 0) (.c 0)) (.v 1) (.c 6) (.c 0) (.c 0) (.c 0)) (.v 1) (.c 7) (.c 0) (.c 0) (.c 0))
 let x3_:SI:=(.ap 24 x2_ (.v 1) (.v 7) (.c 0) (.c 0) (.c 0))
 let x4_:SI:=(.ap 3 (.ap 25 x2_ (.v 1) (.v 7) (.c 0) (.c 0) (.c 0)) (.v 41) (.c 0) (.c 0) (.c 0) (.c 0))
 let f0_:List (SB×Bool):=[((.ap 24 x2_ (.v 1) (.v 0) (.v 1) (.c 0) (.c 0)),.true),((.eq x3_ x0_),.true),((.ap 24 (.ap 23 x2_ (.v 1) (.v 7) (.c 0) (.c 0) (.c 0)) (.v 1) (.ap 23 (.v 0) (.v 1) (.v 7) (.c 0) (.c 0) (.c 0)) (.v 1) (.c 0) (.c 0)),.true),((.lt (.c 0) x0_),.true),((.eq (.ap 22 (.v 0) (.v 1) (.v 4) (.v 5) (.v 6) (.c 0)) (.c 0)),.true),((.lt (.c 0) x3_),.true),((.le (.v 7) (.c 1099511627776)),.true),((.le (.c 0) (.v 7)),.true),((.eq (.ap 22 x2_ (.v 1) (.v 4) (.v 5) (.v 6) (.c 0)) (.c 0)),.true),((.le (.v 1) (.c 20)),.true),((.le (.v 1) (.v 3)),.true),((.le (.c 0) (.v 3)),.true)]
 let f1_:List (SB×Bool):=((.lt (.v 41) x0_),.true)::f0_
 [(let i_:In:=⟨⟨[(29,(.v 29)),(30,(.v 30)),(41,(.op .add (.v 41) (.c 1)))],[]⟩,[(1,1),(2,2),(3,3),(9,9),(11,11)],[],[]⟩;.cut (((.eq x4_ x1_),.true)::f1_) 1 i_ [(.rn (.op .add (.v 41) (.c 1)) 0 64)] (shT lLat_T1 i_)),
  (.fin (((.eq x4_ x1_),.false)::f1_) 0 ⟨⟨[],[]⟩,[],[],[]⟩ [(.eb (.c .true) (.c .false))] []),
  (.cut (((.lt (.v 41) x0_),.false)::f0_) 3 ⟨⟨[(58,(.c 0))],[]⟩,[(1,1),(2,2),(3,3)],[],[]⟩ [] (shT lLat_T3 ⟨⟨[(58,(.c 0))],[]⟩,[(1,1),(2,2),(3,3)],[],[]⟩))]
def lLat_L2:List Lf:=
 [(.cut ([((.ap 24 (.ap 8 (.ap 8 (.ap 8 (.ap 8 (.ap 8 (.ap 8 (.ap 8 (.ap 8 (.v 0) (.v 1) (.c 0) (.c 77) (.c 0) (.c 0)) (.v 1) (.c 1) (.c 0) (.c 0) (.c 0)) (.v 1) (.c 2) (.c 0) (.c 0) (.c 0)) (.v 1) (.c 3) (.c 0) (.c 0) (.c 0)) (.v 1) (.c 4) (.c 0) (.c 0) (.c 0)) (.v 1) (.c 5) (.c 0) (.c 0) (.c 0)) (.v 1) (.c 6) (.c 0) (.c 0) (.c 0)) (.v 1) (.c 7) (.c 0) (.c 0) (.c 0)) (.v 1) (.v 0) (.v 1) (.c 0) (.c 0)),.true),((.le (.v 1) (.c 20)),.true),((.le (.v 1) (.v 3)),.true),((.le (.c 0) (.v 3)),.true)]) 3 ⟨⟨[(58,(.c 0))],[]⟩,[(1,1),(2,2),(3,3)],[],[]⟩ [] (shT lLat_T3 ⟨⟨[(58,(.c 0))],[]⟩,[(1,1),(2,2),(3,3)],[],[]⟩))]
def lLat_L3:List Lf:=
 let x0_:SI:=(.ap 3 (.v 0) (.v 58) (.c 0) (.c 0) (.c 0) (.c 0))
 let f0_:List (SB×Bool):=[((.ap 24 (.ap 8 (.ap 8 (.ap 8 (.ap 8 (.ap 8 (.ap 8 (.ap 8 (.ap 8 (.v 0) (.v 1) (.c 0) (.c 77) (.c 0) (.c 0)) (.v 1) (.c 1) (.c 0) (.c 0) (.c 0)) (.v 1) (.c 2) (.c 0) (.c 0) (.c 0)) (.v 1) (.c 3) (.c 0) (.c 0) (.c 0)) (.v 1) (.c 4) (.c 0) (.c 0) (.c 0)) (.v 1) (.c 5) (.c 0) (.c 0) (.c 0)) (.v 1) (.c 6) (.c 0) (.c 0) (.c 0)) (.v 1) (.c 7) (.c 0) (.c 0) (.c 0)) (.v 1) (.v 0) (.v 1) (.c 0) (.c 0)),.true),((.le (.v 1) (.c 20)),.true),((.le (.v 1) (.v 3)),.true),((.le (.c 0) (.v 3)),.true)]
 let f1_:List (SB×Bool):=((.lt (.v 58) (.v 1)),.true)::f0_
 [(.fin (((.lt x0_ (.c 0)),.true)::f1_) 0 ⟨⟨[],[]⟩,[],[],[]⟩ [] []),
  (let i_:In:=⟨⟨[(58,(.op .add (.v 58) (.c 1)))],[]⟩,[(1,1),(2,2),(3,3)],[],[]⟩;.cut (((.lt x0_ (.c 0)),.false)::f1_) 3 i_ [] (shT lLat_T3 i_)),
  (let i_:In:=⟨⟨[(63,(.d 0))],[]⟩,[(5,5),(1,1),(2,2),(3,3),(6,6),(7,7)],[],[]⟩;.cut (((.le (.v 1) (.d 0)),.true)::((.lt (.v 58) (.v 1)),.false)::f0_) 4 i_ [] (shT lLat_T4 i_))]
def lLat_L4:List Lf:=
 [(let i_:In:=⟨⟨[(70,(.c 0))],[]⟩,[(9,9),(1,1),(2,2),(3,3),(6,6),(7,7),(8,8),(10,10),(5,5)],[],[]⟩;.cut ([((.le (.v 1) (.v 63)),.true),((.lt (.v 58) (.v 1)),.false),((.ap 24 (.ap 8 (.ap 8 (.ap 8 (.ap 8 (.ap 8 (.ap 8 (.ap 8 (.ap 8 (.v 0) (.v 1) (.c 0) (.c 77) (.c 0) (.c 0)) (.v 1) (.c 1) (.c 0) (.c 0) (.c 0)) (.v 1) (.c 2) (.c 0) (.c 0) (.c 0)) (.v 1) (.c 3) (.c 0) (.c 0) (.c 0)) (.v 1) (.c 4) (.c 0) (.c 0) (.c 0)) (.v 1) (.c 5) (.c 0) (.c 0) (.c 0)) (.v 1) (.c 6) (.c 0) (.c 0) (.c 0)) (.v 1) (.c 7) (.c 0) (.c 0) (.c 0)) (.v 1) (.v 0) (.v 1) (.c 0) (.c 0)),.true),((.le (.v 1) (.c 20)),.true),((.le (.v 1) (.v 3)),.true),((.le (.c 0) (.v 3)),.true)]) 5 i_ [] (shT lLat_T5 i_))]
def lLat_L5:List Lf:=
 let x0_:SI:=(.op .add (.v 70) (.c 1))
 let x1_:SI:=(.op .imin (.v 1) (.op .imax (.c 1) (.v 8)))
 let p2_:SB×Bool:=((.le (.v 8) x0_),.true)
 let p3_:SB×Bool:=((.le (.v 8) x0_),.false)
 let x4_:SI:=(.ap 3 (.v 0) (.v 70) (.c 1) (.c 0) (.c 0) (.c 0))
 let p5_:SB×Bool:=((.eq x0_ x1_),.true)
 let p6_:SB×Bool:=((.eq x0_ x1_),.false)
 let f0_:List (SB×Bool):=[((.le (.v 1) (.v 63)),.true),((.lt (.v 58) (.v 1)),.false),((.ap 24 (.ap 8 (.ap 8 (.ap 8 (.ap 8 (.ap 8 (.ap 8 (.ap 8 (.ap 8 (.v 0) (.v 1) (.c 0) (.c 77) (.c 0) (.c 0)) (.v 1) (.c 1) (.c 0) (.c 0) (.c 0)) (.v 1) (.c 2) (.c 0) (.c 0) (.c 0)) (.v 1) (.c 3) (.c 0) (.c 0) (.c 0)) (.v 1) (.c 4) (.c 0) (.c 0) (.c 0)) (.v 1) (.c 5) (.c 0) (.c 0) (.c 0)) (.v 1) (.c 6) (.c 0) (.c 0) (.c 0)) (.v 1) (.c 7) (.c 0) (.c 0) (.c 0)) (.v 1) (.v 0) (.v 1) (.c 0) (.c 0)),.true),((.le (.v 1) (.c 20)),.true),((.le (.v 1) (.v 3)),.true),((.le (.c 0) (.v 3)),.true)]
 let f1_:List (SB×Bool):=((.lt (.v 70) (.v 1)),.true)::f0_
 let f2_:List (SB×Bool):=((.lt (.v 70) (.v 1)),.false)::f0_
 let f3_:List (SB×Bool):=((.eq x4_ (.c 1)),.true)::f1_
 let f4_:List (SB×Bool):=((.eq x4_ (.c 1)),.false)::f1_
 let f5_:List (SB×Bool):=p2_::f3_
 let f6_:List (SB×Bool):=((.eq x4_ (.c 2)),.true)::f4_
 let f7_:List (SB×Bool):=((.eq x4_ (.c 2)),.false)::f4_
 let f8_:List (SB×Bool):=p2_::f6_
 let f9_:List (SB×Bool):=p2_::f7_
 [(let i_:In:=⟨⟨[],[]⟩,[(5,5),(9,9),(1,1),(2,2),(3,3),(6,6),(18,18)],[],[]⟩;.cut (p5_::f5_) 6 i_ [] (shT lLat_T6 i_)),
  (.fin (p6_::f5_) 0 ⟨⟨[],[]⟩,[],[],[]⟩ [(.eb (.c .true) (.c .false))] []),
  (let i_:In:=⟨⟨[(70,(.op .add (.v 70) (.c 1)))],[]⟩,[(9,9),(1,1),(2,2),(3,3),(6,6),(7,7),(8,8),(10,10),(5,5)],[],[]⟩;.cut (p3_::f3_) 5 i_ [] (shT lLat_T5 i_)),
  (let i_:In:=⟨⟨[],[]⟩,[(5,5),(9,9),(1,1),(2,2),(3,3),(6,6),(18,18)],[],[]⟩;.cut (p5_::f8_) 6 i_ [] (shT lLat_T6 i_)),
  (.fin (p6_::f8_) 0 ⟨⟨[],[]⟩,[],[],[]⟩ [(.eb (.c .true) (.c .false))] []),
  (let i_:In:=⟨⟨[(70,(.op .add (.v 70) (.c 1)))],[]⟩,[(9,9),(1,1),(2,2),(3,3),(6,6),(7,7),(8,8),(10,10),(5,5)],[],[]⟩;.cut (p3_::f6_) 5 i_ [] (shT lLat_T5 i_)),
  (let i_:In:=⟨⟨[],[]⟩,[(5,5),(9,9),(1,1),(2,2),(3,3),(6,6),(18,18)],[],[]⟩;.cut (p5_::f9_) 6 i_ [] (shT lLat_T6 i_)),
  (.fin (p6_::f9_) 0 ⟨⟨[],[]⟩,[],[],[]⟩ [(.eb (.c .true) (.c .false))] []),
  (let i_:In:=⟨⟨[(70,(.op .add (.v 70) (.c 1)))],[]⟩,[(9,9),(1,1),(2,2),(3,3),(6,6),(7,7),(8,8),(10,10),(5,5)],[],[]⟩;.cut (p3_::f7_) 5 i_ [] (shT lLat_T5 i_)),
  (let i_:In:=⟨⟨[],[]⟩,[(5,5),(9,9),(1,1),(2,2),(3,3),(6,6),(18,11)],[],[]⟩;.cut (((.eq (.v 70) x1_),.true)::f2_) 6 i_ [] (shT lLat_T6 i_)),
  (.fin (((.eq (.v 70) x1_),.false)::f2_) 0 ⟨⟨[],[]⟩,[],[],[]⟩ [(.eb (.c .true) (.c .false))] [])]
def lLat_L6:List Lf:=
 [(let i_:In:=⟨⟨[(89,(.c 0))],[]⟩,[(9,9),(20,20),(1,1),(2,2),(3,3),(6,6),(18,18),(19,19),(21,21),(5,5)],[],[]⟩;.cut ([((.le (.v 1) (.v 63)),.true),((.lt (.v 58) (.v 1)),.false),((.ap 24 (.ap 8 (.ap 8 (.ap 8 (.ap 8 (.ap 8 (.ap 8 (.ap 8 (.ap 8 (.v 0) (.v 1) (.c 0) (.c 77) (.c 0) (.c 0)) (.v 1) (.c 1) (.c 0) (.c 0) (.c 0)) (.v 1) (.c 2) (.c 0) (.c 0) (.c 0)) (.v 1) (.c 3) (.c 0) (.c 0) (.c 0)) (.v 1) (.c 4) (.c 0) (.c 0) (.c 0)) (.v 1) (.c 5) (.c 0) (.c 0) (.c 0)) (.v 1) (.c 6) (.c 0) (.c 0) (.c 0)) (.v 1) (.c 7) (.c 0) (.c 0) (.c 0)) (.v 1) (.v 0) (.v 1) (.c 0) (.c 0)),.true),((.le (.v 1) (.c 20)),.true),((.le (.v 1) (.v 3)),.true),((.le (.c 0) (.v 3)),.true)]) 7 i_ [] (shT lLat_T7 i_))]
def lLat_L7:List Lf:=
 let x0_:SI:=(.ap 3 (.v 0) (.v 89) (.c 1) (.c 0) (.c 0) (.c 0))
 let f0_:List (SB×Bool):=[((.le (.v 1) (.v 63)),.true),((.lt (.v 58) (.v 1)),.false),((.ap 24 (.ap 8 (.ap 8 (.ap 8 (.ap 8 (.ap 8 (.ap 8 (.ap 8 (.ap 8 (.v 0) (.v 1) (.c 0) (.c 77) (.c 0) (.c 0)) (.v 1) (.c 1) (.c 0) (.c 0) (.c 0)) (.v 1) (.c 2) (.c 0) (.c 0) (.c 0)) (.v 1) (.c 3) (.c 0) (.c 0) (.c 0)) (.v 1) (.c 4) (.c 0) (.c 0) (.c 0)) (.v 1) (.c 5) (.c 0) (.c 0) (.c 0)) (.v 1) (.c 6) (.c 0) (.c 0) (.c 0)) (.v 1) (.c 7) (.c 0) (.c 0) (.c 0)) (.v 1) (.v 0) (.v 1) (.c 0) (.c 0)),.true),((.le (.v 1) (.c 20)),.true),((.le (.v 1) (.v 3)),.true),((.le (.c 0) (.v 3)),.true)]
 let f1_:List (SB×Bool):=((.lt (.v 89) (.v 1)),.true)::f0_
 let f2_:List (SB×Bool):=((.lt (.v 89) (.v 1)),.false)::f0_
 let f3_:List (SB×Bool):=((.eq x0_ (.c 1)),.false)::f1_
 [(let i_:In:=⟨⟨[(89,(.op .add (.v 89) (.c 1)))],[]⟩,[(9,9),(20,20),(1,1),(2,2),(3,3),(6,6),(18,18),(19,19),(21,21),(5,5)],[],[]⟩;.cut (((.eq x0_ (.c 1)),.true)::f1_) 7 i_ [] (shT lLat_T7 i_)),
  (let i_:In:=⟨⟨[(89,(.op .add (.v 89) (.c 1)))],[]⟩,[(9,9),(20,20),(1,1),(2,2),(3,3),(6,6),(18,18),(19,19),(21,21),(5,5)],[],[]⟩;.cut (((.eq x0_ (.c 2)),.true)::f3_) 7 i_ [] (shT lLat_T7 i_)),
  (let i_:In:=⟨⟨[(89,(.op .add (.v 89) (.c 1)))],[]⟩,[(9,9),(20,20),(1,1),(2,2),(3,3),(6,6),(18,18),(19,19),(21,21),(5,5)],[],[]⟩;.cut (((.eq x0_ (.c 2)),.false)::f3_) 7 i_ [] (shT lLat_T7 i_)),
  (let i_:In:=⟨⟨[],[]⟩,[(5,5),(9,9),(20,20),(1,1),(2,2),(3,3),(6,6),(22,22)],[],[]⟩;.cut (((.eq (.v 89) (.v 1)),.true)::f2_) 8 i_ [] (shT lLat_T8 i_)),
  (.fin (((.eq (.v 89) (.v 1)),.false)::f2_) 0 ⟨⟨[],[]⟩,[],[],[]⟩ [(.eb (.c .true) (.c .false))] [])]
def lLat_L8:List Lf:=
 [(.fin ([((.eq (.v 89) (.v 1)),.true),((.lt (.v 89) (.v 1)),.false),((.le (.v 1) (.v 63)),.true),((.lt (.v 58) (.v 1)),.false),((.ap 24 (.ap 8 (.ap 8 (.ap 8 (.ap 8 (.ap 8 (.ap 8 (.ap 8 (.ap 8 (.v 0) (.v 1) (.c 0) (.c 77) (.c 0) (.c 0)) (.v 1) (.c 1) (.c 0) (.c 0) (.c 0)) (.v 1) (.c 2) (.c 0) (.c 0) (.c 0)) (.v 1) (.c 3) (.c 0) (.c 0) (.c 0)) (.v 1) (.c 4) (.c 0) (.c 0) (.c 0)) (.v 1) (.c 5) (.c 0) (.c 0) (.c 0)) (.v 1) (.c 6) (.c 0) (.c 0) (.c 0)) (.v 1) (.c 7) (.c 0) (.c 0) (.c 0)) (.v 1) (.v 0) (.v 1) (.c 0) (.c 0)),.true),((.le (.v 1) (.c 20)),.true),((.le (.v 1) (.v 3)),.true),((.le (.c 0) (.v 3)),.true)]) 0 ⟨⟨[],[]⟩,[],[],[]⟩ [] [])]
def lLat_run (T:Tm):=(ex (ccOf Tryz.prog BF [55,53,52,54,60,59] lLat) ((fun cc=>[cWorks.ent cc,sLat.ent cc,rLat.ent cc,rSame.ent cc,sMay.ent cc,sBad.ent cc,rMay.ent cc,rRt.ent cc]) (ccOf Tryz.prog BF [55,53,52,54,60,59] lLat)) (dw (ccOf Tryz.prog BF [55,53,52,54,60,59] lLat) ((fun cc=>[cWorks.ent cc,sLat.ent cc,rLat.ent cc,rSame.ent cc,sMay.ent cc,sBad.ent cc,rMay.ent cc,rRt.ent cc]) (ccOf Tryz.prog BF [55,53,52,54,60,59] lLat)) 1000 4) (stopX [14,19,60,66,89,91,58,69,93,72]) 20000 T.f T.fs T.H).lfs (ccOf Tryz.prog BF [55,53,52,54,60,59] lLat) ((tm0 lLat Tryz.f4 (Tryz.f4.body.getD .skip))::[lLat_T1,lLat_T2,lLat_T3,lLat_T4,lLat_T5,lLat_T6,lLat_T7,lLat_T8]) lLat.os
theorem lLat_h0:lLat_run (tm0 lLat Tryz.f4 (Tryz.f4.body.getD .skip))=some lLat_L0:=by kernel_rfl
theorem lLat_h1:lLat_run lLat_T1=some lLat_L1:=by kernel_rfl
theorem lLat_h2:lLat_run lLat_T2=some lLat_L2:=by kernel_rfl
theorem lLat_h3:lLat_run lLat_T3=some lLat_L3:=by kernel_rfl
theorem lLat_h4:lLat_run lLat_T4=some lLat_L4:=by kernel_rfl
theorem lLat_h5:lLat_run lLat_T5=some lLat_L5:=by kernel_rfl
theorem lLat_h6:lLat_run lLat_T6=some lLat_L6:=by kernel_rfl
theorem lLat_h7:lLat_run lLat_T7=some lLat_L7:=by kernel_rfl
theorem lLat_h8:lLat_run lLat_T8=some lLat_L8:=by kernel_rfl
def lLat_inv:(Nat→Int)→(Nat→Bool)→Nat→(Nat→Int)→(Nat→Bool)→Prop:=fun iv0 _ k iv _=>match k with | 1=>0≤iv 41∧iv 41≤64 | 3=>0≤iv 58∧iv 58≤iv0 1 | 5=>0≤iv 70∧iv 70≤iv0 1∧(iv 70=0∨iv 70 < iv0 8) | 7=>0≤iv 89∧iv 89≤iv0 1 | _=>True
def lLat_mu:(Nat→Int)→(Nat→Bool)→Nat→(Nat→Int)→(Nat→Bool)→Nat:=fun iv0 _ k iv _=>match k with | 0=>2 ^ 90 | 1=>2 ^ 80+(64 - iv 41).toNat | 2=>2 ^ 75 | 3=>2 ^ 70+(iv0 1 - iv 58).toNat | 4=>2 ^ 68 | 5=>2 ^ 60+(iv0 1 - iv 70).toNat | 6=>2 ^ 55 | 7=>2 ^ 50+(iv0 1 - iv 89).toNat | _=>0
theorem lLat_b {iv0:Nat→Int} (hin:InB lLat.B iv0):(0≤iv0 1∧iv0 1≤9223372036854775807)∧0≤iv0 2∧((-9223372036854775808)≤iv0 4∧iv0 4≤9223372036854775807)∧((-9223372036854775808)≤iv0 5∧iv0 5≤9223372036854775807)∧((-9223372036854775808)≤iv0 6∧iv0 6≤9223372036854775807)∧((-9223372036854775808)≤iv0 7∧iv0 7≤9223372036854775807)∧((-9223372036854775808)≤iv0 8∧iv0 8≤9223372036854775807):=by
 have b1:=hin 1 0 9223372036854775807 (by simp [lLat,kS,slV,mayV,i64s,i64b,lmap,lS,gS,bS,fS,bdS,shV,o1,frS,stS,chS,mAS,usS,acS,erS,chE,gS2,lS2,bS2,fS2,sAcq,laS,lwS,lcS,kI1,nwB,oLat,bX,wX,bY,wY])
 simp only [Int.reduceLE,reduceIte,Int.reduceNeg] at b1
 have b2:=hin 2 0 (-1) (by simp [lLat,kS,slV,mayV,i64s,i64b,lmap,lS,gS,bS,fS,bdS,shV,o1,frS,stS,chS,mAS,usS,acS,erS,chE,gS2,lS2,bS2,fS2,sAcq,laS,lwS,lcS,kI1,nwB,oLat,bX,wX,bY,wY])
 simp only [Int.reduceLE,reduceIte,Int.reduceNeg] at b2
 have b4:=hin 4 (-9223372036854775808) 9223372036854775807 (by simp [lLat,kS,slV,mayV,i64s,i64b,lmap,lS,gS,bS,fS,bdS,shV,o1,frS,stS,chS,mAS,usS,acS,erS,chE,gS2,lS2,bS2,fS2,sAcq,laS,lwS,lcS,kI1,nwB,oLat,bX,wX,bY,wY])
 simp only [Int.reduceLE,reduceIte,Int.reduceNeg] at b4
 have b5:=hin 5 (-9223372036854775808) 9223372036854775807 (by simp [lLat,kS,slV,mayV,i64s,i64b,lmap,lS,gS,bS,fS,bdS,shV,o1,frS,stS,chS,mAS,usS,acS,erS,chE,gS2,lS2,bS2,fS2,sAcq,laS,lwS,lcS,kI1,nwB,oLat,bX,wX,bY,wY])
 simp only [Int.reduceLE,reduceIte,Int.reduceNeg] at b5
 have b6:=hin 6 (-9223372036854775808) 9223372036854775807 (by simp [lLat,kS,slV,mayV,i64s,i64b,lmap,lS,gS,bS,fS,bdS,shV,o1,frS,stS,chS,mAS,usS,acS,erS,chE,gS2,lS2,bS2,fS2,sAcq,laS,lwS,lcS,kI1,nwB,oLat,bX,wX,bY,wY])
 simp only [Int.reduceLE,reduceIte,Int.reduceNeg] at b6
 have b7:=hin 7 (-9223372036854775808) 9223372036854775807 (by simp [lLat,kS,slV,mayV,i64s,i64b,lmap,lS,gS,bS,fS,bdS,shV,o1,frS,stS,chS,mAS,usS,acS,erS,chE,gS2,lS2,bS2,fS2,sAcq,laS,lwS,lcS,kI1,nwB,oLat,bX,wX,bY,wY])
 simp only [Int.reduceLE,reduceIte,Int.reduceNeg] at b7
 have b8:=hin 8 (-9223372036854775808) 9223372036854775807 (by simp [lLat,kS,slV,mayV,i64s,i64b,lmap,lS,gS,bS,fS,bdS,shV,o1,frS,stS,chS,mAS,usS,acS,erS,chE,gS2,lS2,bS2,fS2,sAcq,laS,lwS,lcS,kI1,nwB,oLat,bX,wX,bY,wY])
 simp only [Int.reduceLE,reduceIte,Int.reduceNeg] at b8
 exact ⟨b1,b2.1,b4,b5,b6,b7,b8⟩
def lLat_ob (k:Nat) (l:List Lf):Prop:=∀ (kv:Kv) (iv0:Nat→Int) (bv0:Nat→Bool),InB lLat.B iv0→FT (sta FI FB kv iv0 bv0) (dlt dyn0) lLat.F→∀ (iv:Nat→Int) (bv:Nat→Bool),Agr 9 iv0 bv0 iv bv→lLat_inv iv0 bv0 k iv bv→∀ lf∈l,LfT (sta FI FB kv) lLat.os (lLat_inv iv0 bv0) (lLat_mu iv0 bv0) k iv bv lf
theorem lLat_o0:lLat_ob 0 lLat_L0:=by
 intro kv iv0 bv0 hin hF iv bv ha hi
 unfold lLat_L0
 refine List.forall_mem_cons.2 ⟨?_,List.forall_mem_cons.2 ⟨?_,List.forall_mem_cons.2 ⟨?_,List.forall_mem_cons.2 ⟨?_,List.forall_mem_cons.2 ⟨?_,List.forall_mem_cons.2 ⟨?_,List.forall_mem_cons.2 ⟨?_,List.forall_mem_cons.2 ⟨?_,List.forall_mem_cons.2 ⟨?_,List.forall_mem_cons.2 ⟨?_,List.forall_mem_cons.2 ⟨?_,List.forall_mem_cons.2 ⟨?_,List.forall_mem_cons.2 ⟨?_,List.forall_mem_cons.2 ⟨?_,List.forall_mem_cons.2 ⟨?_,List.forall_mem_cons.2 ⟨?_,List.forall_mem_cons.2 ⟨?_,List.forall_mem_cons.2 ⟨?_,List.forall_mem_cons.2 ⟨?_,List.forall_mem_cons.2 ⟨?_,List.forall_mem_cons.2 ⟨?_,List.forall_mem_cons.2 ⟨?_,List.forall_mem_cons.2 ⟨?_,List.forall_mem_cons.2 ⟨?_,List.forall_mem_cons.2 ⟨?_,List.forall_mem_cons.2 ⟨?_,List.forall_mem_cons.2 ⟨?_,List.forall_mem_cons.2 ⟨?_,List.forall_mem_cons.2 ⟨?_,List.forall_mem_cons.2 ⟨?_,List.forall_mem_cons.2 ⟨?_,List.forall_mem_cons.2 ⟨?_,List.forall_mem_cons.2 ⟨?_,List.forall_mem_cons.2 ⟨?_,List.forall_mem_nil _⟩⟩⟩⟩⟩⟩⟩⟩⟩⟩⟩⟩⟩⟩⟩⟩⟩⟩⟩⟩⟩⟩⟩⟩⟩⟩⟩⟩⟩⟩⟩⟩⟩⟩
 all_goals
  intro δ hf
 all_goals
  obtain ⟨b1,b2,b4,b5,b6,b7,b8⟩:=lLat_b hin
 all_goals
  have a0:=ha.1 0 (by omega)
  have a1:=ha.1 1 (by omega)
  have a2:=ha.1 2 (by omega)
  have a3:=ha.1 3 (by omega)
  have a4:=ha.1 4 (by omega)
  have a5:=ha.1 5 (by omega)
  have a6:=ha.1 6 (by omega)
  have a7:=ha.1 7 (by omega)
  have a8:=ha.1 8 (by omega)
 all_goals
  simp only [FT,TP,SB.tp,SI.tv,sta,IB.eval,and_true,true_and,ObsT,Ob.Tv,rowT,kix,In.tiv,↓tbvT,In.tbv,get_cons,get_nil,reduceIte,Nat.reduceEqDiff,Int.reduceToNat,Int.reduceAdd,Int.reduceSub,Int.reduceLE,Int.reduceLT,Int.reduceEq,ne_eq,Bool.false_eq_true,not_true_eq_false,not_false_eq_true,true_iff,false_iff,iff_true,iff_false,false_implies,implies_true,decT,decide_true,decide_false,Bool.decide_eq_true,ap2,pb2,FI_3,FI_3u,FI_8,FI_9,FI_3g,FI_3k,FI_8s,FI_8l,FI_8d,FB_1h,FB_1a,Int.toNat_natCast,Int.toNat_zero,FI_22,FI_23,FI_24,FI_25,FB_22,FB_23,FB_24,lLat_inv,lLat_mu,lLat,o1,othT,kS,slV,mayV,i64s,i64b,lmap,lS,gS,bS,fS,bdS,shV,o1,frS,stS,chS,mAS,usS,acS,erS,chE,gS2,lS2,bS2,fS2,sAcq,laS,lwS,lcS,kI1,nwB,oLat,bX,wX,bY,wY,a0,a1,a2,a3,a4,a5,a6,a7,a8] at hf hi ⊢
 all_goals
  try simp only [lent_def] at hf ⊢
 all_goals
  have hq:=lent_eqR (iv0 0) (n:=iv0 1) (by omega)
 all_goals
  have h1:∀ a b e,chkI (lentC (iv0 0) (iv0 1)) (iv0 1) a b e=chkI (iv0 0) (iv0 1) a b e:=fun a b e=>chkI_congr hq
 all_goals
  have h2:iv0 1≤20→latN (lentC (iv0 0) (iv0 1)) (iv0 1) (iv0 7)=latN (iv0 0) (iv0 1) (iv0 7):=fun h=>latN_congr hq (by omega)
 all_goals
  have h3:iv0 1≤20→latW (lentC (iv0 0) (iv0 1)) (iv0 1) (iv0 7)=latW (iv0 0) (iv0 1) (iv0 7):=fun h=>latW_congr hq (by omega)
 all_goals
  have h4:=sameS_of hq
 all_goals
  have h5:=sameS_of (latC_congr (now:=iv0 7) hq)
 all_goals
  have h6:=latN_in (iv0 0) (iv0 1) (iv0 7)
 all_goals
  try simp only [h1] at hf ⊢
 all_goals
  (repeat' (with_reducible apply And.intro))<;>first
  | omega
  | assumption
  | (unfold inM;omega)
  | exact trivial
  | (clear hin hF ha hq h1;grind)
theorem lLat_o1:lLat_ob 1 lLat_L1:=by
 intro kv iv0 bv0 hin hF iv bv ha hi
 unfold lLat_L1
 refine List.forall_mem_cons.2 ⟨?_,List.forall_mem_cons.2 ⟨?_,List.forall_mem_cons.2 ⟨?_,List.forall_mem_nil _⟩⟩⟩
 all_goals
  intro δ hf
 all_goals
  obtain ⟨b1,b2,b4,b5,b6,b7,b8⟩:=lLat_b hin
 all_goals
  have a0:=ha.1 0 (by omega)
  have a1:=ha.1 1 (by omega)
  have a2:=ha.1 2 (by omega)
  have a3:=ha.1 3 (by omega)
  have a4:=ha.1 4 (by omega)
  have a5:=ha.1 5 (by omega)
  have a6:=ha.1 6 (by omega)
  have a7:=ha.1 7 (by omega)
  have a8:=ha.1 8 (by omega)
 all_goals
  simp only [FT,TP,SB.tp,SI.tv,sta,IB.eval,and_true,true_and,ObsT,Ob.Tv,rowT,kix,In.tiv,↓tbvT,In.tbv,get_cons,get_nil,reduceIte,Nat.reduceEqDiff,Int.reduceToNat,Int.reduceAdd,Int.reduceSub,Int.reduceLE,Int.reduceLT,Int.reduceEq,ne_eq,Bool.false_eq_true,not_true_eq_false,not_false_eq_true,true_iff,false_iff,iff_true,iff_false,false_implies,implies_true,decT,decide_true,decide_false,Bool.decide_eq_true,ap2,pb2,FI_3,FI_3u,FI_8,FI_9,FI_3g,FI_3k,FI_8s,FI_8l,FI_8d,FB_1h,FB_1a,Int.toNat_natCast,Int.toNat_zero,FI_22,FI_23,FI_24,FI_25,FB_22,FB_23,FB_24,lLat_inv,lLat_mu,lLat,o1,othT,kS,slV,mayV,i64s,i64b,lmap,lS,gS,bS,fS,bdS,shV,o1,frS,stS,chS,mAS,usS,acS,erS,chE,gS2,lS2,bS2,fS2,sAcq,laS,lwS,lcS,kI1,nwB,oLat,bX,wX,bY,wY,a0,a1,a2,a3,a4,a5,a6,a7,a8] at hf hi ⊢
 all_goals
  obtain ⟨g0,g1⟩:=hi
 all_goals
  try simp only [lent_def] at hf ⊢
 all_goals
  have hq:=lent_eqR (iv0 0) (n:=iv0 1) (by omega)
 all_goals
  have h1:∀ a b e,chkI (lentC (iv0 0) (iv0 1)) (iv0 1) a b e=chkI (iv0 0) (iv0 1) a b e:=fun a b e=>chkI_congr hq
 all_goals
  have h2:iv0 1≤20→latN (lentC (iv0 0) (iv0 1)) (iv0 1) (iv0 7)=latN (iv0 0) (iv0 1) (iv0 7):=fun h=>latN_congr hq (by omega)
 all_goals
  have h3:iv0 1≤20→latW (lentC (iv0 0) (iv0 1)) (iv0 1) (iv0 7)=latW (iv0 0) (iv0 1) (iv0 7):=fun h=>latW_congr hq (by omega)
 all_goals
  have h4:=sameS_of hq
 all_goals
  have h5:=sameS_of (latC_congr (now:=iv0 7) hq)
 all_goals
  have h6:=latN_in (iv0 0) (iv0 1) (iv0 7)
 all_goals
  try simp only [h1] at hf ⊢
 all_goals
  (repeat' (with_reducible apply And.intro))<;>first
  | omega
  | assumption
  | (unfold inM;omega)
  | exact trivial
  | (clear hin hF ha hq h1;grind)
theorem lLat_o2:lLat_ob 2 lLat_L2:=by
 intro kv iv0 bv0 hin hF iv bv ha hi
 unfold lLat_L2
 refine List.forall_mem_cons.2 ⟨?_,List.forall_mem_nil _⟩
 all_goals
  intro δ hf
 all_goals
  obtain ⟨b1,b2,b4,b5,b6,b7,b8⟩:=lLat_b hin
 all_goals
  have a0:=ha.1 0 (by omega)
  have a1:=ha.1 1 (by omega)
  have a2:=ha.1 2 (by omega)
  have a3:=ha.1 3 (by omega)
  have a4:=ha.1 4 (by omega)
  have a5:=ha.1 5 (by omega)
  have a6:=ha.1 6 (by omega)
  have a7:=ha.1 7 (by omega)
  have a8:=ha.1 8 (by omega)
 all_goals
  simp only [FT,TP,SB.tp,SI.tv,sta,IB.eval,and_true,true_and,ObsT,Ob.Tv,rowT,kix,In.tiv,↓tbvT,In.tbv,get_cons,get_nil,reduceIte,Nat.reduceEqDiff,Int.reduceToNat,Int.reduceAdd,Int.reduceSub,Int.reduceLE,Int.reduceLT,Int.reduceEq,ne_eq,Bool.false_eq_true,not_true_eq_false,not_false_eq_true,true_iff,false_iff,iff_true,iff_false,false_implies,implies_true,decT,decide_true,decide_false,Bool.decide_eq_true,ap2,pb2,FI_3,FI_3u,FI_8,FI_9,FI_3g,FI_3k,FI_8s,FI_8l,FI_8d,FB_1h,FB_1a,Int.toNat_natCast,Int.toNat_zero,FI_22,FI_23,FI_24,FI_25,FB_22,FB_23,FB_24,lLat_inv,lLat_mu,lLat,o1,othT,kS,slV,mayV,i64s,i64b,lmap,lS,gS,bS,fS,bdS,shV,o1,frS,stS,chS,mAS,usS,acS,erS,chE,gS2,lS2,bS2,fS2,sAcq,laS,lwS,lcS,kI1,nwB,oLat,bX,wX,bY,wY,a0,a1,a2,a3,a4,a5,a6,a7,a8] at hf hi ⊢
 all_goals
  (repeat' (with_reducible apply And.intro))<;>first
  | omega
  | assumption
  | (unfold inM;omega)
  | exact trivial
  | (clear hin hF ha;grind)
theorem lLat_o3:lLat_ob 3 lLat_L3:=by
 intro kv iv0 bv0 hin hF iv bv ha hi
 unfold lLat_L3
 refine List.forall_mem_cons.2 ⟨?_,List.forall_mem_cons.2 ⟨?_,List.forall_mem_cons.2 ⟨?_,List.forall_mem_nil _⟩⟩⟩
 all_goals
  intro δ hf
 all_goals
  obtain ⟨b1,b2,b4,b5,b6,b7,b8⟩:=lLat_b hin
 all_goals
  have a0:=ha.1 0 (by omega)
  have a1:=ha.1 1 (by omega)
  have a2:=ha.1 2 (by omega)
  have a3:=ha.1 3 (by omega)
  have a4:=ha.1 4 (by omega)
  have a5:=ha.1 5 (by omega)
  have a6:=ha.1 6 (by omega)
  have a7:=ha.1 7 (by omega)
  have a8:=ha.1 8 (by omega)
 all_goals
  simp only [FT,TP,SB.tp,SI.tv,sta,IB.eval,and_true,true_and,ObsT,Ob.Tv,rowT,kix,In.tiv,↓tbvT,In.tbv,get_cons,get_nil,reduceIte,Nat.reduceEqDiff,Int.reduceToNat,Int.reduceAdd,Int.reduceSub,Int.reduceLE,Int.reduceLT,Int.reduceEq,ne_eq,Bool.false_eq_true,not_true_eq_false,not_false_eq_true,true_iff,false_iff,iff_true,iff_false,false_implies,implies_true,decT,decide_true,decide_false,Bool.decide_eq_true,ap2,pb2,FI_3,FI_3u,FI_8,FI_9,FI_3g,FI_3k,FI_8s,FI_8l,FI_8d,FB_1h,FB_1a,Int.toNat_natCast,Int.toNat_zero,FI_22,FI_23,FI_24,FI_25,FB_22,FB_23,FB_24,lLat_inv,lLat_mu,lLat,o1,othT,kS,slV,mayV,i64s,i64b,lmap,lS,gS,bS,fS,bdS,shV,o1,frS,stS,chS,mAS,usS,acS,erS,chE,gS2,lS2,bS2,fS2,sAcq,laS,lwS,lcS,kI1,nwB,oLat,bX,wX,bY,wY,a0,a1,a2,a3,a4,a5,a6,a7,a8] at hf hi ⊢
 all_goals
  obtain ⟨g0,g1⟩:=hi
 all_goals
  (repeat' (with_reducible apply And.intro))<;>first
  | omega
  | assumption
  | (unfold inM;omega)
  | exact trivial
  | (clear hin hF ha;grind)
theorem lLat_o4:lLat_ob 4 lLat_L4:=by
 intro kv iv0 bv0 hin hF iv bv ha hi
 unfold lLat_L4
 refine List.forall_mem_cons.2 ⟨?_,List.forall_mem_nil _⟩
 all_goals
  intro δ hf
 all_goals
  obtain ⟨b1,b2,b4,b5,b6,b7,b8⟩:=lLat_b hin
 all_goals
  have a0:=ha.1 0 (by omega)
  have a1:=ha.1 1 (by omega)
  have a2:=ha.1 2 (by omega)
  have a3:=ha.1 3 (by omega)
  have a4:=ha.1 4 (by omega)
  have a5:=ha.1 5 (by omega)
  have a6:=ha.1 6 (by omega)
  have a7:=ha.1 7 (by omega)
  have a8:=ha.1 8 (by omega)
 all_goals
  simp only [FT,TP,SB.tp,SI.tv,sta,IB.eval,and_true,true_and,ObsT,Ob.Tv,rowT,kix,In.tiv,↓tbvT,In.tbv,get_cons,get_nil,reduceIte,Nat.reduceEqDiff,Int.reduceToNat,Int.reduceAdd,Int.reduceSub,Int.reduceLE,Int.reduceLT,Int.reduceEq,ne_eq,Bool.false_eq_true,not_true_eq_false,not_false_eq_true,true_iff,false_iff,iff_true,iff_false,false_implies,implies_true,decT,decide_true,decide_false,Bool.decide_eq_true,ap2,pb2,FI_3,FI_3u,FI_8,FI_9,FI_3g,FI_3k,FI_8s,FI_8l,FI_8d,FB_1h,FB_1a,Int.toNat_natCast,Int.toNat_zero,FI_22,FI_23,FI_24,FI_25,FB_22,FB_23,FB_24,lLat_inv,lLat_mu,lLat,o1,othT,kS,slV,mayV,i64s,i64b,lmap,lS,gS,bS,fS,bdS,shV,o1,frS,stS,chS,mAS,usS,acS,erS,chE,gS2,lS2,bS2,fS2,sAcq,laS,lwS,lcS,kI1,nwB,oLat,bX,wX,bY,wY,a0,a1,a2,a3,a4,a5,a6,a7,a8] at hf hi ⊢
 all_goals
  (repeat' (with_reducible apply And.intro))<;>first
  | omega
  | assumption
  | (unfold inM;omega)
  | exact trivial
  | (clear hin hF ha;grind)
theorem lLat_o5:lLat_ob 5 lLat_L5:=by
 intro kv iv0 bv0 hin hF iv bv ha hi
 unfold lLat_L5
 refine List.forall_mem_cons.2 ⟨?_,List.forall_mem_cons.2 ⟨?_,List.forall_mem_cons.2 ⟨?_,List.forall_mem_cons.2 ⟨?_,List.forall_mem_cons.2 ⟨?_,List.forall_mem_cons.2 ⟨?_,List.forall_mem_cons.2 ⟨?_,List.forall_mem_cons.2 ⟨?_,List.forall_mem_cons.2 ⟨?_,List.forall_mem_cons.2 ⟨?_,List.forall_mem_cons.2 ⟨?_,List.forall_mem_nil _⟩⟩⟩⟩⟩⟩⟩⟩⟩⟩⟩
 all_goals
  intro δ hf
 all_goals
  obtain ⟨b1,b2,b4,b5,b6,b7,b8⟩:=lLat_b hin
 all_goals
  have a0:=ha.1 0 (by omega)
  have a1:=ha.1 1 (by omega)
  have a2:=ha.1 2 (by omega)
  have a3:=ha.1 3 (by omega)
  have a4:=ha.1 4 (by omega)
  have a5:=ha.1 5 (by omega)
  have a6:=ha.1 6 (by omega)
  have a7:=ha.1 7 (by omega)
  have a8:=ha.1 8 (by omega)
 all_goals
  simp only [FT,TP,SB.tp,SI.tv,sta,IB.eval,and_true,true_and,ObsT,Ob.Tv,rowT,kix,In.tiv,↓tbvT,In.tbv,get_cons,get_nil,reduceIte,Nat.reduceEqDiff,Int.reduceToNat,Int.reduceAdd,Int.reduceSub,Int.reduceLE,Int.reduceLT,Int.reduceEq,ne_eq,Bool.false_eq_true,not_true_eq_false,not_false_eq_true,true_iff,false_iff,iff_true,iff_false,false_implies,implies_true,decT,decide_true,decide_false,Bool.decide_eq_true,ap2,pb2,FI_3,FI_3u,FI_8,FI_9,FI_3g,FI_3k,FI_8s,FI_8l,FI_8d,FB_1h,FB_1a,Int.toNat_natCast,Int.toNat_zero,FI_22,FI_23,FI_24,FI_25,FB_22,FB_23,FB_24,lLat_inv,lLat_mu,lLat,o1,othT,kS,slV,mayV,i64s,i64b,lmap,lS,gS,bS,fS,bdS,shV,o1,frS,stS,chS,mAS,usS,acS,erS,chE,gS2,lS2,bS2,fS2,sAcq,laS,lwS,lcS,kI1,nwB,oLat,bX,wX,bY,wY,a0,a1,a2,a3,a4,a5,a6,a7,a8] at hf hi ⊢
 all_goals
  obtain ⟨g0,g1,g2⟩:=hi
 all_goals
  (repeat' (with_reducible apply And.intro))<;>first
  | omega
  | assumption
  | (unfold inM;omega)
  | exact trivial
  | (clear hin hF ha;grind)
theorem lLat_o6:lLat_ob 6 lLat_L6:=by
 intro kv iv0 bv0 hin hF iv bv ha hi
 unfold lLat_L6
 refine List.forall_mem_cons.2 ⟨?_,List.forall_mem_nil _⟩
 all_goals
  intro δ hf
 all_goals
  obtain ⟨b1,b2,b4,b5,b6,b7,b8⟩:=lLat_b hin
 all_goals
  have a0:=ha.1 0 (by omega)
  have a1:=ha.1 1 (by omega)
  have a2:=ha.1 2 (by omega)
  have a3:=ha.1 3 (by omega)
  have a4:=ha.1 4 (by omega)
  have a5:=ha.1 5 (by omega)
  have a6:=ha.1 6 (by omega)
  have a7:=ha.1 7 (by omega)
  have a8:=ha.1 8 (by omega)
 all_goals
  simp only [FT,TP,SB.tp,SI.tv,sta,IB.eval,and_true,true_and,ObsT,Ob.Tv,rowT,kix,In.tiv,↓tbvT,In.tbv,get_cons,get_nil,reduceIte,Nat.reduceEqDiff,Int.reduceToNat,Int.reduceAdd,Int.reduceSub,Int.reduceLE,Int.reduceLT,Int.reduceEq,ne_eq,Bool.false_eq_true,not_true_eq_false,not_false_eq_true,true_iff,false_iff,iff_true,iff_false,false_implies,implies_true,decT,decide_true,decide_false,Bool.decide_eq_true,ap2,pb2,FI_3,FI_3u,FI_8,FI_9,FI_3g,FI_3k,FI_8s,FI_8l,FI_8d,FB_1h,FB_1a,Int.toNat_natCast,Int.toNat_zero,FI_22,FI_23,FI_24,FI_25,FB_22,FB_23,FB_24,lLat_inv,lLat_mu,lLat,o1,othT,kS,slV,mayV,i64s,i64b,lmap,lS,gS,bS,fS,bdS,shV,o1,frS,stS,chS,mAS,usS,acS,erS,chE,gS2,lS2,bS2,fS2,sAcq,laS,lwS,lcS,kI1,nwB,oLat,bX,wX,bY,wY,a0,a1,a2,a3,a4,a5,a6,a7,a8] at hf hi ⊢
 all_goals
  (repeat' (with_reducible apply And.intro))<;>first
  | omega
  | assumption
  | (unfold inM;omega)
  | exact trivial
  | (clear hin hF ha;grind)
theorem lLat_o7:lLat_ob 7 lLat_L7:=by
 intro kv iv0 bv0 hin hF iv bv ha hi
 unfold lLat_L7
 refine List.forall_mem_cons.2 ⟨?_,List.forall_mem_cons.2 ⟨?_,List.forall_mem_cons.2 ⟨?_,List.forall_mem_cons.2 ⟨?_,List.forall_mem_cons.2 ⟨?_,List.forall_mem_nil _⟩⟩⟩⟩⟩
 all_goals
  intro δ hf
 all_goals
  obtain ⟨b1,b2,b4,b5,b6,b7,b8⟩:=lLat_b hin
 all_goals
  have a0:=ha.1 0 (by omega)
  have a1:=ha.1 1 (by omega)
  have a2:=ha.1 2 (by omega)
  have a3:=ha.1 3 (by omega)
  have a4:=ha.1 4 (by omega)
  have a5:=ha.1 5 (by omega)
  have a6:=ha.1 6 (by omega)
  have a7:=ha.1 7 (by omega)
  have a8:=ha.1 8 (by omega)
 all_goals
  simp only [FT,TP,SB.tp,SI.tv,sta,IB.eval,and_true,true_and,ObsT,Ob.Tv,rowT,kix,In.tiv,↓tbvT,In.tbv,get_cons,get_nil,reduceIte,Nat.reduceEqDiff,Int.reduceToNat,Int.reduceAdd,Int.reduceSub,Int.reduceLE,Int.reduceLT,Int.reduceEq,ne_eq,Bool.false_eq_true,not_true_eq_false,not_false_eq_true,true_iff,false_iff,iff_true,iff_false,false_implies,implies_true,decT,decide_true,decide_false,Bool.decide_eq_true,ap2,pb2,FI_3,FI_3u,FI_8,FI_9,FI_3g,FI_3k,FI_8s,FI_8l,FI_8d,FB_1h,FB_1a,Int.toNat_natCast,Int.toNat_zero,FI_22,FI_23,FI_24,FI_25,FB_22,FB_23,FB_24,lLat_inv,lLat_mu,lLat,o1,othT,kS,slV,mayV,i64s,i64b,lmap,lS,gS,bS,fS,bdS,shV,o1,frS,stS,chS,mAS,usS,acS,erS,chE,gS2,lS2,bS2,fS2,sAcq,laS,lwS,lcS,kI1,nwB,oLat,bX,wX,bY,wY,a0,a1,a2,a3,a4,a5,a6,a7,a8] at hf hi ⊢
 all_goals
  obtain ⟨g0,g1⟩:=hi
 all_goals
  (repeat' (with_reducible apply And.intro))<;>first
  | omega
  | assumption
  | (unfold inM;omega)
  | exact trivial
  | (clear hin hF ha;grind)
theorem lLat_o8:lLat_ob 8 lLat_L8:=by
 intro kv iv0 bv0 hin hF iv bv ha hi
 unfold lLat_L8
 refine List.forall_mem_cons.2 ⟨?_,List.forall_mem_nil _⟩
 all_goals
  intro δ hf
 all_goals
  obtain ⟨b1,b2,b4,b5,b6,b7,b8⟩:=lLat_b hin
 all_goals
  have a0:=ha.1 0 (by omega)
  have a1:=ha.1 1 (by omega)
  have a2:=ha.1 2 (by omega)
  have a3:=ha.1 3 (by omega)
  have a4:=ha.1 4 (by omega)
  have a5:=ha.1 5 (by omega)
  have a6:=ha.1 6 (by omega)
  have a7:=ha.1 7 (by omega)
  have a8:=ha.1 8 (by omega)
 all_goals
  simp only [FT,TP,SB.tp,SI.tv,sta,IB.eval,and_true,true_and,ObsT,Ob.Tv,rowT,kix,In.tiv,↓tbvT,In.tbv,get_cons,get_nil,reduceIte,Nat.reduceEqDiff,Int.reduceToNat,Int.reduceAdd,Int.reduceSub,Int.reduceLE,Int.reduceLT,Int.reduceEq,ne_eq,Bool.false_eq_true,not_true_eq_false,not_false_eq_true,true_iff,false_iff,iff_true,iff_false,false_implies,implies_true,decT,decide_true,decide_false,Bool.decide_eq_true,ap2,pb2,FI_3,FI_3u,FI_8,FI_9,FI_3g,FI_3k,FI_8s,FI_8l,FI_8d,FB_1h,FB_1a,Int.toNat_natCast,Int.toNat_zero,FI_22,FI_23,FI_24,FI_25,FB_22,FB_23,FB_24,lLat_inv,lLat_mu,lLat,o1,othT,kS,slV,mayV,i64s,i64b,lmap,lS,gS,bS,fS,bdS,shV,o1,frS,stS,chS,mAS,usS,acS,erS,chE,gS2,lS2,bS2,fS2,sAcq,laS,lwS,lcS,kI1,nwB,oLat,bX,wX,bY,wY,a0,a1,a2,a3,a4,a5,a6,a7,a8] at hf hi ⊢
 all_goals
  (repeat' (with_reducible apply And.intro))<;>first
  | omega
  | assumption
  | (unfold inM;omega)
  | exact trivial
  | (clear hin hF ha;grind)
theorem lLat_c:LsC ((tm0 lLat Tryz.f4 (Tryz.f4.body.getD .skip))::[lLat_T1,lLat_T2,lLat_T3,lLat_T4,lLat_T5,lLat_T6,lLat_T7,lLat_T8]) lLat.os [lLat_L0,lLat_L1,lLat_L2,lLat_L3,lLat_L4,lLat_L5,lLat_L6,lLat_L7,lLat_L8]:=by
 unfold lLat_L0 lLat_L1 lLat_L2 lLat_L3 lLat_L4 lLat_L5 lLat_L6 lLat_L7 lLat_L8
 exact ⟨List.forall_mem_cons.2 ⟨⟨⟨_,rfl,rfl⟩,by kernel_rfl⟩,List.forall_mem_cons.2 ⟨⟨⟨_,rfl,rfl⟩,by kernel_rfl⟩,List.forall_mem_cons.2 ⟨⟨⟨_,rfl,rfl⟩,by kernel_rfl⟩,List.forall_mem_cons.2 ⟨⟨⟨_,rfl,rfl⟩,by kernel_rfl⟩,List.forall_mem_cons.2 ⟨⟨⟨_,rfl,rfl⟩,by kernel_rfl⟩,List.forall_mem_cons.2 ⟨⟨⟨_,rfl,rfl⟩,by kernel_rfl⟩,List.forall_mem_cons.2 ⟨⟨⟨_,rfl,rfl⟩,by kernel_rfl⟩,List.forall_mem_cons.2 ⟨⟨⟨_,rfl,rfl⟩,by kernel_rfl⟩,List.forall_mem_cons.2 ⟨⟨⟨_,rfl,rfl⟩,by kernel_rfl⟩,List.forall_mem_cons.2 ⟨⟨⟨_,rfl,rfl⟩,by kernel_rfl⟩,List.forall_mem_cons.2 ⟨⟨⟨_,rfl,rfl⟩,by kernel_rfl⟩,List.forall_mem_cons.2 ⟨⟨⟨_,rfl,rfl⟩,by kernel_rfl⟩,List.forall_mem_cons.2 ⟨⟨⟨_,rfl,rfl⟩,by kernel_rfl⟩,List.forall_mem_cons.2 ⟨⟨⟨_,rfl,rfl⟩,by kernel_rfl⟩,List.forall_mem_cons.2 ⟨⟨⟨_,rfl,rfl⟩,by kernel_rfl⟩,List.forall_mem_cons.2 ⟨⟨⟨_,rfl,rfl⟩,by kernel_rfl⟩,List.forall_mem_cons.2 ⟨⟨⟨_,rfl,rfl⟩,by kernel_rfl⟩,List.forall_mem_cons.2 ⟨⟨⟨_,rfl,rfl⟩,by kernel_rfl⟩,List.forall_mem_cons.2 ⟨⟨⟨_,rfl,rfl⟩,by kernel_rfl⟩,List.forall_mem_cons.2 ⟨⟨⟨_,rfl,rfl⟩,by kernel_rfl⟩,List.forall_mem_cons.2 ⟨⟨⟨_,rfl,rfl⟩,by kernel_rfl⟩,List.forall_mem_cons.2 ⟨⟨⟨_,rfl,rfl⟩,by kernel_rfl⟩,List.forall_mem_cons.2 ⟨⟨⟨_,rfl,rfl⟩,by kernel_rfl⟩,List.forall_mem_cons.2 ⟨⟨⟨_,rfl,rfl⟩,by kernel_rfl⟩,List.forall_mem_cons.2 ⟨⟨⟨_,rfl,rfl⟩,by kernel_rfl⟩,List.forall_mem_cons.2 ⟨⟨⟨_,rfl,rfl⟩,by kernel_rfl⟩,List.forall_mem_cons.2 ⟨⟨⟨_,rfl,rfl⟩,by kernel_rfl⟩,List.forall_mem_cons.2 ⟨⟨⟨_,rfl,rfl⟩,by kernel_rfl⟩,List.forall_mem_cons.2 ⟨⟨⟨_,rfl,rfl⟩,by kernel_rfl⟩,List.forall_mem_cons.2 ⟨⟨⟨_,rfl,rfl⟩,by kernel_rfl⟩,List.forall_mem_cons.2 ⟨⟨⟨_,rfl,rfl⟩,by kernel_rfl⟩,List.forall_mem_cons.2 ⟨⟨⟨_,rfl,rfl⟩,by kernel_rfl⟩,List.forall_mem_cons.2 ⟨⟨⟨_,rfl,rfl⟩,by kernel_rfl⟩,List.forall_mem_cons.2 ⟨⟨⟨_,rfl,rfl⟩,by kernel_rfl⟩,List.forall_mem_nil _⟩⟩⟩⟩⟩⟩⟩⟩⟩⟩⟩⟩⟩⟩⟩⟩⟩⟩⟩⟩⟩⟩⟩⟩⟩⟩⟩⟩⟩⟩⟩⟩⟩⟩,List.forall_mem_cons.2 ⟨⟨⟨_,rfl,rfl⟩,by kernel_rfl⟩,List.forall_mem_cons.2 ⟨⟨⟨_,rfl,rfl⟩,by kernel_rfl⟩,List.forall_mem_cons.2 ⟨⟨⟨_,rfl,rfl⟩,by kernel_rfl⟩,List.forall_mem_nil _⟩⟩⟩,List.forall_mem_cons.2 ⟨⟨⟨_,rfl,rfl⟩,by kernel_rfl⟩,List.forall_mem_nil _⟩,List.forall_mem_cons.2 ⟨⟨⟨_,rfl,rfl⟩,by kernel_rfl⟩,List.forall_mem_cons.2 ⟨⟨⟨_,rfl,rfl⟩,by kernel_rfl⟩,List.forall_mem_cons.2 ⟨⟨⟨_,rfl,rfl⟩,by kernel_rfl⟩,List.forall_mem_nil _⟩⟩⟩,List.forall_mem_cons.2 ⟨⟨⟨_,rfl,rfl⟩,by kernel_rfl⟩,List.forall_mem_nil _⟩,List.forall_mem_cons.2 ⟨⟨⟨_,rfl,rfl⟩,by kernel_rfl⟩,List.forall_mem_cons.2 ⟨⟨⟨_,rfl,rfl⟩,by kernel_rfl⟩,List.forall_mem_cons.2 ⟨⟨⟨_,rfl,rfl⟩,by kernel_rfl⟩,List.forall_mem_cons.2 ⟨⟨⟨_,rfl,rfl⟩,by kernel_rfl⟩,List.forall_mem_cons.2 ⟨⟨⟨_,rfl,rfl⟩,by kernel_rfl⟩,List.forall_mem_cons.2 ⟨⟨⟨_,rfl,rfl⟩,by kernel_rfl⟩,List.forall_mem_cons.2 ⟨⟨⟨_,rfl,rfl⟩,by kernel_rfl⟩,List.forall_mem_cons.2 ⟨⟨⟨_,rfl,rfl⟩,by kernel_rfl⟩,List.forall_mem_cons.2 ⟨⟨⟨_,rfl,rfl⟩,by kernel_rfl⟩,List.forall_mem_cons.2 ⟨⟨⟨_,rfl,rfl⟩,by kernel_rfl⟩,List.forall_mem_cons.2 ⟨⟨⟨_,rfl,rfl⟩,by kernel_rfl⟩,List.forall_mem_nil _⟩⟩⟩⟩⟩⟩⟩⟩⟩⟩⟩,List.forall_mem_cons.2 ⟨⟨⟨_,rfl,rfl⟩,by kernel_rfl⟩,List.forall_mem_nil _⟩,List.forall_mem_cons.2 ⟨⟨⟨_,rfl,rfl⟩,by kernel_rfl⟩,List.forall_mem_cons.2 ⟨⟨⟨_,rfl,rfl⟩,by kernel_rfl⟩,List.forall_mem_cons.2 ⟨⟨⟨_,rfl,rfl⟩,by kernel_rfl⟩,List.forall_mem_cons.2 ⟨⟨⟨_,rfl,rfl⟩,by kernel_rfl⟩,List.forall_mem_cons.2 ⟨⟨⟨_,rfl,rfl⟩,by kernel_rfl⟩,List.forall_mem_nil _⟩⟩⟩⟩⟩,List.forall_mem_cons.2 ⟨⟨⟨_,rfl,rfl⟩,by kernel_rfl⟩,List.forall_mem_nil _⟩,trivial⟩
theorem lLat_ok:lLat.Ok Tryz.prog FI FB:=
 Con.of_plain (body:=Tryz.f4.body.getD .skip) pok2 fiok (EntsFor.cons cWorks_ok (EntsFor.cons sLat_ok (EntsFor.cons rLat_ok (EntsFor.cons rSame_ok (EntsFor.cons sMay_ok (EntsFor.cons sBad_ok (EntsFor.cons rMay_ok (EntsFor.cons rRt_ok EntsFor.nil)))))))) lLat Tryz.func4 (by kernel_rfl) 9 [lLat_T1,lLat_T2,lLat_T3,lLat_T4,lLat_T5,lLat_T6,lLat_T7,lLat_T8] (by kernel_rfl) [lLat_L0,lLat_L1,lLat_L2,lLat_L3,lLat_L4,lLat_L5,lLat_L6,lLat_L7,lLat_L8] ⟨lLat_h0,lLat_h1,lLat_h2,lLat_h3,lLat_h4,lLat_h5,lLat_h6,lLat_h7,lLat_h8,trivial⟩ lLat_c
  lLat_inv lLat_mu (fun _ _ _=>trivial) fun kv iv0 bv0 hin hF k l iv bv hk ha hi=>match k,hk,hi with
  | 0,hk,hi=>by
    cases hk
    exact lLat_o0 kv iv0 bv0 hin hF iv bv ha hi
  | 1,hk,hi=>by
    cases hk
    exact lLat_o1 kv iv0 bv0 hin hF iv bv ha hi
  | 2,hk,hi=>by
    cases hk
    exact lLat_o2 kv iv0 bv0 hin hF iv bv ha hi
  | 3,hk,hi=>by
    cases hk
    exact lLat_o3 kv iv0 bv0 hin hF iv bv ha hi
  | 4,hk,hi=>by
    cases hk
    exact lLat_o4 kv iv0 bv0 hin hF iv bv ha hi
  | 5,hk,hi=>by
    cases hk
    exact lLat_o5 kv iv0 bv0 hin hF iv bv ha hi
  | 6,hk,hi=>by
    cases hk
    exact lLat_o6 kv iv0 bv0 hin hF iv bv ha hi
  | 7,hk,hi=>by
    cases hk
    exact lLat_o7 kv iv0 bv0 hin hF iv bv ha hi
  | 8,hk,hi=>by
    cases hk
    exact lLat_o8 kv iv0 bv0 hin hF iv bv ha hi
  | k+9,hk,_=>by simp at hk
def lLat0_L0:List Lf:=
 let p0_:SB×Bool:=((.le (.c 1) (.v 4)),.true)
 let p1_:SB×Bool:=((.le (.c 1) (.v 5)),.true)
 let p2_:SB×Bool:=((.le (.v 5) (.c 8)),.true)
 let p3_:SB×Bool:=((.le (.c 1) (.v 6)),.true)
 let p4_:SB×Bool:=((.le (.v 6) (.c 4)),.true)
 let p5_:SB×Bool:=((.le (.v 4) (.c 64)),.true)
 let p6_:SB×Bool:=((.le (.v 6) (.c 4)),.false)
 let p7_:SB×Bool:=((.le (.c 1) (.v 6)),.false)
 let p8_:SB×Bool:=((.le (.v 5) (.c 8)),.false)
 let p9_:SB×Bool:=((.le (.c 1) (.v 5)),.false)
 let p10_:SB×Bool:=((.le (.c 1) (.v 4)),.false)
 let p11_:SB×Bool:=((.le (.v 4) (.c 64)),.false)
 let x12_:SI:=(.ap 22 (.c 0) (.c 0) (.v 4) (.v 5) (.v 6) (.c 0))
 let x13_:SI:=(.ap 24 (.c 0) (.c 0) (.v 7) (.c 0) (.c 0) (.c 0))
 let f0_:List (SB×Bool):=[((.eq x12_ (.c 0)),.true),((.le (.c 1) (.d 0)),.true)]
 let f1_:List (SB×Bool):=[((.eq x12_ (.c 0)),.false),((.le (.c 1) (.d 0)),.true)]
 let f2_:List (SB×Bool):=((.le (.c 0) (.v 7)),.true)::f0_
 let f3_:List (SB×Bool):=((.le (.c 0) (.v 7)),.false)::f0_
 let f4_:List (SB×Bool):=p0_::f1_
 let f5_:List (SB×Bool):=((.le (.v 7) (.c 1099511627776)),.true)::f2_
 let f6_:List (SB×Bool):=((.le (.v 7) (.c 1099511627776)),.false)::f2_
 let f7_:List (SB×Bool):=p0_::f3_
 let f8_:List (SB×Bool):=p5_::f4_
 let f9_:List (SB×Bool):=p0_::f6_
 let f10_:List (SB×Bool):=p5_::f7_
 let f11_:List (SB×Bool):=p1_::f8_
 let f12_:List (SB×Bool):=((.le (.c 0) (.d 1)),.true)::((.lt (.c 0) x13_),.false)::f5_
 let f13_:List (SB×Bool):=p5_::f9_
 let f14_:List (SB×Bool):=p1_::f10_
 let f15_:List (SB×Bool):=p2_::f11_
 let f16_:List (SB×Bool):=((.le (.c 0) (.d 1)),.true)::((.le x13_ (.d 2)),.true)::((.lt (.c 0) x13_),.true)::f5_
 let f17_:List (SB×Bool):=p0_::f12_
 let f18_:List (SB×Bool):=p1_::f13_
 let f19_:List (SB×Bool):=p2_::f14_
 let f20_:List (SB×Bool):=p3_::f15_
 let f21_:List (SB×Bool):=p0_::f16_
 let f22_:List (SB×Bool):=p5_::f17_
 let f23_:List (SB×Bool):=p2_::f18_
 let f24_:List (SB×Bool):=p3_::f19_
 let f25_:List (SB×Bool):=p5_::f21_
 let f26_:List (SB×Bool):=p1_::f22_
 let f27_:List (SB×Bool):=p3_::f23_
 let f28_:List (SB×Bool):=p1_::f25_
 let f29_:List (SB×Bool):=p2_::f26_
 let f30_:List (SB×Bool):=p2_::f28_
 let f31_:List (SB×Bool):=p3_::f29_
 let f32_:List (SB×Bool):=p3_::f30_
 [(.fin (p4_::f32_) 0 ⟨⟨[],[]⟩,[],[],[]⟩ [(.eb (.c .true) (.c .false))] []),
  (.fin (p6_::f32_) 0 ⟨⟨[],[]⟩,[],[],[]⟩ [(.eb (.c .true) (.c .false))] []),
  (.fin (p7_::f30_) 0 ⟨⟨[],[]⟩,[],[],[]⟩ [(.eb (.c .true) (.c .false))] []),
  (.fin (p8_::f28_) 0 ⟨⟨[],[]⟩,[],[],[]⟩ [(.eb (.c .true) (.c .false))] []),
  (.fin (p9_::f25_) 0 ⟨⟨[],[]⟩,[],[],[]⟩ [(.eb (.c .true) (.c .false))] []),
  (.fin (p11_::f21_) 0 ⟨⟨[],[]⟩,[],[],[]⟩ [(.eb (.c .true) (.c .false))] []),
  (.fin (p10_::f16_) 0 ⟨⟨[],[]⟩,[],[],[]⟩ [(.eb (.c .true) (.c .false))] []),
  (.fin (p4_::f31_) 0 ⟨⟨[],[]⟩,[],[],[]⟩ [(.eb (.c .true) (.c .false))] []),
  (.fin (p6_::f31_) 0 ⟨⟨[],[]⟩,[],[],[]⟩ [(.eb (.c .true) (.c .false))] []),
  (.fin (p7_::f29_) 0 ⟨⟨[],[]⟩,[],[],[]⟩ [(.eb (.c .true) (.c .false))] []),
  (.fin (p8_::f26_) 0 ⟨⟨[],[]⟩,[],[],[]⟩ [(.eb (.c .true) (.c .false))] []),
  (.fin (p9_::f22_) 0 ⟨⟨[],[]⟩,[],[],[]⟩ [(.eb (.c .true) (.c .false))] []),
  (.fin (p11_::f17_) 0 ⟨⟨[],[]⟩,[],[],[]⟩ [(.eb (.c .true) (.c .false))] []),
  (.fin (p10_::f12_) 0 ⟨⟨[],[]⟩,[],[],[]⟩ [(.eb (.c .true) (.c .false))] []),
  (.fin (p4_::f27_) 0 ⟨⟨[],[]⟩,[],[],[]⟩ [] []),
  (.fin (p6_::f27_) 0 ⟨⟨[],[]⟩,[],[],[]⟩ [] []),
  (.fin (p7_::f23_) 0 ⟨⟨[],[]⟩,[],[],[]⟩ [] []),
  (.fin (p8_::f18_) 0 ⟨⟨[],[]⟩,[],[],[]⟩ [] []),
  (.fin (p9_::f13_) 0 ⟨⟨[],[]⟩,[],[],[]⟩ [] []),
  (.fin (p11_::f9_) 0 ⟨⟨[],[]⟩,[],[],[]⟩ [] []),
  (.fin (p10_::f6_) 0 ⟨⟨[],[]⟩,[],[],[]⟩ [] []),
  (.fin (p4_::f24_) 0 ⟨⟨[],[]⟩,[],[],[]⟩ [] []),
  (.fin (p6_::f24_) 0 ⟨⟨[],[]⟩,[],[],[]⟩ [] []),
  (.fin (p7_::f19_) 0 ⟨⟨[],[]⟩,[],[],[]⟩ [] []),
  (.fin (p8_::f14_) 0 ⟨⟨[],[]⟩,[],[],[]⟩ [] []),
  (.fin (p9_::f10_) 0 ⟨⟨[],[]⟩,[],[],[]⟩ [] []),
  (.fin (p11_::f7_) 0 ⟨⟨[],[]⟩,[],[],[]⟩ [] []),
  (.fin (p10_::f3_) 0 ⟨⟨[],[]⟩,[],[],[]⟩ [] []),
  (.fin (p4_::f20_) 0 ⟨⟨[],[]⟩,[],[],[]⟩ [] []),
  (.fin (p6_::f20_) 0 ⟨⟨[],[]⟩,[],[],[]⟩ [] []),
  (.fin (p7_::f15_) 0 ⟨⟨[],[]⟩,[],[],[]⟩ [] []),
  (.fin (p8_::f11_) 0 ⟨⟨[],[]⟩,[],[],[]⟩ [] []),
  (.fin (p9_::f8_) 0 ⟨⟨[],[]⟩,[],[],[]⟩ [] []),
  (.fin (p11_::f4_) 0 ⟨⟨[],[]⟩,[],[],[]⟩ [] []),
  (.fin (p10_::f1_) 0 ⟨⟨[],[]⟩,[],[],[]⟩ [] [])]
def lLat0_run (T:Tm):=(ex (ccOf Tryz.prog BF [55,53,52,54,60,59] lLat0) ((fun cc=>[cWorks.ent cc,sLat.ent cc,rLat.ent cc,rSame.ent cc,sMay.ent cc,sBad.ent cc,rMay.ent cc,rRt.ent cc]) (ccOf Tryz.prog BF [55,53,52,54,60,59] lLat0)) (dw (ccOf Tryz.prog BF [55,53,52,54,60,59] lLat0) ((fun cc=>[cWorks.ent cc,sLat.ent cc,rLat.ent cc,rSame.ent cc,sMay.ent cc,sBad.ent cc,rMay.ent cc,rRt.ent cc]) (ccOf Tryz.prog BF [55,53,52,54,60,59] lLat0)) 1000 4) (stopX [4,50,14,19,60,66,89,91,58,69,93,72]) 20000 T.f T.fs T.H).lfs (ccOf Tryz.prog BF [55,53,52,54,60,59] lLat0) ((tm0 lLat0 Tryz.f4 (Tryz.f4.body.getD .skip))::[]) lLat0.os
theorem lLat0_h0:lLat0_run (tm0 lLat0 Tryz.f4 (Tryz.f4.body.getD .skip))=some lLat0_L0:=by kernel_rfl
def lLat0_inv:(Nat→Int)→(Nat→Bool)→Nat→(Nat→Int)→(Nat→Bool)→Prop:=fun _ _ _ _ _=>True
def lLat0_mu:(Nat→Int)→(Nat→Bool)→Nat→(Nat→Int)→(Nat→Bool)→Nat:=fun _ _ _ _ _=>0
theorem lLat0_b {iv0:Nat→Int} (hin:InB lLat0.B iv0):((-9223372036854775808)≤iv0 4∧iv0 4≤9223372036854775807)∧((-9223372036854775808)≤iv0 5∧iv0 5≤9223372036854775807)∧((-9223372036854775808)≤iv0 6∧iv0 6≤9223372036854775807)∧((-9223372036854775808)≤iv0 7∧iv0 7≤9223372036854775807)∧((-9223372036854775808)≤iv0 8∧iv0 8≤9223372036854775807):=by
 have b4:=hin 4 (-9223372036854775808) 9223372036854775807 (by simp [lLat0,kS,slV,mayV,i64s,i64b,lmap,lS,gS,bS,fS,bdS,shV,o1,frS,stS,chS,mAS,usS,acS,erS,chE,gS2,lS2,bS2,fS2,sAcq,laS,lwS,lcS,kI1,nwB,oLat,bX,wX,bY,wY])
 simp only [Int.reduceLE,reduceIte,Int.reduceNeg] at b4
 have b5:=hin 5 (-9223372036854775808) 9223372036854775807 (by simp [lLat0,kS,slV,mayV,i64s,i64b,lmap,lS,gS,bS,fS,bdS,shV,o1,frS,stS,chS,mAS,usS,acS,erS,chE,gS2,lS2,bS2,fS2,sAcq,laS,lwS,lcS,kI1,nwB,oLat,bX,wX,bY,wY])
 simp only [Int.reduceLE,reduceIte,Int.reduceNeg] at b5
 have b6:=hin 6 (-9223372036854775808) 9223372036854775807 (by simp [lLat0,kS,slV,mayV,i64s,i64b,lmap,lS,gS,bS,fS,bdS,shV,o1,frS,stS,chS,mAS,usS,acS,erS,chE,gS2,lS2,bS2,fS2,sAcq,laS,lwS,lcS,kI1,nwB,oLat,bX,wX,bY,wY])
 simp only [Int.reduceLE,reduceIte,Int.reduceNeg] at b6
 have b7:=hin 7 (-9223372036854775808) 9223372036854775807 (by simp [lLat0,kS,slV,mayV,i64s,i64b,lmap,lS,gS,bS,fS,bdS,shV,o1,frS,stS,chS,mAS,usS,acS,erS,chE,gS2,lS2,bS2,fS2,sAcq,laS,lwS,lcS,kI1,nwB,oLat,bX,wX,bY,wY])
 simp only [Int.reduceLE,reduceIte,Int.reduceNeg] at b7
 have b8:=hin 8 (-9223372036854775808) 9223372036854775807 (by simp [lLat0,kS,slV,mayV,i64s,i64b,lmap,lS,gS,bS,fS,bdS,shV,o1,frS,stS,chS,mAS,usS,acS,erS,chE,gS2,lS2,bS2,fS2,sAcq,laS,lwS,lcS,kI1,nwB,oLat,bX,wX,bY,wY])
 simp only [Int.reduceLE,reduceIte,Int.reduceNeg] at b8
 exact ⟨b4,b5,b6,b7,b8⟩
def lLat0_ob (k:Nat) (l:List Lf):Prop:=∀ (kv:Kv) (iv0:Nat→Int) (bv0:Nat→Bool),InB lLat0.B iv0→FT (sta FI FB kv iv0 bv0) (dlt dyn0) lLat0.F→∀ (iv:Nat→Int) (bv:Nat→Bool),Agr 9 iv0 bv0 iv bv→lLat0_inv iv0 bv0 k iv bv→∀ lf∈l,LfT (sta FI FB kv) lLat0.os (lLat0_inv iv0 bv0) (lLat0_mu iv0 bv0) k iv bv lf
theorem lLat0_o0:lLat0_ob 0 lLat0_L0:=by
 intro kv iv0 bv0 hin hF iv bv ha hi
 unfold lLat0_L0
 refine List.forall_mem_cons.2 ⟨?_,List.forall_mem_cons.2 ⟨?_,List.forall_mem_cons.2 ⟨?_,List.forall_mem_cons.2 ⟨?_,List.forall_mem_cons.2 ⟨?_,List.forall_mem_cons.2 ⟨?_,List.forall_mem_cons.2 ⟨?_,List.forall_mem_cons.2 ⟨?_,List.forall_mem_cons.2 ⟨?_,List.forall_mem_cons.2 ⟨?_,List.forall_mem_cons.2 ⟨?_,List.forall_mem_cons.2 ⟨?_,List.forall_mem_cons.2 ⟨?_,List.forall_mem_cons.2 ⟨?_,List.forall_mem_cons.2 ⟨?_,List.forall_mem_cons.2 ⟨?_,List.forall_mem_cons.2 ⟨?_,List.forall_mem_cons.2 ⟨?_,List.forall_mem_cons.2 ⟨?_,List.forall_mem_cons.2 ⟨?_,List.forall_mem_cons.2 ⟨?_,List.forall_mem_cons.2 ⟨?_,List.forall_mem_cons.2 ⟨?_,List.forall_mem_cons.2 ⟨?_,List.forall_mem_cons.2 ⟨?_,List.forall_mem_cons.2 ⟨?_,List.forall_mem_cons.2 ⟨?_,List.forall_mem_cons.2 ⟨?_,List.forall_mem_cons.2 ⟨?_,List.forall_mem_cons.2 ⟨?_,List.forall_mem_cons.2 ⟨?_,List.forall_mem_cons.2 ⟨?_,List.forall_mem_cons.2 ⟨?_,List.forall_mem_cons.2 ⟨?_,List.forall_mem_cons.2 ⟨?_,List.forall_mem_nil _⟩⟩⟩⟩⟩⟩⟩⟩⟩⟩⟩⟩⟩⟩⟩⟩⟩⟩⟩⟩⟩⟩⟩⟩⟩⟩⟩⟩⟩⟩⟩⟩⟩⟩⟩
 all_goals
  intro δ hf
 all_goals
  obtain ⟨b4,b5,b6,b7,b8⟩:=lLat0_b hin
 all_goals
  have a4:=ha.1 4 (by omega)
  have a5:=ha.1 5 (by omega)
  have a6:=ha.1 6 (by omega)
  have a7:=ha.1 7 (by omega)
  have a8:=ha.1 8 (by omega)
 all_goals
  simp only [FT,TP,SB.tp,SI.tv,sta,IB.eval,and_true,true_and,ObsT,Ob.Tv,rowT,kix,In.tiv,↓tbvT,In.tbv,get_cons,get_nil,reduceIte,Nat.reduceEqDiff,Int.reduceToNat,Int.reduceAdd,Int.reduceSub,Int.reduceLE,Int.reduceLT,Int.reduceEq,ne_eq,Bool.false_eq_true,not_true_eq_false,not_false_eq_true,true_iff,false_iff,iff_true,iff_false,false_implies,implies_true,decT,decide_true,decide_false,Bool.decide_eq_true,ap2,pb2,FI_3,FI_3u,FI_8,FI_9,FI_3g,FI_3k,FI_8s,FI_8l,FI_8d,FB_1h,FB_1a,Int.toNat_natCast,Int.toNat_zero,FI_22,FI_24,FB_22,FB_24,lLat0_inv,lLat0_mu,lLat0,o1,othT,kS,slV,mayV,i64s,i64b,lmap,lS,gS,bS,fS,bdS,shV,o1,frS,stS,chS,mAS,usS,acS,erS,chE,gS2,lS2,bS2,fS2,sAcq,laS,lwS,lcS,kI1,nwB,oLat,bX,wX,bY,wY,a4,a5,a6,a7,a8] at hf hi ⊢
 all_goals
  try simp only [lent_def] at hf ⊢
 all_goals
  have h6:=sameS_of (eqR_refl 0 (iv0 6))
 all_goals
  have h7:=chk_cases 0 0 (iv0 4) (iv0 5) (iv0 6)
 all_goals
  have h9:=fun c=>chk_cases c 0 (iv0 4) (iv0 5) (iv0 6)
 all_goals
  have h9:=h9 (lentC 0 0)
 all_goals
  unfold shpS at h7 h9
 all_goals
  (repeat' (with_reducible apply And.intro))<;>first
  | omega
  | assumption
  | (unfold inM;omega)
  | exact trivial
  | (clear hin hF ha;grind)
theorem lLat0_c:LsC ((tm0 lLat0 Tryz.f4 (Tryz.f4.body.getD .skip))::[]) lLat0.os [lLat0_L0]:=by
 unfold lLat0_L0
 exact ⟨List.forall_mem_cons.2 ⟨⟨⟨_,rfl,rfl⟩,by kernel_rfl⟩,List.forall_mem_cons.2 ⟨⟨⟨_,rfl,rfl⟩,by kernel_rfl⟩,List.forall_mem_cons.2 ⟨⟨⟨_,rfl,rfl⟩,by kernel_rfl⟩,List.forall_mem_cons.2 ⟨⟨⟨_,rfl,rfl⟩,by kernel_rfl⟩,List.forall_mem_cons.2 ⟨⟨⟨_,rfl,rfl⟩,by kernel_rfl⟩,List.forall_mem_cons.2 ⟨⟨⟨_,rfl,rfl⟩,by kernel_rfl⟩,List.forall_mem_cons.2 ⟨⟨⟨_,rfl,rfl⟩,by kernel_rfl⟩,List.forall_mem_cons.2 ⟨⟨⟨_,rfl,rfl⟩,by kernel_rfl⟩,List.forall_mem_cons.2 ⟨⟨⟨_,rfl,rfl⟩,by kernel_rfl⟩,List.forall_mem_cons.2 ⟨⟨⟨_,rfl,rfl⟩,by kernel_rfl⟩,List.forall_mem_cons.2 ⟨⟨⟨_,rfl,rfl⟩,by kernel_rfl⟩,List.forall_mem_cons.2 ⟨⟨⟨_,rfl,rfl⟩,by kernel_rfl⟩,List.forall_mem_cons.2 ⟨⟨⟨_,rfl,rfl⟩,by kernel_rfl⟩,List.forall_mem_cons.2 ⟨⟨⟨_,rfl,rfl⟩,by kernel_rfl⟩,List.forall_mem_cons.2 ⟨⟨⟨_,rfl,rfl⟩,by kernel_rfl⟩,List.forall_mem_cons.2 ⟨⟨⟨_,rfl,rfl⟩,by kernel_rfl⟩,List.forall_mem_cons.2 ⟨⟨⟨_,rfl,rfl⟩,by kernel_rfl⟩,List.forall_mem_cons.2 ⟨⟨⟨_,rfl,rfl⟩,by kernel_rfl⟩,List.forall_mem_cons.2 ⟨⟨⟨_,rfl,rfl⟩,by kernel_rfl⟩,List.forall_mem_cons.2 ⟨⟨⟨_,rfl,rfl⟩,by kernel_rfl⟩,List.forall_mem_cons.2 ⟨⟨⟨_,rfl,rfl⟩,by kernel_rfl⟩,List.forall_mem_cons.2 ⟨⟨⟨_,rfl,rfl⟩,by kernel_rfl⟩,List.forall_mem_cons.2 ⟨⟨⟨_,rfl,rfl⟩,by kernel_rfl⟩,List.forall_mem_cons.2 ⟨⟨⟨_,rfl,rfl⟩,by kernel_rfl⟩,List.forall_mem_cons.2 ⟨⟨⟨_,rfl,rfl⟩,by kernel_rfl⟩,List.forall_mem_cons.2 ⟨⟨⟨_,rfl,rfl⟩,by kernel_rfl⟩,List.forall_mem_cons.2 ⟨⟨⟨_,rfl,rfl⟩,by kernel_rfl⟩,List.forall_mem_cons.2 ⟨⟨⟨_,rfl,rfl⟩,by kernel_rfl⟩,List.forall_mem_cons.2 ⟨⟨⟨_,rfl,rfl⟩,by kernel_rfl⟩,List.forall_mem_cons.2 ⟨⟨⟨_,rfl,rfl⟩,by kernel_rfl⟩,List.forall_mem_cons.2 ⟨⟨⟨_,rfl,rfl⟩,by kernel_rfl⟩,List.forall_mem_cons.2 ⟨⟨⟨_,rfl,rfl⟩,by kernel_rfl⟩,List.forall_mem_cons.2 ⟨⟨⟨_,rfl,rfl⟩,by kernel_rfl⟩,List.forall_mem_cons.2 ⟨⟨⟨_,rfl,rfl⟩,by kernel_rfl⟩,List.forall_mem_cons.2 ⟨⟨⟨_,rfl,rfl⟩,by kernel_rfl⟩,List.forall_mem_nil _⟩⟩⟩⟩⟩⟩⟩⟩⟩⟩⟩⟩⟩⟩⟩⟩⟩⟩⟩⟩⟩⟩⟩⟩⟩⟩⟩⟩⟩⟩⟩⟩⟩⟩⟩,trivial⟩
theorem lLat0_ok:lLat0.Ok Tryz.prog FI FB:=
 Con.of_plain (body:=Tryz.f4.body.getD .skip) pok2 fiok (EntsFor.cons cWorks_ok (EntsFor.cons sLat_ok (EntsFor.cons rLat_ok (EntsFor.cons rSame_ok (EntsFor.cons sMay_ok (EntsFor.cons sBad_ok (EntsFor.cons rMay_ok (EntsFor.cons rRt_ok EntsFor.nil)))))))) lLat0 Tryz.func4 (by kernel_rfl) 9 [] (by kernel_rfl) [lLat0_L0] ⟨lLat0_h0,trivial⟩ lLat0_c
  lLat0_inv lLat0_mu (fun _ _ _=>trivial) fun kv iv0 bv0 hin hF k l iv bv hk ha hi=>match k,hk,hi with
  | 0,hk,hi=>by
    cases hk
    exact lLat0_o0 kv iv0 bv0 hin hF iv bv ha hi
  | k+1,hk,_=>by simp at hk
end
end Go.Sx.Sl
