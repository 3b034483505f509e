/- Slots: Late, by contract. -/
import Derived.Test.YtobmggabgicpgaaGreatSlC
import Derived.Test.YtobmggabgicpgaaGreatSlU
namespace Go.Sx.Sl
set_option linter.unusedVariables false
set_option linter.unusedSimpArgs false
set_option maxRecDepth 100000
set_option maxHeartbeats 0
noncomputable section
open Go Go.Sx Go.Sx.Ti Go.Proofs
def laS:SI:=.ap 24 (.v 0) (.v 1) (.v 7) (.c 0) (.c 0) (.c 0)
def lwS:SI:=.ap 25 (.v 0) (.v 1) (.v 7) (.c 0) (.c 0) (.c 0)
def lcS:SI:=.ap 23 (.v 0) (.v 1) (.v 7) (.c 0) (.c 0) (.c 0)
def kI1:List Kd:=[.nt .i64]
def nwB:SB:=.and chS.1 (.and (.le (.c 0) (.v 7)) (.le (.v 7) (.c 1099511627776)))
def oLat:List Out:=[⟨[(nwB,false)],.tp [.sn,.sn,.it .i64 (.c 2)],[],0,0,[]⟩,
 ⟨[(nwB,true),(.lt (.c 0) laS,false)],.tp [.sl (.n 0) (.c 0) (.v 1) (.d 0),.sn,.it .i64 (.c 0)],[(0,.arr kS lcS (.v 1) 55 (.d 0))],1,1,[(.le (.v 1) (.d 0),true)]⟩,
 ⟨[(nwB,true),(.lt (.c 0) laS,true)],.tp [.sl (.n 0) (.c 0) (.v 1) (.d 0),.sl (.n 1) (.c 0) laS (.d 1),.it .i64 (.c 0)],[(0,.arr kS lcS (.v 1) 55 (.d 0)),(1,.arr kI1 lwS laS 3 (.d 1))],2,2,[(.le (.v 1) (.d 0),true),(.le laS (.d 1),true)]⟩]
def sLat:Con:=⟨18,[0,1,2,3,4,5,6,7],[shV,lS,.it .i64 (.v 7)],gS,i64b 4::i64b 5::i64b 6::i64b 7::bS,fS,oLat⟩
theorem bad_may {c n:Int} (hn:n≤64) (h:¬ 0≤badI c n):∀ j:Nat,(j:Int) < n→mayR c j:=fun j hj=>by
 unfold badI at h;rw [Int.min_eq_left hn] at h
 rcases fstI_cases (fun j=>¬ mayR c j) n with ⟨e,h1⟩ | ⟨e1,_⟩
 ·exact Classical.not_not.1 (h1 j hj)
 ·exact absurd e1 h
theorem may_due {c n:Int} (h:∀ j:Nat,(j:Int) < n→mayR c j):∀ k:Nat,(k:Int) < n→fl c k 1=1→0≤fl c k 4∧fl c k 4≤1099511627776:=fun k hk h1=>by
 obtain ⟨⟨-,-,-,-,-,-,-,h2,-⟩,-⟩:=h k hk
 exact h2 h1
theorem eqR_row {c d n:Int} (h:eqR c d n) {j:Nat} (hj:(j:Int) < n):fl c j 0=fl d j 0∧fl c j 1=fl d j 1∧fl c j 2=fl d j 2∧fl c j 3=fl d j 3∧fl c j 4=fl d j 4∧fl c j 5=fl d j 5∧fl c j 6=fl d j 6∧flu c j 7=flu d j 7:=by
 obtain ⟨h1,h2⟩:=h j hj
 exact ⟨h1 0 (by omega),h1 1 (by omega),h1 2 (by omega),h1 3 (by omega),h1 4 (by omega),h1 5 (by omega),h1 6 (by omega),h2⟩
theorem out_suc' {c o j:Int} {g:Nat→Int} (h:outI c o g j) (h0:0≤j) {x:Int} (hx:x=g j.toNat) (hx0:0≤x):outI c (setC (setC (setC (setC (setC (setC (setC (setC o x 0 (fl c x.toNat 0)) x 1 5) x 2 0) x 3 0) x 4 0) x 5 0) x 6 0) x 7 0) g (j+1):=out_suc h h0 hx hx0 rfl
theorem out_1 {c:Int} {g:Nat→Int} {x:Int} (hx:x=g 0) (hx0:0≤x):outI c (setC (setC (setC (setC (setC (setC (setC (setC c x 0 (fl c x.toNat 0)) x 1 5) x 2 0) x 3 0) x 4 0) x 5 0) x 6 0) x 7 0) g 1:=out_suc' (out_0 c g) (by omega) hx hx0
theorem out_zero {c n now:Int} (hn:n≤64) (h:latN c n now=0):eqR (latC c n now) c n:=out_end (g:=fun _=>0) hn (by rw [h];exact out_0 _ _) (fun t ht=>by omega)
theorem out_at {c o v n now j:Int} (hn:n≤64) (h:latN c n now=j∧∀ t:Nat,(t:Int) < j→lateI c n now t=kL v t) (hO:outI c o (kL v) j):eqR (latC c n now) o n:=out_end hn (by rw [h.1];exact hO) (fun t ht=>h.2 t (by omega))
theorem wh_at {c w v n now j:Int} (h:latN c n now=j∧∀ t:Nat,(t:Int) < j→lateI c n now t=kL v t) (hf:frdI v w j now):∀ t:Nat,(t:Int) < latN c n now→fl (latW c n now) t 0=fl w t 0:=fun t ht=>by
 rw [fl_latW ht,h.2 t (by omega),(hf t (by omega)).1]
def sLat_T1:Tm:=⟨⟨18,67,[(24,(.it .i64 (.v 28))),(23,(.it .i64 (.v 1))),(22,(.sl (.k 0) (.v 2) (.v 1) (.v 3))),(9,(.pt (.n 16) (.c 0))),(8,(.pt (.n 5) (.c 0))),(7,(.pt (.n 4) (.c 0))),(6,(.pt (.n 3) (.c 0))),(5,(.pt (.n 2) (.c 0))),(4,(.pt (.n 1) (.c 0)))],[(.code (atC Tryz.f18 [1,1,1,1,0,1,0,0])),(.inLoop (atC Tryz.f18 [1,1,1,1,0,1,0,0])),(.inBlock 0),(.code (atC Tryz.f18 [1,1,1,1,1])),(.dc 29 [(.pt (.n 5) (.c 0)),(.fn 44 [] [(.pt (.n 3) (.c 0)),(.pt (.n 4) (.c 0))])] [])],[],.none⟩,[],
    ⟨[(1,(.cells [(.sl (.k 0) (.v 2) (.v 1) (.v 3))] 24)),(2,(.cells [(.it .i64 (.v 7))] 2)),(3,(.cells [.sn] 24)),(4,(.cells [.sn] 45)),(5,(.cells [(.it .i64 (.c 0))] 31)),(15,(.mapc .i64 .i64 (.v 29))),(16,(.cells [(.it .i64 (.c 0)),(.mp (.n 15))] 117))],17,0,0,[((.lt (.ap 20 (.v 0) (.v 1) (.c 0) (.c 0) (.c 0) (.c 0)) (.v 1)),.true),((.le (.c (-1)) (.ap 20 (.v 0) (.v 1) (.c 0) (.c 0) (.c 0) (.c 0))),.true),((.le (.c 0) (.ap 20 (.v 0) (.v 1) (.c 0) (.c 0) (.c 0) (.c 0))),.false),((.eq (.v 1) (.v 6)),.true),((.le (.v 6) (.c 4)),.true),((.le (.c 1) (.v 6)),.true),((.le (.v 5) (.c 8)),.true),((.le (.c 1) (.v 5)),.true),((.le (.v 4) (.c 64)),.true),((.le (.c 1) (.v 4)),.true),((.le (.v 7) (.c 1099511627776)),.true),((.le (.c 0) (.v 7)),.true),((.le (.v 1) (.v 3)),.true),((.le (.c 0) (.v 3)),.true)],[1,0],[(6,(1,4)),(5,(1,8)),(4,(1,64)),(7,(0,1099511627776)),(1,(0,64)),(2,(0,(-1))),(28,(0,(-1)))]⟩,[28,29]⟩
def sLat_T2:Tm:=⟨⟨81,21,[(9,(.it .i64 (.c 0))),(8,(.it .i64 (.ap 8 (.v 29) (.c 0) (.c 0) (.c 0) (.c 2) (.c 0)))),(7,(.sl (.n 23) (.c 0) (.ap 8 (.v 29) (.c 0) (.c 0) (.c 0) (.c 2) (.c 0)) (.v 31))),(0,(.yl 22)),(1,(.pt (.n 19) (.c 0)))],[(.code (atC Tryz.f81 [0,1,1,0,0])),(.inLoop (atC Tryz.f81 [0,1,1,0,0])),(.inBlock 0),(.inScope (atC Tryz.f81 [0]))],[],.none⟩,[⟨18,67,[(8,(.pt (.n 5) (.c 0))),(7,(.pt (.n 4) (.c 0))),(6,(.pt (.n 3) (.c 0)))],[(.inRangeFunc 22),(.inBlock 2),(.code (atC Tryz.f18 [1,1,1,1,1,1,1])),(.dc 29 [(.pt (.n 5) (.c 0)),(.fn 44 [] [(.pt (.n 3) (.c 0)),(.pt (.n 4) (.c 0))])] [])],[21],.none⟩],
    ⟨[(1,(.cells [(.sl (.k 0) (.v 2) (.v 1) (.v 3))] 24)),(2,(.cells [(.it .i64 (.v 7))] 2)),(3,(.cells [(.sl (.n 18) (.c 0) (.v 1) (.v 30))] 24)),(4,(.cells [.sn] 45)),(5,(.cells [(.it .i64 (.c 0))] 31)),(15,(.mapc .i64 .i64 (.v 29))),(16,(.cells [(.it .i64 (.c 0)),(.mp (.n 15))] 117)),(18,(.arr [(.nt .i64),(.nt .i64),(.nt .i64),(.nt .i64),(.nt .i64),(.nt .i64),(.nt .i64),(.nt .u64)] (.v 0) (.v 1) 55 (.v 30))),(19,(.cells [(.mp (.n 20))] 113)),(20,(.mapc .i64 .i64 (.v 29))),(21,.dfr),(22,(.loop .ready .none 18 67 [(46,(.fn 81 [] [(.pt (.n 19) (.c 0))])),(45,(.pt (.n 16) (.c 0))),(44,(.sl (.n 18) (.c 0) (.v 1) (.v 30))),(43,(.sl (.k 0) (.v 2) (.v 1) (.v 3))),(25,(.bo (.lt (.v 28) (.v 1)))),(24,(.it .i64 (.v 28))),(23,(.it .i64 (.v 1))),(22,(.sl (.k 0) (.v 2) (.v 1) (.v 3))),(9,(.pt (.n 16) (.c 0))),(8,(.pt (.n 5) (.c 0))),(7,(.pt (.n 4) (.c 0))),(6,(.pt (.n 3) (.c 0))),(5,(.pt (.n 2) (.c 0))),(4,(.pt (.n 1) (.c 0)))] #[47,48] (atC Tryz.f18 [1,1,1,1,1,1,0,1,0,0]) (atC Tryz.f18 [1,1,1,1,1,1,0,1,0,1]) 21)),(23,(.arr [(.nt .i64)] (.ap 30 (.v 29) (.c 0) (.c 0) (.c 0) (.c 0) (.c 0)) (.ap 8 (.v 29) (.c 0) (.c 0) (.c 0) (.c 2) (.c 0)) 3 (.v 31)))],24,0,0,[((.le (.ap 8 (.v 29) (.c 0) (.c 0) (.c 0) (.c 2) (.c 0)) (.v 31)),.true),((.lt (.c 0) (.ap 8 (.v 29) (.c 0) (.c 0) (.c 0) (.c 2) (.c 0))),.true),((.le (.ap 8 (.v 29) (.c 0) (.c 0) (.c 0) (.c 2) (.c 0)) (.c 1000000)),.true),((.ap 30 (.v 29) (.c 0) (.c 0) (.c 0) (.c 0) (.c 0)),.true),((.le (.v 1) (.v 30)),.true),((.lt (.v 28) (.v 1)),.false),((.lt (.ap 20 (.v 0) (.v 1) (.c 0) (.c 0) (.c 0) (.c 0)) (.v 1)),.true),((.le (.c (-1)) (.ap 20 (.v 0) (.v 1) (.c 0) (.c 0) (.c 0) (.c 0))),.true),((.le (.c 0) (.ap 20 (.v 0) (.v 1) (.c 0) (.c 0) (.c 0) (.c 0))),.false),((.eq (.v 1) (.v 6)),.true),((.le (.v 6) (.c 4)),.true),((.le (.c 1) (.v 6)),.true),((.le (.v 5) (.c 8)),.true),((.le (.c 1) (.v 5)),.true),((.le (.v 4) (.c 64)),.true),((.le (.c 1) (.v 4)),.true),((.le (.v 7) (.c 1099511627776)),.true),((.le (.c 0) (.v 7)),.true),((.le (.v 1) (.v 3)),.true),((.le (.c 0) (.v 3)),.true)],[1,0],[(1,(0,64)),(28,(0,(-1))),(6,(1,4)),(5,(1,8)),(4,(1,64)),(7,(0,1099511627776)),(1,(0,64)),(2,(0,(-1))),(28,(0,(-1)))]⟩,[30,31]⟩
def sLat_T3:Tm:=⟨⟨81,21,[(9,(.it .i64 (.c 0))),(8,(.it .i64 (.c 0))),(7,.sn),(0,(.yl 22)),(1,(.pt (.n 19) (.c 0)))],[(.code (atC Tryz.f81 [0,1,1,0,0])),(.inLoop (atC Tryz.f81 [0,1,1,0,0])),(.inBlock 0),(.inScope (atC Tryz.f81 [0]))],[],.none⟩,[⟨18,67,[(8,(.pt (.n 5) (.c 0))),(7,(.pt (.n 4) (.c 0))),(6,(.pt (.n 3) (.c 0)))],[(.inRangeFunc 22),(.inBlock 2),(.code (atC Tryz.f18 [1,1,1,1,1,1,1])),(.dc 29 [(.pt (.n 5) (.c 0)),(.fn 44 [] [(.pt (.n 3) (.c 0)),(.pt (.n 4) (.c 0))])] [])],[21],.none⟩],
    ⟨[(1,(.cells [(.sl (.k 0) (.v 2) (.v 1) (.v 3))] 24)),(2,(.cells [(.it .i64 (.v 7))] 2)),(3,(.cells [(.sl (.n 18) (.c 0) (.v 1) (.v 32))] 24)),(4,(.cells [.sn] 45)),(5,(.cells [(.it .i64 (.c 0))] 31)),(15,(.mapc .i64 .i64 (.v 29))),(16,(.cells [(.it .i64 (.c 0)),(.mp (.n 15))] 117)),(18,(.arr [(.nt .i64),(.nt .i64),(.nt .i64),(.nt .i64),(.nt .i64),(.nt .i64),(.nt .i64),(.nt .u64)] (.v 0) (.v 1) 55 (.v 32))),(19,(.cells [(.mp (.n 20))] 113)),(20,(.mapc .i64 .i64 (.v 29))),(21,.dfr),(22,(.loop .ready .none 18 67 [(46,(.fn 81 [] [(.pt (.n 19) (.c 0))])),(45,(.pt (.n 16) (.c 0))),(44,(.sl (.n 18) (.c 0) (.v 1) (.v 32))),(43,(.sl (.k 0) (.v 2) (.v 1) (.v 3))),(25,(.bo (.lt (.v 28) (.v 1)))),(24,(.it .i64 (.v 28))),(23,(.it .i64 (.v 1))),(22,(.sl (.k 0) (.v 2) (.v 1) (.v 3))),(9,(.pt (.n 16) (.c 0))),(8,(.pt (.n 5) (.c 0))),(7,(.pt (.n 4) (.c 0))),(6,(.pt (.n 3) (.c 0))),(5,(.pt (.n 2) (.c 0))),(4,(.pt (.n 1) (.c 0)))] #[47,48] (atC Tryz.f18 [1,1,1,1,1,1,0,1,0,0]) (atC Tryz.f18 [1,1,1,1,1,1,0,1,0,1]) 21))],23,0,0,[((.lt (.c 0) (.ap 8 (.v 29) (.c 0) (.c 0) (.c 0) (.c 2) (.c 0))),.false),((.le (.ap 8 (.v 29) (.c 0) (.c 0) (.c 0) (.c 2) (.c 0)) (.c 1000000)),.true),((.ap 30 (.v 29) (.c 0) (.c 0) (.c 0) (.c 0) (.c 0)),.true),((.le (.v 1) (.v 32)),.true),((.lt (.v 28) (.v 1)),.false),((.lt (.ap 20 (.v 0) (.v 1) (.c 0) (.c 0) (.c 0) (.c 0)) (.v 1)),.true),((.le (.c (-1)) (.ap 20 (.v 0) (.v 1) (.c 0) (.c 0) (.c 0) (.c 0))),.true),((.le (.c 0) (.ap 20 (.v 0) (.v 1) (.c 0) (.c 0) (.c 0) (.c 0))),.false),((.eq (.v 1) (.v 6)),.true),((.le (.v 6) (.c 4)),.true),((.le (.c 1) (.v 6)),.true),((.le (.v 5) (.c 8)),.true),((.le (.c 1) (.v 5)),.true),((.le (.v 4) (.c 64)),.true),((.le (.c 1) (.v 4)),.true),((.le (.v 7) (.c 1099511627776)),.true),((.le (.c 0) (.v 7)),.true),((.le (.v 1) (.v 3)),.true),((.le (.c 0) (.v 3)),.true)],[1,0],[(1,(0,64)),(28,(0,(-1))),(6,(1,4)),(5,(1,8)),(4,(1,64)),(7,(0,1099511627776)),(1,(0,64)),(2,(0,(-1))),(28,(0,(-1)))]⟩,[32]⟩
def sLat_T4:Tm:=⟨⟨81,21,[(9,(.it .i64 (.v 42))),(8,(.it .i64 (.ap 8 (.v 29) (.c 0) (.c 0) (.c 0) (.c 2) (.c 0)))),(7,(.sl (.n 23) (.c 0) (.ap 8 (.v 29) (.c 0) (.c 0) (.c 0) (.c 2) (.c 0)) (.v 31))),(0,(.yl 22)),(1,(.pt (.n 19) (.c 0)))],[(.code (atC Tryz.f81 [0,1,1,0,0])),(.inLoop (atC Tryz.f81 [0,1,1,0,0])),(.inBlock 0),(.inScope (atC Tryz.f81 [0]))],[],.none⟩,[⟨18,67,[(8,(.pt (.n 5) (.c 0))),(7,(.pt (.n 4) (.c 0))),(6,(.pt (.n 3) (.c 0)))],[(.inRangeFunc 22),(.inBlock 2),(.code (atC Tryz.f18 [1,1,1,1,1,1,1])),(.dc 29 [(.pt (.n 5) (.c 0)),(.fn 44 [] [(.pt (.n 3) (.c 0)),(.pt (.n 4) (.c 0))])] [])],[21],.none⟩],
    ⟨[(1,(.cells [(.sl (.k 0) (.v 2) (.v 1) (.v 3))] 24)),(2,(.cells [(.it .i64 (.v 7))] 2)),(3,(.cells [(.sl (.n 18) (.c 0) (.v 1) (.v 30))] 24)),(4,(.cells [(.sl (.n 25) (.c 0) (.v 42) (.v 36))] 45)),(5,(.cells [(.it .i64 (.c 0))] 31)),(15,(.mapc .i64 .i64 (.v 29))),(16,(.cells [(.it .i64 (.c 0)),(.mp (.n 15))] 117)),(18,(.arr [(.nt .i64),(.nt .i64),(.nt .i64),(.nt .i64),(.nt .i64),(.nt .i64),(.nt .i64),(.nt .u64)] (.v 43) (.v 1) 55 (.v 30))),(19,(.cells [(.mp (.n 20))] 113)),(20,(.mapc .i64 .i64 (.v 29))),(21,.dfr),(22,(.loop .ready .none 18 67 [(46,(.fn 81 [] [(.pt (.n 19) (.c 0))])),(45,(.pt (.n 16) (.c 0))),(44,(.sl (.n 18) (.c 0) (.v 1) (.v 30))),(43,(.sl (.k 0) (.v 2) (.v 1) (.v 3))),(25,(.bo (.lt (.v 28) (.v 1)))),(24,(.it .i64 (.v 28))),(23,(.it .i64 (.v 1))),(22,(.sl (.k 0) (.v 2) (.v 1) (.v 3))),(9,(.pt (.n 16) (.c 0))),(8,(.pt (.n 5) (.c 0))),(7,(.pt (.n 4) (.c 0))),(6,(.pt (.n 3) (.c 0))),(5,(.pt (.n 2) (.c 0))),(4,(.pt (.n 1) (.c 0)))] #[47,48] (atC Tryz.f18 [1,1,1,1,1,1,0,1,0,0]) (atC Tryz.f18 [1,1,1,1,1,1,0,1,0,1]) 21)),(23,(.arr [(.nt .i64)] (.ap 30 (.v 29) (.c 0) (.c 0) (.c 0) (.c 0) (.c 0)) (.ap 8 (.v 29) (.c 0) (.c 0) (.c 0) (.c 2) (.c 0)) 3 (.v 31))),(25,(.arr [(.nt .i64)] (.v 44) (.v 42) 3 (.v 36)))],26,0,0,[((.lt (.ap 3 (.ap 30 (.v 29) (.c 0) (.c 0) (.c 0) (.c 0) (.c 0)) (.c 0) (.c 0) (.c 0) (.c 0) (.c 0)) (.v 1)),.true),((.le (.c 0) (.ap 3 (.ap 30 (.v 29) (.c 0) (.c 0) (.c 0) (.c 0) (.c 0)) (.c 0) (.c 0) (.c 0) (.c 0) (.c 0))),.true),((.lt (.v 7) (.ap 3 (.v 29) (.ap 3 (.ap 30 (.v 29) (.c 0) (.c 0) (.c 0) (.c 0) (.c 0)) (.c 0) (.c 0) (.c 0) (.c 0) (.c 0)) (.c 0) (.c 1) (.c 0) (.c 0))),.false),((.le (.ap 8 (.v 29) (.c 0) (.c 0) (.c 0) (.c 2) (.c 0)) (.v 31)),.true),((.lt (.c 0) (.ap 8 (.v 29) (.c 0) (.c 0) (.c 0) (.c 2) (.c 0))),.true),((.le (.ap 8 (.v 29) (.c 0) (.c 0) (.c 0) (.c 2) (.c 0)) (.c 1000000)),.true),((.ap 30 (.v 29) (.c 0) (.c 0) (.c 0) (.c 0) (.c 0)),.true),((.le (.v 1) (.v 30)),.true),((.lt (.v 28) (.v 1)),.false),((.lt (.ap 20 (.v 0) (.v 1) (.c 0) (.c 0) (.c 0) (.c 0)) (.v 1)),.true),((.le (.c (-1)) (.ap 20 (.v 0) (.v 1) (.c 0) (.c 0) (.c 0) (.c 0))),.true),((.le (.c 0) (.ap 20 (.v 0) (.v 1) (.c 0) (.c 0) (.c 0) (.c 0))),.false),((.eq (.v 1) (.v 6)),.true),((.le (.v 6) (.c 4)),.true),((.le (.c 1) (.v 6)),.true),((.le (.v 5) (.c 8)),.true),((.le (.c 1) (.v 5)),.true),((.le (.v 4) (.c 64)),.true),((.le (.c 1) (.v 4)),.true),((.le (.v 7) (.c 1099511627776)),.true),((.le (.c 0) (.v 7)),.true),((.le (.v 1) (.v 3)),.true),((.le (.c 0) (.v 3)),.true)],[1,0],[(42,(1,64)),(1,(0,64)),(7,(0,1099511627776)),(28,(0,(-1))),(6,(1,4)),(5,(1,8)),(4,(1,64)),(2,(0,(-1)))]⟩,[42,43,44,36]⟩
def sLat_L0:List Lf:=
 let p0_:SB×Bool:=((.le (.c 1) (.v 4)),.true)
 let p1_:SB×Bool:=((.le (.c 1) (.v 5)),.true)
 let p2_:SB×Bool:=((.le (.v 5) (.c 8)),.true)
 let p3_:SB×Bool:=((.le (.c 1) (.v 6)),.true)
 let p4_:SB×Bool:=((.le (.v 6) (.c 4)),.true)
 let p5_:SB×Bool:=((.eq (.v 1) (.v 6)),.true)
 let p6_:SB×Bool:=((.le (.v 4) (.c 64)),.true)
 let p7_:SB×Bool:=((.eq (.v 1) (.v 6)),.false)
 let p8_:SB×Bool:=((.le (.v 6) (.c 4)),.false)
 let p9_:SB×Bool:=((.le (.c 1) (.v 6)),.false)
 let p10_:SB×Bool:=((.le (.v 5) (.c 8)),.false)
 let p11_:SB×Bool:=((.le (.c 1) (.v 5)),.false)
 let p12_:SB×Bool:=((.le (.c 1) (.v 4)),.false)
 let p13_:SB×Bool:=((.le (.v 4) (.c 64)),.false)
 let x14_:SI:=(.ap 20 (.v 0) (.v 1) (.c 0) (.c 0) (.c 0) (.c 0))
 let p15_:SB×Bool:=((.lt x14_ (.v 1)),.true)
 let p16_:SB×Bool:=((.le (.c 0) x14_),.true)
 let p17_:SB×Bool:=((.le (.c 0) x14_),.false)
 let p18_:SB×Bool:=((.le (.c (-1)) x14_),.true)
 let f0_:List (SB×Bool):=[((.le (.v 1) (.v 3)),.true),((.le (.c 0) (.v 3)),.true)]
 let f1_:List (SB×Bool):=((.le (.c 0) (.v 7)),.true)::f0_
 let f2_:List (SB×Bool):=((.le (.c 0) (.v 7)),.false)::f0_
 let f3_:List (SB×Bool):=((.le (.v 7) (.c 1099511627776)),.true)::f1_
 let f4_:List (SB×Bool):=((.le (.v 7) (.c 1099511627776)),.false)::f1_
 let f5_:List (SB×Bool):=p0_::f2_
 let f6_:List (SB×Bool):=p0_::f3_
 let f7_:List (SB×Bool):=p0_::f4_
 let f8_:List (SB×Bool):=p6_::f5_
 let f9_:List (SB×Bool):=p6_::f6_
 let f10_:List (SB×Bool):=p6_::f7_
 let f11_:List (SB×Bool):=p1_::f8_
 let f12_:List (SB×Bool):=p1_::f9_
 let f13_:List (SB×Bool):=p1_::f10_
 let f14_:List (SB×Bool):=p2_::f11_
 let f15_:List (SB×Bool):=p2_::f12_
 let f16_:List (SB×Bool):=p2_::f13_
 let f17_:List (SB×Bool):=p3_::f14_
 let f18_:List (SB×Bool):=p3_::f15_
 let f19_:List (SB×Bool):=p3_::f16_
 let f20_:List (SB×Bool):=p4_::f17_
 let f21_:List (SB×Bool):=p4_::f18_
 let f22_:List (SB×Bool):=p4_::f19_
 let f23_:List (SB×Bool):=p5_::f20_
 let f24_:List (SB×Bool):=p5_::f21_
 let f25_:List (SB×Bool):=p5_::f22_
 [(.fin (p15_::p18_::p16_::f24_) 0 ⟨⟨[],[]⟩,[],[],[]⟩ [] []),
  (let i_:In:=⟨⟨[(29,(.c 0)),(28,(.c 0))],[]⟩,[(15,15),(1,1),(2,2),(3,3),(4,4),(5,5),(16,16)],[],[]⟩;.cut (p15_::p18_::p17_::f24_) 1 i_ [] (shT sLat_T1 i_)),
  (.fin (p7_::f21_) 0 ⟨⟨[],[]⟩,[],[],[]⟩ [] []),
  (.fin (p8_::f18_) 0 ⟨⟨[],[]⟩,[],[],[]⟩ [] []),
  (.fin (p9_::f15_) 0 ⟨⟨[],[]⟩,[],[],[]⟩ [] []),
  (.fin (p10_::f12_) 0 ⟨⟨[],[]⟩,[],[],[]⟩ [] []),
  (.fin (p11_::f9_) 0 ⟨⟨[],[]⟩,[],[],[]⟩ [] []),
  (.fin (p13_::f6_) 0 ⟨⟨[],[]⟩,[],[],[]⟩ [] []),
  (.fin (p12_::f3_) 0 ⟨⟨[],[]⟩,[],[],[]⟩ [] []),
  (.fin (p15_::p18_::p16_::f25_) 0 ⟨⟨[],[]⟩,[],[],[]⟩ [] []),
  (.fin (p15_::p18_::p17_::f25_) 0 ⟨⟨[],[]⟩,[],[],[]⟩ [] []),
  (.fin (p7_::f22_) 0 ⟨⟨[],[]⟩,[],[],[]⟩ [] []),
  (.fin (p8_::f19_) 0 ⟨⟨[],[]⟩,[],[],[]⟩ [] []),
  (.fin (p9_::f16_) 0 ⟨⟨[],[]⟩,[],[],[]⟩ [] []),
  (.fin (p10_::f13_) 0 ⟨⟨[],[]⟩,[],[],[]⟩ [] []),
  (.fin (p11_::f10_) 0 ⟨⟨[],[]⟩,[],[],[]⟩ [] []),
  (.fin (p13_::f7_) 0 ⟨⟨[],[]⟩,[],[],[]⟩ [] []),
  (.fin (p12_::f4_) 0 ⟨⟨[],[]⟩,[],[],[]⟩ [] []),
  (.fin (p15_::p18_::p16_::f23_) 0 ⟨⟨[],[]⟩,[],[],[]⟩ [] []),
  (.fin (p15_::p18_::p17_::f23_) 0 ⟨⟨[],[]⟩,[],[],[]⟩ [] []),
  (.fin (p7_::f20_) 0 ⟨⟨[],[]⟩,[],[],[]⟩ [] []),
  (.fin (p8_::f17_) 0 ⟨⟨[],[]⟩,[],[],[]⟩ [] []),
  (.fin (p9_::f14_) 0 ⟨⟨[],[]⟩,[],[],[]⟩ [] []),
  (.fin (p10_::f11_) 0 ⟨⟨[],[]⟩,[],[],[]⟩ [] []),
  (.fin (p11_::f8_) 0 ⟨⟨[],[]⟩,[],[],[]⟩ [] []),
  (.fin (p13_::f5_) 0 ⟨⟨[],[]⟩,[],[],[]⟩ [] []),
  (.fin (p12_::f2_) 0 ⟨⟨[],[]⟩,[],[],[]⟩ [] [])]
def sLat_L1:List Lf:=
 let x0_:SI:=(.ap 20 (.v 0) (.v 1) (.c 0) (.c 0) (.c 0) (.c 0))
 let x1_:SI:=(.ap 3 (.v 0) (.v 28) (.c 1) (.c 0) (.c 0) (.c 0))
 let x2_:SI:=(.ap 3 (.v 0) (.v 28) (.c 4) (.c 0) (.c 0) (.c 0))
 let x3_:SI:=(.ap 8 (.v 29) (.c 0) (.c 0) (.c 0) (.c 2) (.c 0))
 let f0_:List (SB×Bool):=[((.lt x0_ (.v 1)),.true),((.le (.c (-1)) x0_),.true),((.le (.c 0) x0_),.false),((.eq (.v 1) (.v 6)),.true),((.le (.v 6) (.c 4)),.true),((.le (.c 1) (.v 6)),.true),((.le (.v 5) (.c 8)),.true),((.le (.c 1) (.v 5)),.true),((.le (.v 4) (.c 64)),.true),((.le (.c 1) (.v 4)),.true),((.le (.v 7) (.c 1099511627776)),.true),((.le (.c 0) (.v 7)),.true),((.le (.v 1) (.v 3)),.true),((.le (.c 0) (.v 3)),.true)]
 let f1_:List (SB×Bool):=((.lt (.v 28) (.v 1)),.true)::f0_
 let f2_:List (SB×Bool):=((.eq x1_ (.c 1)),.true)::f1_
 let f3_:List (SB×Bool):=((.le (.v 1) (.d 0)),.true)::((.lt (.v 28) (.v 1)),.false)::f0_
 let f4_:List (SB×Bool):=((.lt (.c 0) x2_),.true)::f2_
 let f5_:List (SB×Bool):=((.ap 30 (.v 29) (.c 0) (.c 0) (.c 0) (.c 0) (.c 0)),.true)::f3_
 let f6_:List (SB×Bool):=((.le x2_ (.c 1099511627776)),.true)::f4_
 let f7_:List (SB×Bool):=((.le x3_ (.c 1000000)),.true)::f5_
 let f8_:List (SB×Bool):=((.ap 1 (.v 29) (.v 28) (.c 0) (.c 0) (.c 0) (.c 0)),.false)::f6_
 [(let i_:In:=⟨⟨[(29,(.v 29)),(28,(.op .add (.v 28) (.c 1)))],[]⟩,[(15,15),(1,1),(2,2),(3,3),(4,4),(5,5),(16,16)],[],[]⟩;.cut (((.ap 1 (.v 29) (.v 28) (.c 0) (.c 0) (.c 0) (.c 0)),.true)::f6_) 1 i_ [] (shT sLat_T1 i_)),
  (let i_:In:=⟨⟨[(29,(.v 29)),(28,(.op .add (.v 28) (.c 1)))],[]⟩,[(15,15),(1,1),(2,2),(3,3),(4,4),(5,5),(16,16)],[],[]⟩;.cut (((.le (.c 1024) x3_),.true)::f8_) 1 i_ [] (shT sLat_T1 i_)),
  (let i_:In:=⟨⟨[(29,(.ap 8 (.v 29) (.v 28) (.c 0) x2_ (.c 1) (.c 0))),(28,(.op .add (.v 28) (.c 1)))],[]⟩,[(15,15),(1,1),(2,2),(3,3),(4,4),(5,5),(16,16)],[],[]⟩;.cut (((.le (.c 1024) x3_),.false)::f8_) 1 i_ [] (shT sLat_T1 i_)),
  (let i_:In:=⟨⟨[(29,(.v 29)),(28,(.op .add (.v 28) (.c 1)))],[]⟩,[(15,15),(1,1),(2,2),(3,3),(4,4),(5,5),(16,16)],[],[]⟩;.cut (((.le x2_ (.c 1099511627776)),.false)::f4_) 1 i_ [] (shT sLat_T1 i_)),
  (let i_:In:=⟨⟨[(29,(.v 29)),(28,(.op .add (.v 28) (.c 1)))],[]⟩,[(15,15),(1,1),(2,2),(3,3),(4,4),(5,5),(16,16)],[],[]⟩;.cut (((.lt (.c 0) x2_),.false)::f2_) 1 i_ [] (shT sLat_T1 i_)),
  (let i_:In:=⟨⟨[(29,(.v 29)),(28,(.op .add (.v 28) (.c 1)))],[]⟩,[(15,15),(1,1),(2,2),(3,3),(4,4),(5,5),(16,16)],[],[]⟩;.cut (((.eq x1_ (.c 1)),.false)::f1_) 1 i_ [] (shT sLat_T1 i_)),
  (let i_:In:=⟨⟨[(30,(.d 0)),(31,(.d 1))],[]⟩,[(15,15),(1,1),(2,2),(16,16),(20,20),(18,18),(21,21),(3,3),(4,4),(5,5),(19,19),(22,22),(23,23)],[],[]⟩;.cut (((.le x3_ (.d 1)),.true)::((.lt (.c 0) x3_),.true)::f7_) 2 i_ [] (shT sLat_T2 i_)),
  (let i_:In:=⟨⟨[(32,(.d 0))],[]⟩,[(15,15),(1,1),(2,2),(16,16),(20,20),(18,18),(21,21),(3,3),(4,4),(5,5),(19,19),(22,22)],[],[]⟩;.cut (((.lt (.c 0) x3_),.false)::f7_) 3 i_ [] (shT sLat_T3 i_)),
  (.bad (((.le x3_ (.c 1000000)),.false)::f5_)),
  (.bad (((.ap 30 (.v 29) (.c 0) (.c 0) (.c 0) (.c 0) (.c 0)),.false)::f3_))]
def sLat_L2:List Lf:=
 let x0_:SI:=(.ap 8 (.v 29) (.c 0) (.c 0) (.c 0) (.c 2) (.c 0))
 let x1_:SI:=(.ap 20 (.v 0) (.v 1) (.c 0) (.c 0) (.c 0) (.c 0))
 let x2_:SI:=(.ap 30 (.v 29) (.c 0) (.c 0) (.c 0) (.c 0) (.c 0))
 let x3_:SI:=(.ap 3 x2_ (.c 0) (.c 0) (.c 0) (.c 0) (.c 0))
 let x4_:SI:=(.ap 3 (.v 29) x3_ (.c 0) (.c 1) (.c 0) (.c 0))
 let f0_:List (SB×Bool):=[((.le x0_ (.v 31)),.true),((.lt (.c 0) x0_),.true),((.le x0_ (.c 1000000)),.true),((.ap 30 (.v 29) (.c 0) (.c 0) (.c 0) (.c 0) (.c 0)),.true),((.le (.v 1) (.v 30)),.true),((.lt (.v 28) (.v 1)),.false),((.lt x1_ (.v 1)),.true),((.le (.c (-1)) x1_),.true),((.le (.c 0) x1_),.false),((.eq (.v 1) (.v 6)),.true),((.le (.v 6) (.c 4)),.true),((.le (.c 1) (.v 6)),.true),((.le (.v 5) (.c 8)),.true),((.le (.c 1) (.v 5)),.true),((.le (.v 4) (.c 64)),.true),((.le (.c 1) (.v 4)),.true),((.le (.v 7) (.c 1099511627776)),.true),((.le (.c 0) (.v 7)),.true),((.le (.v 1) (.v 3)),.true),((.le (.c 0) (.v 3)),.true)]
 let f1_:List (SB×Bool):=((.lt (.v 7) x4_),.false)::f0_
 let f2_:List (SB×Bool):=((.le (.c 0) x3_),.true)::f1_
 [(.fin (((.lt (.v 7) x4_),.true)::f0_) 1 ⟨⟨[],[]⟩,[(0,18)],[(0,(.v 30))],[]⟩ [(.ar [(.nt .i64),(.nt .i64),(.nt .i64),(.nt .i64),(.nt .i64),(.nt .i64),(.nt .i64),(.nt .u64)] (.ap 23 (.v 0) (.v 1) (.v 7) (.c 0) (.c 0) (.c 0)) (.v 0) (.v 1))] [.none]),
  (let i_:In:=⟨⟨[(44,(.ap 8 (.c 0) (.c 0) (.c 0) x3_ (.c 0) (.c 0))),(43,(.ap 8 (.ap 8 (.ap 8 (.ap 8 (.ap 8 (.ap 8 (.ap 8 (.ap 8 (.v 0) x3_ (.c 0) (.ap 3 (.v 0) x3_ (.c 0) (.c 0) (.c 0) (.c 0)) (.c 0) (.c 0)) x3_ (.c 1) (.c 5) (.c 0) (.c 0)) x3_ (.c 2) (.c 0) (.c 0) (.c 0)) x3_ (.c 3) (.c 0) (.c 0) (.c 0)) x3_ (.c 4) (.c 0) (.c 0) (.c 0)) x3_ (.c 5) (.c 0) (.c 0) (.c 0)) x3_ (.c 6) (.c 0) (.c 0) (.c 0)) x3_ (.c 7) (.c 0) (.c 0) (.c 0))),(36,(.d 0)),(42,(.c 1))],[]⟩,[(15,15),(1,1),(2,2),(16,16),(20,20),(25,25),(18,18),(21,21),(3,3),(4,4),(5,5),(19,19),(22,22),(23,23)],[],[]⟩;.cut (((.le (.c 1) (.d 0)),.true)::((.lt x3_ (.v 1)),.true)::f2_) 4 i_ [(.ei (.ap 3 (.ap 8 (.c 0) (.c 0) (.c 0) x3_ (.c 0) (.c 0)) (.c 0) (.c 0) (.c 0) (.c 0) (.c 0)) (.ap 3 x2_ (.c 0) (.c 0) (.c 0) (.c 0) (.c 0))),(.fa (.le (.c 1) (.c 1)) .true),(.fa (.le (.c 1) (.d 0)) .true)] (shT sLat_T4 i_)),
  (.bad (((.lt x3_ (.v 1)),.false)::f2_)),
  (.bad (((.le (.c 0) x3_),.false)::f1_))]
def sLat_L3:List Lf:=
 let x0_:SI:=(.ap 8 (.v 29) (.c 0) (.c 0) (.c 0) (.c 2) (.c 0))
 let x1_:SI:=(.ap 20 (.v 0) (.v 1) (.c 0) (.c 0) (.c 0) (.c 0))
 [(.fin ([((.lt (.c 0) x0_),.false),((.le x0_ (.c 1000000)),.true),((.ap 30 (.v 29) (.c 0) (.c 0) (.c 0) (.c 0) (.c 0)),.true),((.le (.v 1) (.v 32)),.true),((.lt (.v 28) (.v 1)),.false),((.lt x1_ (.v 1)),.true),((.le (.c (-1)) x1_),.true),((.le (.c 0) x1_),.false),((.eq (.v 1) (.v 6)),.true),((.le (.v 6) (.c 4)),.true),((.le (.c 1) (.v 6)),.true),((.le (.v 5) (.c 8)),.true),((.le (.c 1) (.v 5)),.true),((.le (.v 4) (.c 64)),.true),((.le (.c 1) (.v 4)),.true),((.le (.v 7) (.c 1099511627776)),.true),((.le (.c 0) (.v 7)),.true),((.le (.v 1) (.v 3)),.true),((.le (.c 0) (.v 3)),.true)]) 1 ⟨⟨[],[]⟩,[(0,18)],[(0,(.v 32))],[]⟩ [(.ar [(.nt .i64),(.nt .i64),(.nt .i64),(.nt .i64),(.nt .i64),(.nt .i64),(.nt .i64),(.nt .u64)] (.ap 23 (.v 0) (.v 1) (.v 7) (.c 0) (.c 0) (.c 0)) (.v 0) (.v 1))] [.none])]
def sLat_L4:List Lf:=
 let x0_:SI:=(.ap 8 (.v 29) (.c 0) (.c 0) (.c 0) (.c 2) (.c 0))
 let x1_:SI:=(.ap 20 (.v 0) (.v 1) (.c 0) (.c 0) (.c 0) (.c 0))
 let x2_:SI:=(.ap 24 (.v 0) (.v 1) (.v 7) (.c 0) (.c 0) (.c 0))
 let x3_:SI:=(.ap 30 (.v 29) (.c 0) (.c 0) (.c 0) (.c 0) (.c 0))
 let x4_:SI:=(.ap 3 x3_ (.c 0) (.c 0) (.c 0) (.c 0) (.c 0))
 let x5_:SI:=(.ap 3 x3_ (.v 42) (.c 0) (.c 0) (.c 0) (.c 0))
 let x6_:SI:=(.ap 3 (.v 29) x5_ (.c 0) (.c 1) (.c 0) (.c 0))
 let f0_:List (SB×Bool):=[((.lt x4_ (.v 1)),.true),((.le (.c 0) x4_),.true),((.lt (.v 7) (.ap 3 (.v 29) x4_ (.c 0) (.c 1) (.c 0) (.c 0))),.false),((.le x0_ (.v 31)),.true),((.lt (.c 0) x0_),.true),((.le x0_ (.c 1000000)),.true),((.ap 30 (.v 29) (.c 0) (.c 0) (.c 0) (.c 0) (.c 0)),.true),((.le (.v 1) (.v 30)),.true),((.lt (.v 28) (.v 1)),.false),((.lt x1_ (.v 1)),.true),((.le (.c (-1)) x1_),.true),((.le (.c 0) x1_),.false),((.eq (.v 1) (.v 6)),.true),((.le (.v 6) (.c 4)),.true),((.le (.c 1) (.v 6)),.true),((.le (.v 5) (.c 8)),.true),((.le (.c 1) (.v 5)),.true),((.le (.v 4) (.c 64)),.true),((.le (.c 1) (.v 4)),.true),((.le (.v 7) (.c 1099511627776)),.true),((.le (.c 0) (.v 7)),.true),((.le (.v 1) (.v 3)),.true),((.le (.c 0) (.v 3)),.true)]
 let f1_:List (SB×Bool):=((.lt (.v 42) x0_),.true)::f0_
 let f2_:List (SB×Bool):=((.lt (.v 7) x6_),.false)::f1_
 let f3_:List (SB×Bool):=((.le (.c 0) x5_),.true)::f2_
 [(.fin (((.lt (.v 7) x6_),.true)::f1_) 2 ⟨⟨[],[]⟩,[(1,25),(0,18)],[(1,(.v 36)),(0,(.v 30))],[]⟩ [(.ei (.ap 24 (.v 0) (.v 1) (.v 7) (.c 0) (.c 0) (.c 0)) (.v 42)),(.ar [(.nt .i64),(.nt .i64),(.nt .i64),(.nt .i64),(.nt .i64),(.nt .i64),(.nt .i64),(.nt .u64)] (.ap 23 (.v 0) (.v 1) (.v 7) (.c 0) (.c 0) (.c 0)) (.v 43) (.v 1)),(.ar [(.nt .i64)] (.ap 25 (.v 0) (.v 1) (.v 7) (.c 0) (.c 0) (.c 0)) (.v 44) (.ap 24 (.v 0) (.v 1) (.v 7) (.c 0) (.c 0) (.c 0))),(.fa (.le x2_ (.v 42)) .true),(.fa (.le x2_ (.v 36)) .true)] [.none,.none]),
  (let i_:In:=⟨⟨[(44,(.ap 8 (.v 44) (.v 42) (.c 0) x5_ (.c 0) (.c 0))),(43,(.ap 8 (.ap 8 (.ap 8 (.ap 8 (.ap 8 (.ap 8 (.ap 8 (.ap 8 (.v 43) x5_ (.c 0) (.ap 3 (.v 0) x5_ (.c 0) (.c 0) (.c 0) (.c 0)) (.c 0) (.c 0)) x5_ (.c 1) (.c 5) (.c 0) (.c 0)) x5_ (.c 2) (.c 0) (.c 0) (.c 0)) x5_ (.c 3) (.c 0) (.c 0) (.c 0)) x5_ (.c 4) (.c 0) (.c 0) (.c 0)) x5_ (.c 5) (.c 0) (.c 0) (.c 0)) x5_ (.c 6) (.c 0) (.c 0) (.c 0)) x5_ (.c 7) (.c 0) (.c 0) (.c 0))),(36,(.d 0)),(42,(.op .add (.v 42) (.c 1)))],[]⟩,[(15,15),(1,1),(2,2),(16,16),(20,20),(25,27),(18,18),(21,21),(3,3),(4,4),(5,5),(19,19),(22,22),(23,23)],[],[]⟩;.cut (((.le (.op .add (.v 42) (.c 1)) (.d 0)),.true)::((.lt x5_ (.v 1)),.true)::f3_) 4 i_ [(.rn (.op .add (.v 42) (.c 1)) 1 64)] (shT sLat_T4 i_)),
  (.bad (((.lt x5_ (.v 1)),.false)::f3_)),
  (.bad (((.le (.c 0) x5_),.false)::f2_)),
  (.fin (((.lt (.v 42) x0_),.false)::f0_) 2 ⟨⟨[],[]⟩,[(1,25),(0,18)],[(1,(.v 36)),(0,(.v 30))],[]⟩ [(.ei (.ap 24 (.v 0) (.v 1) (.v 7) (.c 0) (.c 0) (.c 0)) (.v 42)),(.ar [(.nt .i64),(.nt .i64),(.nt .i64),(.nt .i64),(.nt .i64),(.nt .i64),(.nt .i64),(.nt .u64)] (.ap 23 (.v 0) (.v 1) (.v 7) (.c 0) (.c 0) (.c 0)) (.v 43) (.v 1)),(.ar [(.nt .i64)] (.ap 25 (.v 0) (.v 1) (.v 7) (.c 0) (.c 0) (.c 0)) (.v 44) (.ap 24 (.v 0) (.v 1) (.v 7) (.c 0) (.c 0) (.c 0))),(.fa (.le x2_ (.v 42)) .true),(.fa (.le x2_ (.v 36)) .true)] [.none,.none])]
def sLat_run (T:Tm):=(ex (ccOf Tryz.prog BF [55,53,52,54] sLat) ((fun cc=>[sMay.ent cc,sBad.ent cc,tKeys.ent cc,tClone.ent cc]) (ccOf Tryz.prog BF [55,53,52,54] sLat)) (dw (ccOf Tryz.prog BF [55,53,52,54] sLat) ((fun cc=>[sMay.ent cc,sBad.ent cc,tKeys.ent cc,tClone.ent cc]) (ccOf Tryz.prog BF [55,53,52,54] sLat)) 1000 4) (stopX [60,66,89,91,58,72]) 20000 T.f T.fs T.H).lfs (ccOf Tryz.prog BF [55,53,52,54] sLat) ((tm0 sLat Tryz.f18 (Tryz.f18.body.getD .skip))::[sLat_T1,sLat_T2,sLat_T3,sLat_T4]) sLat.os
theorem sLat_h0:sLat_run (tm0 sLat Tryz.f18 (Tryz.f18.body.getD .skip))=some sLat_L0:=by kernel_rfl
theorem sLat_h1:sLat_run sLat_T1=some sLat_L1:=by kernel_rfl
theorem sLat_h2:sLat_run sLat_T2=some sLat_L2:=by kernel_rfl
theorem sLat_h3:sLat_run sLat_T3=some sLat_L3:=by kernel_rfl
theorem sLat_h4:sLat_run sLat_T4=some sLat_L4:=by kernel_rfl
def sLat_inv:(Nat→Int)→(Nat→Bool)→Nat→(Nat→Int)→(Nat→Bool)→Prop:=fun iv0 _ k iv _=>match k with | 0=>True | 1=>0≤iv 28∧iv 28≤iv0 1∧armI (iv0 0) (iv 29) (iv 28) | 2=>armI (iv0 0) (iv 29) (iv0 1) | 3=>armI (iv0 0) (iv 29) (iv0 1) | _=>1≤iv 42∧iv 42≤64∧iv 42≤iv 36∧iv 42≤lenC (iv 29)∧armI (iv0 0) (iv 29) (iv0 1)∧frdI (iv 29) (iv 44) (iv 42) (iv0 7)∧outI (iv0 0) (iv 43) (kL (iv 29)) (iv 42)
def sLat_mu:(Nat→Int)→(Nat→Bool)→Nat→(Nat→Int)→(Nat→Bool)→Nat:=fun iv0 _ k iv _=>match k with | 0=>2 ^ 90 | 1=>2 ^ 80+(iv0 1 - iv 28).toNat | 2=>2 ^ 70 | 3=>2 ^ 70 | _=>(lenC (iv 29) - iv 42).toNat
theorem sLat_b {iv0:Nat→Int} (hin:InB sLat.B iv0):(0≤iv0 1∧iv0 1≤64)∧0≤iv0 2∧((-9223372036854775808)≤iv0 4∧iv0 4≤9223372036854775807)∧((-9223372036854775808)≤iv0 5∧iv0 5≤9223372036854775807)∧((-9223372036854775808)≤iv0 6∧iv0 6≤9223372036854775807)∧((-9223372036854775808)≤iv0 7∧iv0 7≤9223372036854775807):=by
 have b1:=hin 1 0 64 (by simp [sLat,kS,slV,mayV,i64s,i64b,lmap,lS,gS,bS,fS,bdS,shV,o1,frS,stS,chS,mAS,usS,acS,erS,chE,gS2,lS2,bS2,fS2,sAcq,laS,lwS,lcS,kI1,nwB,oLat])
 simp only [Int.reduceLE,reduceIte,Int.reduceNeg] at b1
 have b2:=hin 2 0 (-1) (by simp [sLat,kS,slV,mayV,i64s,i64b,lmap,lS,gS,bS,fS,bdS,shV,o1,frS,stS,chS,mAS,usS,acS,erS,chE,gS2,lS2,bS2,fS2,sAcq,laS,lwS,lcS,kI1,nwB,oLat])
 simp only [Int.reduceLE,reduceIte,Int.reduceNeg] at b2
 have b4:=hin 4 (-9223372036854775808) 9223372036854775807 (by simp [sLat,kS,slV,mayV,i64s,i64b,lmap,lS,gS,bS,fS,bdS,shV,o1,frS,stS,chS,mAS,usS,acS,erS,chE,gS2,lS2,bS2,fS2,sAcq,laS,lwS,lcS,kI1,nwB,oLat])
 simp only [Int.reduceLE,reduceIte,Int.reduceNeg] at b4
 have b5:=hin 5 (-9223372036854775808) 9223372036854775807 (by simp [sLat,kS,slV,mayV,i64s,i64b,lmap,lS,gS,bS,fS,bdS,shV,o1,frS,stS,chS,mAS,usS,acS,erS,chE,gS2,lS2,bS2,fS2,sAcq,laS,lwS,lcS,kI1,nwB,oLat])
 simp only [Int.reduceLE,reduceIte,Int.reduceNeg] at b5
 have b6:=hin 6 (-9223372036854775808) 9223372036854775807 (by simp [sLat,kS,slV,mayV,i64s,i64b,lmap,lS,gS,bS,fS,bdS,shV,o1,frS,stS,chS,mAS,usS,acS,erS,chE,gS2,lS2,bS2,fS2,sAcq,laS,lwS,lcS,kI1,nwB,oLat])
 simp only [Int.reduceLE,reduceIte,Int.reduceNeg] at b6
 have b7:=hin 7 (-9223372036854775808) 9223372036854775807 (by simp [sLat,kS,slV,mayV,i64s,i64b,lmap,lS,gS,bS,fS,bdS,shV,o1,frS,stS,chS,mAS,usS,acS,erS,chE,gS2,lS2,bS2,fS2,sAcq,laS,lwS,lcS,kI1,nwB,oLat])
 simp only [Int.reduceLE,reduceIte,Int.reduceNeg] at b7
 exact ⟨b1,b2.1,b4,b5,b6,b7⟩
def sLat_ob (k:Nat) (l:List Lf):Prop:=∀ (kv:Kv) (iv0:Nat→Int) (bv0:Nat→Bool),InB sLat.B iv0→FT (sta FI FB kv iv0 bv0) (dlt dyn0) sLat.F→∀ (iv:Nat→Int) (bv:Nat→Bool),Agr 8 iv0 bv0 iv bv→sLat_inv iv0 bv0 k iv bv→∀ lf∈l,LfT (sta FI FB kv) sLat.os (sLat_inv iv0 bv0) (sLat_mu iv0 bv0) k iv bv lf
theorem sLat_o0:sLat_ob 0 sLat_L0:=by
 intro kv iv0 bv0 hin hF iv bv ha hi
 unfold sLat_L0
 refine List.forall_mem_cons.2 ⟨?_,List.forall_mem_cons.2 ⟨?_,List.forall_mem_cons.2 ⟨?_,List.forall_mem_cons.2 ⟨?_,List.forall_mem_cons.2 ⟨?_,List.forall_mem_cons.2 ⟨?_,List.forall_mem_cons.2 ⟨?_,List.forall_mem_cons.2 ⟨?_,List.forall_mem_cons.2 ⟨?_,List.forall_mem_cons.2 ⟨?_,List.forall_mem_cons.2 ⟨?_,List.forall_mem_cons.2 ⟨?_,List.forall_mem_cons.2 ⟨?_,List.forall_mem_cons.2 ⟨?_,List.forall_mem_cons.2 ⟨?_,List.forall_mem_cons.2 ⟨?_,List.forall_mem_cons.2 ⟨?_,List.forall_mem_cons.2 ⟨?_,List.forall_mem_cons.2 ⟨?_,List.forall_mem_cons.2 ⟨?_,List.forall_mem_cons.2 ⟨?_,List.forall_mem_cons.2 ⟨?_,List.forall_mem_cons.2 ⟨?_,List.forall_mem_cons.2 ⟨?_,List.forall_mem_cons.2 ⟨?_,List.forall_mem_cons.2 ⟨?_,List.forall_mem_cons.2 ⟨?_,List.forall_mem_nil _⟩⟩⟩⟩⟩⟩⟩⟩⟩⟩⟩⟩⟩⟩⟩⟩⟩⟩⟩⟩⟩⟩⟩⟩⟩⟩⟩
 all_goals
  intro δ hf
 all_goals
  obtain ⟨b1,b2,b4,b5,b6,b7⟩:=sLat_b hin
 all_goals
  have a0:=ha.1 0 (by omega)
  have a1:=ha.1 1 (by omega)
  have a2:=ha.1 2 (by omega)
  have a3:=ha.1 3 (by omega)
  have a4:=ha.1 4 (by omega)
  have a5:=ha.1 5 (by omega)
  have a6:=ha.1 6 (by omega)
  have a7:=ha.1 7 (by omega)
 all_goals
  simp only [FT,TP,SB.tp,SI.tv,sta,IB.eval,and_true,true_and,ObsT,Ob.Tv,rowT,kix,In.tiv,↓tbvT,In.tbv,get_cons,get_nil,reduceIte,Nat.reduceEqDiff,Int.reduceToNat,Int.reduceAdd,Int.reduceSub,Int.reduceLE,Int.reduceLT,Int.reduceEq,ne_eq,Bool.false_eq_true,not_true_eq_false,not_false_eq_true,true_iff,false_iff,iff_true,iff_false,false_implies,implies_true,decT,decide_true,decide_false,Bool.decide_eq_true,ap2,pb2,FI_3,FI_3u,FI_8,FI_9,FI_3g,FI_3k,FI_8s,FI_8l,FI_8d,FB_1h,FB_1a,Int.toNat_natCast,Int.toNat_zero,FI_20,FI_22,FI_23,FI_24,FI_25,FI_30,FB_20,FB_22,FB_23,FB_24,FB_30,sLat_inv,sLat_mu,sLat,o1,othT,kS,slV,mayV,i64s,i64b,lmap,lS,gS,bS,fS,bdS,shV,o1,frS,stS,chS,mAS,usS,acS,erS,chE,gS2,lS2,bS2,fS2,sAcq,laS,lwS,lcS,kI1,nwB,oLat,a0,a1,a2,a3,a4,a5,a6,a7] at hf hi ⊢
 all_goals
  have c0:=@chk_0 (iv0 0) (iv0 1) (iv0 4) (iv0 5) (iv0 6)
 all_goals
  have c2:=@chk_2 (iv0 0) (iv0 1) (iv0 4) (iv0 5) (iv0 6)
 all_goals
  unfold shpS at c0 c2
 all_goals
  (repeat' (with_reducible apply And.intro))<;>first
  | omega
  | assumption
  | (unfold inM;omega)
  | exact trivial
  | (exact arm_0 _)
  | (clear hin hF ha;grind)
theorem sLat_o1:sLat_ob 1 sLat_L1:=by
 intro kv iv0 bv0 hin hF iv bv ha hi
 unfold sLat_L1
 refine List.forall_mem_cons.2 ⟨?_,List.forall_mem_cons.2 ⟨?_,List.forall_mem_cons.2 ⟨?_,List.forall_mem_cons.2 ⟨?_,List.forall_mem_cons.2 ⟨?_,List.forall_mem_cons.2 ⟨?_,List.forall_mem_cons.2 ⟨?_,List.forall_mem_cons.2 ⟨?_,List.forall_mem_cons.2 ⟨?_,List.forall_mem_cons.2 ⟨?_,List.forall_mem_nil _⟩⟩⟩⟩⟩⟩⟩⟩⟩⟩
 all_goals
  intro δ hf
 all_goals
  obtain ⟨b1,b2,b4,b5,b6,b7⟩:=sLat_b hin
 all_goals
  have a0:=ha.1 0 (by omega)
  have a1:=ha.1 1 (by omega)
  have a2:=ha.1 2 (by omega)
  have a3:=ha.1 3 (by omega)
  have a4:=ha.1 4 (by omega)
  have a5:=ha.1 5 (by omega)
  have a6:=ha.1 6 (by omega)
  have a7:=ha.1 7 (by omega)
 all_goals
  simp only [FT,TP,SB.tp,SI.tv,sta,IB.eval,and_true,true_and,ObsT,Ob.Tv,rowT,kix,In.tiv,↓tbvT,In.tbv,get_cons,get_nil,reduceIte,Nat.reduceEqDiff,Int.reduceToNat,Int.reduceAdd,Int.reduceSub,Int.reduceLE,Int.reduceLT,Int.reduceEq,ne_eq,Bool.false_eq_true,not_true_eq_false,not_false_eq_true,true_iff,false_iff,iff_true,iff_false,false_implies,implies_true,decT,decide_true,decide_false,Bool.decide_eq_true,ap2,pb2,FI_3,FI_3u,FI_8,FI_9,FI_3g,FI_3k,FI_8s,FI_8l,FI_8d,FB_1h,FB_1a,Int.toNat_natCast,Int.toNat_zero,FI_20,FI_22,FI_23,FI_24,FI_25,FI_30,FB_20,FB_22,FB_23,FB_24,FB_30,sLat_inv,sLat_mu,sLat,o1,othT,kS,slV,mayV,i64s,i64b,lmap,lS,gS,bS,fS,bdS,shV,o1,frS,stS,chS,mAS,usS,acS,erS,chE,gS2,lS2,bS2,fS2,sAcq,laS,lwS,lcS,kI1,nwB,oLat,a0,a1,a2,a3,a4,a5,a6,a7] at hf hi ⊢
 all_goals
  obtain ⟨g0,g1,hA⟩:=hi
 all_goals
  have hM:∀ j:Nat,(j:Int) < iv0 1→mayR (iv0 0) j:=bad_may (by omega) (by omega)
 all_goals
  have hD:=fun h1 h2=>may_due hM (iv 28).toNat h1 h2
 all_goals
  have e1:=fun h=>arm_skip hA g0 h
 all_goals
  have e2:=fun h1 h2=>arm_set hA g0 h1 h2
 all_goals
  have e3:=arm_no hA
 all_goals
  have e4:=hA.1
 all_goals
  have eK:=arm_kin hA (by omega)
 all_goals
  have eE:iv 28=iv0 1→armI (iv0 0) (iv 29) (iv0 1):=fun e=>e ▸ hA
 all_goals
  (repeat' (with_reducible apply And.intro))<;>first
  | omega
  | assumption
  | (unfold inM;omega)
  | exact trivial
  | (exact e2 (by omega) (by omega))
  | (exact e1 (by omega))
  | (exact eE (by omega))
  | (exact absurd (by first | exact hf | exact hf.1 | exact hf.2.1 | exact hf.2.2.1 | exact hf.2.2.2.1 | exact hf.2.2.2.2.1 | exact hf.2.2.2.2.2.1 | exact hf.2.2.2.2.2.2.1 | exact hf.2.2.2.2.2.2.2.1 | exact hf.2.2.2.2.2.2.2.2.1 | exact hf.2.2.2.2.2.2.2.2.2.1 | exact hf.2.2.2.2.2.2.2.2.2.2.1 | exact hf.2.2.2.2.2.2.2.2.2.2.2.1 | exact hf.2.2.2.2.2.2.2.2.2.2.2.2.1 | exact hf.2.2.2.2.2.2.2.2.2.2.2.2.2.1 | exact hf.2.2.2.2.2.2.2.2.2.2.2.2.2.2.1 | exact hf.2.2.2.2.2.2.2.2.2.2.2.2.2.2.2.1 | exact hf.2.2.2.2.2.2.2.2.2.2.2.2.2.2.2.2.1 | exact hf.2.2.2.2.2.2.2.2.2.2.2.2.2.2.2.2.2.1 | exact hf.2.2.2.2.2.2.2.2.2.2.2.2.2.2.2.2.2.2.1 | exact hf.2.2.2.2.2.2.2.2.2.2.2.2.2.2.2.2.2.2.2.1 | exact hf.2.2.2.2.2.2.2.2.2.2.2.2.2.2.2.2.2.2.2.2.1 | exact hf.2.2.2.2.2.2.2.2.2.2.2.2.2.2.2.2.2.2.2.2.2.1 | exact hf.2.2.2.2.2.2.2.2.2.2.2.2.2.2.2.2.2.2.2.2.2.2.1 | exact hf.2.2.2.2.2.2.2.2.2.2.2.2.2.2.2.2.2.2.2.2.2.2.2.1 | exact hf.2.2.2.2.2.2.2.2.2.2.2.2.2.2.2.2.2.2.2.2.2.2.2.2.1 | exact hf.2.2.2.2.2.2.2.2.2.2.2.2.2.2.2.2.2.2.2.2.2.2.2.2.2.1 | exact hf.2.2.2.2.2.2.2.2.2.2.2.2.2.2.2.2.2.2.2.2.2.2.2.2.2.2.1 | exact hf.2.2.2.2.2.2.2.2.2.2.2.2.2.2.2.2.2.2.2.2.2.2.2.2.2.2.2.1 | exact hf.2.2.2.2.2.2.2.2.2.2.2.2.2.2.2.2.2.2.2.2.2.2.2.2.2.2.2.2.1 | exact hf.2.2.2.2.2.2.2.2.2.2.2.2.2.2.2.2.2.2.2.2.2.2.2.2.2.2.2.2.2.1 | exact hf.2.2.2.2.2.2.2.2.2.2.2.2.2.2.2.2.2.2.2.2.2.2.2.2.2.2.2.2.2.2.1 | exact hf.2.2.2.2.2.2.2.2.2.2.2.2.2.2.2.2.2.2.2.2.2.2.2.2.2.2.2.2.2.2.2.1 | exact hf.2.2.2.2.2.2.2.2.2.2.2.2.2.2.2.2.2.2.2.2.2.2.2.2.2.2.2.2.2.2.2.2.1 | exact hf.2.2.2.2.2.2.2.2.2.2.2.2.2.2.2.2.2.2.2.2.2.2.2.2.2.2.2.2.2.2.2.2.2.1 | exact hf.2 | exact hf.2.2 | exact hf.2.2.2 | exact hf.2.2.2.2 | exact hf.2.2.2.2.2 | exact hf.2.2.2.2.2.2 | exact hf.2.2.2.2.2.2.2 | exact hf.2.2.2.2.2.2.2.2 | exact hf.2.2.2.2.2.2.2.2.2 | exact hf.2.2.2.2.2.2.2.2.2.2 | exact hf.2.2.2.2.2.2.2.2.2.2.2 | exact hf.2.2.2.2.2.2.2.2.2.2.2.2 | exact hf.2.2.2.2.2.2.2.2.2.2.2.2.2 | exact hf.2.2.2.2.2.2.2.2.2.2.2.2.2.2 | exact hf.2.2.2.2.2.2.2.2.2.2.2.2.2.2.2 | exact hf.2.2.2.2.2.2.2.2.2.2.2.2.2.2.2.2 | exact hf.2.2.2.2.2.2.2.2.2.2.2.2.2.2.2.2.2 | exact hf.2.2.2.2.2.2.2.2.2.2.2.2.2.2.2.2.2.2 | exact hf.2.2.2.2.2.2.2.2.2.2.2.2.2.2.2.2.2.2.2 | exact hf.2.2.2.2.2.2.2.2.2.2.2.2.2.2.2.2.2.2.2.2 | exact hf.2.2.2.2.2.2.2.2.2.2.2.2.2.2.2.2.2.2.2.2.2 | exact hf.2.2.2.2.2.2.2.2.2.2.2.2.2.2.2.2.2.2.2.2.2.2 | exact hf.2.2.2.2.2.2.2.2.2.2.2.2.2.2.2.2.2.2.2.2.2.2.2 | exact hf.2.2.2.2.2.2.2.2.2.2.2.2.2.2.2.2.2.2.2.2.2.2.2.2 | exact hf.2.2.2.2.2.2.2.2.2.2.2.2.2.2.2.2.2.2.2.2.2.2.2.2.2 | exact hf.2.2.2.2.2.2.2.2.2.2.2.2.2.2.2.2.2.2.2.2.2.2.2.2.2.2 | exact hf.2.2.2.2.2.2.2.2.2.2.2.2.2.2.2.2.2.2.2.2.2.2.2.2.2.2.2 | exact hf.2.2.2.2.2.2.2.2.2.2.2.2.2.2.2.2.2.2.2.2.2.2.2.2.2.2.2.2 | exact hf.2.2.2.2.2.2.2.2.2.2.2.2.2.2.2.2.2.2.2.2.2.2.2.2.2.2.2.2.2 | exact hf.2.2.2.2.2.2.2.2.2.2.2.2.2.2.2.2.2.2.2.2.2.2.2.2.2.2.2.2.2.2 | exact hf.2.2.2.2.2.2.2.2.2.2.2.2.2.2.2.2.2.2.2.2.2.2.2.2.2.2.2.2.2.2.2 | exact hf.2.2.2.2.2.2.2.2.2.2.2.2.2.2.2.2.2.2.2.2.2.2.2.2.2.2.2.2.2.2.2.2 | exact hf.2.2.2.2.2.2.2.2.2.2.2.2.2.2.2.2.2.2.2.2.2.2.2.2.2.2.2.2.2.2.2.2.2) e3)
  | (exact absurd eK (by first | exact hf | exact hf.1 | exact hf.2.1 | exact hf.2.2.1 | exact hf.2.2.2.1 | exact hf.2.2.2.2.1 | exact hf.2.2.2.2.2.1 | exact hf.2.2.2.2.2.2.1 | exact hf.2.2.2.2.2.2.2.1 | exact hf.2.2.2.2.2.2.2.2.1 | exact hf.2.2.2.2.2.2.2.2.2.1 | exact hf.2.2.2.2.2.2.2.2.2.2.1 | exact hf.2.2.2.2.2.2.2.2.2.2.2.1 | exact hf.2.2.2.2.2.2.2.2.2.2.2.2.1 | exact hf.2.2.2.2.2.2.2.2.2.2.2.2.2.1 | exact hf.2.2.2.2.2.2.2.2.2.2.2.2.2.2.1 | exact hf.2.2.2.2.2.2.2.2.2.2.2.2.2.2.2.1 | exact hf.2.2.2.2.2.2.2.2.2.2.2.2.2.2.2.2.1 | exact hf.2.2.2.2.2.2.2.2.2.2.2.2.2.2.2.2.2.1 | exact hf.2.2.2.2.2.2.2.2.2.2.2.2.2.2.2.2.2.2.1 | exact hf.2.2.2.2.2.2.2.2.2.2.2.2.2.2.2.2.2.2.2.1 | exact hf.2.2.2.2.2.2.2.2.2.2.2.2.2.2.2.2.2.2.2.2.1 | exact hf.2.2.2.2.2.2.2.2.2.2.2.2.2.2.2.2.2.2.2.2.2.1 | exact hf.2.2.2.2.2.2.2.2.2.2.2.2.2.2.2.2.2.2.2.2.2.2.1 | exact hf.2.2.2.2.2.2.2.2.2.2.2.2.2.2.2.2.2.2.2.2.2.2.2.1 | exact hf.2.2.2.2.2.2.2.2.2.2.2.2.2.2.2.2.2.2.2.2.2.2.2.2.1 | exact hf.2.2.2.2.2.2.2.2.2.2.2.2.2.2.2.2.2.2.2.2.2.2.2.2.2.1 | exact hf.2.2.2.2.2.2.2.2.2.2.2.2.2.2.2.2.2.2.2.2.2.2.2.2.2.2.1 | exact hf.2.2.2.2.2.2.2.2.2.2.2.2.2.2.2.2.2.2.2.2.2.2.2.2.2.2.2.1 | exact hf.2.2.2.2.2.2.2.2.2.2.2.2.2.2.2.2.2.2.2.2.2.2.2.2.2.2.2.2.1 | exact hf.2.2.2.2.2.2.2.2.2.2.2.2.2.2.2.2.2.2.2.2.2.2.2.2.2.2.2.2.2.1 | exact hf.2.2.2.2.2.2.2.2.2.2.2.2.2.2.2.2.2.2.2.2.2.2.2.2.2.2.2.2.2.2.1 | exact hf.2.2.2.2.2.2.2.2.2.2.2.2.2.2.2.2.2.2.2.2.2.2.2.2.2.2.2.2.2.2.2.1 | exact hf.2.2.2.2.2.2.2.2.2.2.2.2.2.2.2.2.2.2.2.2.2.2.2.2.2.2.2.2.2.2.2.2.1 | exact hf.2.2.2.2.2.2.2.2.2.2.2.2.2.2.2.2.2.2.2.2.2.2.2.2.2.2.2.2.2.2.2.2.2.1 | exact hf.2 | exact hf.2.2 | exact hf.2.2.2 | exact hf.2.2.2.2 | exact hf.2.2.2.2.2 | exact hf.2.2.2.2.2.2 | exact hf.2.2.2.2.2.2.2 | exact hf.2.2.2.2.2.2.2.2 | exact hf.2.2.2.2.2.2.2.2.2 | exact hf.2.2.2.2.2.2.2.2.2.2 | exact hf.2.2.2.2.2.2.2.2.2.2.2 | exact hf.2.2.2.2.2.2.2.2.2.2.2.2 | exact hf.2.2.2.2.2.2.2.2.2.2.2.2.2 | exact hf.2.2.2.2.2.2.2.2.2.2.2.2.2.2 | exact hf.2.2.2.2.2.2.2.2.2.2.2.2.2.2.2 | exact hf.2.2.2.2.2.2.2.2.2.2.2.2.2.2.2.2 | exact hf.2.2.2.2.2.2.2.2.2.2.2.2.2.2.2.2.2 | exact hf.2.2.2.2.2.2.2.2.2.2.2.2.2.2.2.2.2.2 | exact hf.2.2.2.2.2.2.2.2.2.2.2.2.2.2.2.2.2.2.2 | exact hf.2.2.2.2.2.2.2.2.2.2.2.2.2.2.2.2.2.2.2.2 | exact hf.2.2.2.2.2.2.2.2.2.2.2.2.2.2.2.2.2.2.2.2.2 | exact hf.2.2.2.2.2.2.2.2.2.2.2.2.2.2.2.2.2.2.2.2.2.2 | exact hf.2.2.2.2.2.2.2.2.2.2.2.2.2.2.2.2.2.2.2.2.2.2.2 | exact hf.2.2.2.2.2.2.2.2.2.2.2.2.2.2.2.2.2.2.2.2.2.2.2.2 | exact hf.2.2.2.2.2.2.2.2.2.2.2.2.2.2.2.2.2.2.2.2.2.2.2.2.2 | exact hf.2.2.2.2.2.2.2.2.2.2.2.2.2.2.2.2.2.2.2.2.2.2.2.2.2.2 | exact hf.2.2.2.2.2.2.2.2.2.2.2.2.2.2.2.2.2.2.2.2.2.2.2.2.2.2.2 | exact hf.2.2.2.2.2.2.2.2.2.2.2.2.2.2.2.2.2.2.2.2.2.2.2.2.2.2.2.2 | exact hf.2.2.2.2.2.2.2.2.2.2.2.2.2.2.2.2.2.2.2.2.2.2.2.2.2.2.2.2.2 | exact hf.2.2.2.2.2.2.2.2.2.2.2.2.2.2.2.2.2.2.2.2.2.2.2.2.2.2.2.2.2.2 | exact hf.2.2.2.2.2.2.2.2.2.2.2.2.2.2.2.2.2.2.2.2.2.2.2.2.2.2.2.2.2.2.2 | exact hf.2.2.2.2.2.2.2.2.2.2.2.2.2.2.2.2.2.2.2.2.2.2.2.2.2.2.2.2.2.2.2.2 | exact hf.2.2.2.2.2.2.2.2.2.2.2.2.2.2.2.2.2.2.2.2.2.2.2.2.2.2.2.2.2.2.2.2.2))
  | (have:=hD (by omega) (by omega);omega)
  | (clear hin hF ha;grind)
theorem sLat_o2:sLat_ob 2 sLat_L2:=by
 intro kv iv0 bv0 hin hF iv bv ha hi
 unfold sLat_L2
 refine List.forall_mem_cons.2 ⟨?_,List.forall_mem_cons.2 ⟨?_,List.forall_mem_cons.2 ⟨?_,List.forall_mem_cons.2 ⟨?_,List.forall_mem_nil _⟩⟩⟩⟩
 all_goals
  intro δ hf
 all_goals
  obtain ⟨b1,b2,b4,b5,b6,b7⟩:=sLat_b hin
 all_goals
  have a0:=ha.1 0 (by omega)
  have a1:=ha.1 1 (by omega)
  have a2:=ha.1 2 (by omega)
  have a3:=ha.1 3 (by omega)
  have a4:=ha.1 4 (by omega)
  have a5:=ha.1 5 (by omega)
  have a6:=ha.1 6 (by omega)
  have a7:=ha.1 7 (by omega)
 all_goals
  simp only [FT,TP,SB.tp,SI.tv,sta,IB.eval,and_true,true_and,ObsT,Ob.Tv,rowT,kix,In.tiv,↓tbvT,In.tbv,get_cons,get_nil,reduceIte,Nat.reduceEqDiff,Int.reduceToNat,Int.reduceAdd,Int.reduceSub,Int.reduceLE,Int.reduceLT,Int.reduceEq,ne_eq,Bool.false_eq_true,not_true_eq_false,not_false_eq_true,true_iff,false_iff,iff_true,iff_false,false_implies,implies_true,decT,decide_true,decide_false,Bool.decide_eq_true,ap2,pb2,FI_3,FI_3u,FI_8,FI_9,FI_3g,FI_3k,FI_8s,FI_8l,FI_8d,FB_1h,FB_1a,Int.toNat_natCast,Int.toNat_zero,FI_20,FI_22,FI_23,FI_24,FI_25,FI_30,FB_20,FB_22,FB_23,FB_24,FB_30,sLat_inv,sLat_mu,sLat,o1,othT,kS,slV,mayV,i64s,i64b,lmap,lS,gS,bS,fS,bdS,shV,o1,frS,stS,chS,mAS,usS,acS,erS,chE,gS2,lS2,bS2,fS2,sAcq,laS,lwS,lcS,kI1,nwB,oLat,a0,a1,a2,a3,a4,a5,a6,a7] at hf hi ⊢
 all_goals
  have hA:=hi
 all_goals
  have hM:∀ j:Nat,(j:Int) < iv0 1→mayR (iv0 0) j:=bad_may (by omega) (by omega)
 all_goals
  have hd:∀ k:Nat,(k:Int) < iv0 1→fl (iv0 0) k 1=1→0≤fl (iv0 0) k 4:=fun k h1 h2=>(may_due hM k h1 h2).1
 all_goals
  have hK:=arm_kin hA (by omega)
 all_goals
  have hR:=fun h=>fl_KS (c:=iv 29) hK (j:=0) h
 all_goals
  have hk0:=fun h=>arm_key hA (j:=0) h
 all_goals
  have hl:=lenC_nn (iv 29)
 all_goals
  have eN:=late_N (now:=iv0 7) (j:=0) hA (by omega) hd
 all_goals
  have c0:=@chk_0 (iv0 0) (iv0 1) (iv0 4) (iv0 5) (iv0 6)
 all_goals
  have c2:=@chk_2 (iv0 0) (iv0 1) (iv0 4) (iv0 5) (iv0 6)
 all_goals
  unfold shpS at c0 c2
 all_goals
  have eN1:=fun h=>(eN (by omega) (by omega) (fun t ht=>by omega) h).1
 all_goals
  (repeat' (with_reducible apply And.intro))<;>first
  | omega
  | assumption
  | (unfold inM;omega)
  | exact trivial
  | (have r:=hR (by omega);have k:=hk0 (by omega);omega)
  | (exact frd_1 (fl_has _ _ _) (hR (by omega)) (by omega))
  | (rw [fl_set0 _ _ _ (fl_has _ _ _),if_pos (by simp)])
  | (exact out_1 (hR (by omega)) (by have r:=hR (by omega);have k:=hk0 (by omega);omega))
  | (exact fun j hj=>eqR_row (out_zero (by omega) (eN1 (fun h=>by rw [show Int.toNat 0=0 from rfl,← hR (by omega)];omega))) hj)
  | (intro _ h;exact h ⟨c0 (by omega) (by omega) (by omega),by omega,by omega⟩)
  | (intro _ _ h;have:=eN1 (fun h=>by rw [show Int.toNat 0=0 from rfl,← hR (by omega)];omega);omega)
  | (intro _ h;have:=eN1 (fun h=>by rw [show Int.toNat 0=0 from rfl,← hR (by omega)];omega);omega)
theorem sLat_o3:sLat_ob 3 sLat_L3:=by
 intro kv iv0 bv0 hin hF iv bv ha hi
 unfold sLat_L3
 refine List.forall_mem_cons.2 ⟨?_,List.forall_mem_nil _⟩
 all_goals
  intro δ hf
 all_goals
  obtain ⟨b1,b2,b4,b5,b6,b7⟩:=sLat_b hin
 all_goals
  have a0:=ha.1 0 (by omega)
  have a1:=ha.1 1 (by omega)
  have a2:=ha.1 2 (by omega)
  have a3:=ha.1 3 (by omega)
  have a4:=ha.1 4 (by omega)
  have a5:=ha.1 5 (by omega)
  have a6:=ha.1 6 (by omega)
  have a7:=ha.1 7 (by omega)
 all_goals
  simp only [FT,TP,SB.tp,SI.tv,sta,IB.eval,and_true,true_and,ObsT,Ob.Tv,rowT,kix,In.tiv,↓tbvT,In.tbv,get_cons,get_nil,reduceIte,Nat.reduceEqDiff,Int.reduceToNat,Int.reduceAdd,Int.reduceSub,Int.reduceLE,Int.reduceLT,Int.reduceEq,ne_eq,Bool.false_eq_true,not_true_eq_false,not_false_eq_true,true_iff,false_iff,iff_true,iff_false,false_implies,implies_true,decT,decide_true,decide_false,Bool.decide_eq_true,ap2,pb2,FI_3,FI_3u,FI_8,FI_9,FI_3g,FI_3k,FI_8s,FI_8l,FI_8d,FB_1h,FB_1a,Int.toNat_natCast,Int.toNat_zero,FI_20,FI_22,FI_23,FI_24,FI_25,FI_30,FB_20,FB_22,FB_23,FB_24,FB_30,sLat_inv,sLat_mu,sLat,o1,othT,kS,slV,mayV,i64s,i64b,lmap,lS,gS,bS,fS,bdS,shV,o1,frS,stS,chS,mAS,usS,acS,erS,chE,gS2,lS2,bS2,fS2,sAcq,laS,lwS,lcS,kI1,nwB,oLat,a0,a1,a2,a3,a4,a5,a6,a7] at hf hi ⊢
 all_goals
  have hA:=hi
 all_goals
  have hM:∀ j:Nat,(j:Int) < iv0 1→mayR (iv0 0) j:=bad_may (by omega) (by omega)
 all_goals
  have hd:∀ k:Nat,(k:Int) < iv0 1→fl (iv0 0) k 1=1→0≤fl (iv0 0) k 4:=fun k h1 h2=>(may_due hM k h1 h2).1
 all_goals
  have hK:=arm_kin hA (by omega)
 all_goals
  have hl:=lenC_nn (iv 29)
 all_goals
  have eN:=late_N (now:=iv0 7) (j:=0) hA (by omega) hd
 all_goals
  have c0:=@chk_0 (iv0 0) (iv0 1) (iv0 4) (iv0 5) (iv0 6)
 all_goals
  have c2:=@chk_2 (iv0 0) (iv0 1) (iv0 4) (iv0 5) (iv0 6)
 all_goals
  unfold shpS at c0 c2
 all_goals
  have eN1:=fun h=>(eN (by omega) (by omega) (fun t ht=>by omega) h).1
 all_goals
  (repeat' (with_reducible apply And.intro))<;>first
  | omega
  | assumption
  | (unfold inM;omega)
  | exact trivial
  | (exact fun j hj=>eqR_row (out_zero (by omega) (eN1 (fun h=>by omega))) hj)
  | (intro _ h;exact h ⟨c0 (by omega) (by omega) (by omega),by omega,by omega⟩)
  | (intro _ h;have:=eN1 (fun h=>by omega);omega)
theorem sLat_o4:sLat_ob 4 sLat_L4:=by
 intro kv iv0 bv0 hin hF iv bv ha hi
 unfold sLat_L4
 refine List.forall_mem_cons.2 ⟨?_,List.forall_mem_cons.2 ⟨?_,List.forall_mem_cons.2 ⟨?_,List.forall_mem_cons.2 ⟨?_,List.forall_mem_cons.2 ⟨?_,List.forall_mem_nil _⟩⟩⟩⟩⟩
 all_goals
  intro δ hf
 all_goals
  obtain ⟨b1,b2,b4,b5,b6,b7⟩:=sLat_b hin
 all_goals
  have a0:=ha.1 0 (by omega)
  have a1:=ha.1 1 (by omega)
  have a2:=ha.1 2 (by omega)
  have a3:=ha.1 3 (by omega)
  have a4:=ha.1 4 (by omega)
  have a5:=ha.1 5 (by omega)
  have a6:=ha.1 6 (by omega)
  have a7:=ha.1 7 (by omega)
 all_goals
  simp only [FT,TP,SB.tp,SI.tv,sta,IB.eval,and_true,true_and,ObsT,Ob.Tv,rowT,kix,In.tiv,↓tbvT,In.tbv,get_cons,get_nil,reduceIte,Nat.reduceEqDiff,Int.reduceToNat,Int.reduceAdd,Int.reduceSub,Int.reduceLE,Int.reduceLT,Int.reduceEq,ne_eq,Bool.false_eq_true,not_true_eq_false,not_false_eq_true,true_iff,false_iff,iff_true,iff_false,false_implies,implies_true,decT,decide_true,decide_false,Bool.decide_eq_true,ap2,pb2,FI_3,FI_3u,FI_8,FI_9,FI_3g,FI_3k,FI_8s,FI_8l,FI_8d,FB_1h,FB_1a,Int.toNat_natCast,Int.toNat_zero,FI_20,FI_22,FI_23,FI_24,FI_25,FI_30,FB_20,FB_22,FB_23,FB_24,FB_30,sLat_inv,sLat_mu,sLat,o1,othT,kS,slV,mayV,i64s,i64b,lmap,lS,gS,bS,fS,bdS,shV,o1,frS,stS,chS,mAS,usS,acS,erS,chE,gS2,lS2,bS2,fS2,sAcq,laS,lwS,lcS,kI1,nwB,oLat,a0,a1,a2,a3,a4,a5,a6,a7] at hf hi ⊢
 all_goals
  obtain ⟨g1,g2,g36,g3,hA,hF4,hO⟩:=hi
 all_goals
  have hM:∀ j:Nat,(j:Int) < iv0 1→mayR (iv0 0) j:=bad_may (by omega) (by omega)
 all_goals
  have hd:∀ k:Nat,(k:Int) < iv0 1→fl (iv0 0) k 1=1→0≤fl (iv0 0) k 4:=fun k h1 h2=>(may_due hM k h1 h2).1
 all_goals
  have hK:=arm_kin hA (by omega)
 all_goals
  have hl:=hA.1
 all_goals
  have hR:=fun h=>fl_KS (c:=iv 29) hK (j:=(iv 42).toNat) h
 all_goals
  have hk0:=fun h=>arm_key hA (j:=(iv 42).toNat) h
 all_goals
  have eN:=late_N (now:=iv0 7) (j:=iv 42) hA (by omega) hd
 all_goals
  have c0:=@chk_0 (iv0 0) (iv0 1) (iv0 4) (iv0 5) (iv0 6)
 all_goals
  have c2:=@chk_2 (iv0 0) (iv0 1) (iv0 4) (iv0 5) (iv0 6)
 all_goals
  unfold shpS at c0 c2
 all_goals
  have eN1:=fun h=>eN (by omega) g3 (fun t ht=>(hF4 t ht).2) h
 all_goals
  have eN2:¬ iv 42 < lenC (iv 29)∨iv0 7 < mg (iv 29) (fl (KS (iv 29)) (iv 42).toNat 0)→_:=fun h=>eN1 (fun h2=>by rw [← hR (by omega)];omega)
 all_goals
  (repeat' (with_reducible apply And.intro))<;>first
  | omega
  | assumption
  | (unfold inM;omega)
  | exact trivial
  | (have r:=hR (by omega);have k:=hk0 (by omega);omega)
  | (rw [fl_set0 _ _ _ (fl_has _ _ _),if_pos (by omega)])
  | (exact frd_suc hF4 (by omega) (fl_has _ _ _) (hR (by omega)) (by omega))
  | (exact out_suc' hO (by omega) (hR (by omega)) (by have r:=hR (by omega);have k:=hk0 (by omega);omega))
  | (exact fun j hj=>eqR_row (out_at (by omega) (eN2 (by omega)) hO) hj)
  | (exact wh_at (eN2 (by omega)) hF4)
  | (intro _ h;exact h ⟨c0 (by omega) (by omega) (by omega),by omega,by omega⟩)
  | (have:=(eN2 (by omega)).1;omega)
  | (intro _ h;have:=(eN2 (by omega)).1;omega)
theorem sLat_c:LsC ((tm0 sLat Tryz.f18 (Tryz.f18.body.getD .skip))::[sLat_T1,sLat_T2,sLat_T3,sLat_T4]) sLat.os [sLat_L0,sLat_L1,sLat_L2,sLat_L3,sLat_L4]:=by
 unfold sLat_L0 sLat_L1 sLat_L2 sLat_L3 sLat_L4
 exact ⟨List.forall_mem_cons.2 ⟨⟨⟨_,rfl,rfl⟩,by kernel_rfl⟩,List.forall_mem_cons.2 ⟨⟨⟨_,rfl,rfl⟩,by kernel_rfl⟩,List.forall_mem_cons.2 ⟨⟨⟨_,rfl,rfl⟩,by kernel_rfl⟩,List.forall_mem_cons.2 ⟨⟨⟨_,rfl,rfl⟩,by kernel_rfl⟩,List.forall_mem_cons.2 ⟨⟨⟨_,rfl,rfl⟩,by kernel_rfl⟩,List.forall_mem_cons.2 ⟨⟨⟨_,rfl,rfl⟩,by kernel_rfl⟩,List.forall_mem_cons.2 ⟨⟨⟨_,rfl,rfl⟩,by kernel_rfl⟩,List.forall_mem_cons.2 ⟨⟨⟨_,rfl,rfl⟩,by kernel_rfl⟩,List.forall_mem_cons.2 ⟨⟨⟨_,rfl,rfl⟩,by kernel_rfl⟩,List.forall_mem_cons.2 ⟨⟨⟨_,rfl,rfl⟩,by kernel_rfl⟩,List.forall_mem_cons.2 ⟨⟨⟨_,rfl,rfl⟩,by kernel_rfl⟩,List.forall_mem_cons.2 ⟨⟨⟨_,rfl,rfl⟩,by kernel_rfl⟩,List.forall_mem_cons.2 ⟨⟨⟨_,rfl,rfl⟩,by kernel_rfl⟩,List.forall_mem_cons.2 ⟨⟨⟨_,rfl,rfl⟩,by kernel_rfl⟩,List.forall_mem_cons.2 ⟨⟨⟨_,rfl,rfl⟩,by kernel_rfl⟩,List.forall_mem_cons.2 ⟨⟨⟨_,rfl,rfl⟩,by kernel_rfl⟩,List.forall_mem_cons.2 ⟨⟨⟨_,rfl,rfl⟩,by kernel_rfl⟩,List.forall_mem_cons.2 ⟨⟨⟨_,rfl,rfl⟩,by kernel_rfl⟩,List.forall_mem_cons.2 ⟨⟨⟨_,rfl,rfl⟩,by kernel_rfl⟩,List.forall_mem_cons.2 ⟨⟨⟨_,rfl,rfl⟩,by kernel_rfl⟩,List.forall_mem_cons.2 ⟨⟨⟨_,rfl,rfl⟩,by kernel_rfl⟩,List.forall_mem_cons.2 ⟨⟨⟨_,rfl,rfl⟩,by kernel_rfl⟩,List.forall_mem_cons.2 ⟨⟨⟨_,rfl,rfl⟩,by kernel_rfl⟩,List.forall_mem_cons.2 ⟨⟨⟨_,rfl,rfl⟩,by kernel_rfl⟩,List.forall_mem_cons.2 ⟨⟨⟨_,rfl,rfl⟩,by kernel_rfl⟩,List.forall_mem_cons.2 ⟨⟨⟨_,rfl,rfl⟩,by kernel_rfl⟩,List.forall_mem_cons.2 ⟨⟨⟨_,rfl,rfl⟩,by kernel_rfl⟩,List.forall_mem_nil _⟩⟩⟩⟩⟩⟩⟩⟩⟩⟩⟩⟩⟩⟩⟩⟩⟩⟩⟩⟩⟩⟩⟩⟩⟩⟩⟩,List.forall_mem_cons.2 ⟨⟨⟨_,rfl,rfl⟩,by kernel_rfl⟩,List.forall_mem_cons.2 ⟨⟨⟨_,rfl,rfl⟩,by kernel_rfl⟩,List.forall_mem_cons.2 ⟨⟨⟨_,rfl,rfl⟩,by kernel_rfl⟩,List.forall_mem_cons.2 ⟨⟨⟨_,rfl,rfl⟩,by kernel_rfl⟩,List.forall_mem_cons.2 ⟨⟨⟨_,rfl,rfl⟩,by kernel_rfl⟩,List.forall_mem_cons.2 ⟨⟨⟨_,rfl,rfl⟩,by kernel_rfl⟩,List.forall_mem_cons.2 ⟨⟨⟨_,rfl,rfl⟩,by kernel_rfl⟩,List.forall_mem_cons.2 ⟨⟨⟨_,rfl,rfl⟩,by kernel_rfl⟩,List.forall_mem_cons.2 ⟨trivial,List.forall_mem_cons.2 ⟨trivial,List.forall_mem_nil _⟩⟩⟩⟩⟩⟩⟩⟩⟩⟩,List.forall_mem_cons.2 ⟨⟨⟨_,rfl,rfl⟩,by kernel_rfl⟩,List.forall_mem_cons.2 ⟨⟨⟨_,rfl,rfl⟩,by kernel_rfl⟩,List.forall_mem_cons.2 ⟨trivial,List.forall_mem_cons.2 ⟨trivial,List.forall_mem_nil _⟩⟩⟩⟩,List.forall_mem_cons.2 ⟨⟨⟨_,rfl,rfl⟩,by kernel_rfl⟩,List.forall_mem_nil _⟩,List.forall_mem_cons.2 ⟨⟨⟨_,rfl,rfl⟩,by kernel_rfl⟩,List.forall_mem_cons.2 ⟨⟨⟨_,rfl,rfl⟩,by kernel_rfl⟩,List.forall_mem_cons.2 ⟨trivial,List.forall_mem_cons.2 ⟨trivial,List.forall_mem_cons.2 ⟨⟨⟨_,rfl,rfl⟩,by kernel_rfl⟩,List.forall_mem_nil _⟩⟩⟩⟩⟩,trivial⟩
theorem sLat_ok:sLat.Ok Tryz.prog FI FB:=
 Con.of_plain (body:=Tryz.f18.body.getD .skip) pok fiok (EntsFor.cons sMay_ok (EntsFor.cons sBad_ok (EntsFor.consM tKeys_ok (EntsFor.consM tClone_ok EntsFor.nil)))) sLat Tryz.func18 (by kernel_rfl) 8 [sLat_T1,sLat_T2,sLat_T3,sLat_T4] (by kernel_rfl) [sLat_L0,sLat_L1,sLat_L2,sLat_L3,sLat_L4] ⟨sLat_h0,sLat_h1,sLat_h2,sLat_h3,sLat_h4,trivial⟩ sLat_c
  sLat_inv sLat_mu (fun _ _ _=>trivial) fun kv iv0 bv0 hin hF k l iv bv hk ha hi=>match k,hk,hi with
  | 0,hk,hi=>by
    cases hk
    exact sLat_o0 kv iv0 bv0 hin hF iv bv ha hi
  | 1,hk,hi=>by
    cases hk
    exact sLat_o1 kv iv0 bv0 hin hF iv bv ha hi
  | 2,hk,hi=>by
    cases hk
    exact sLat_o2 kv iv0 bv0 hin hF iv bv ha hi
  | 3,hk,hi=>by
    cases hk
    exact sLat_o3 kv iv0 bv0 hin hF iv bv ha hi
  | 4,hk,hi=>by
    cases hk
    exact sLat_o4 kv iv0 bv0 hin hF iv bv ha hi
  | k+5,hk,_=>by simp at hk
end
end Go.Sx.Sl
