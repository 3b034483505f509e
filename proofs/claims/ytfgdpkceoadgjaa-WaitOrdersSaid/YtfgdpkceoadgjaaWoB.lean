/- WaitOrders: the law by contract. -/
import Derived.Test.YtfgdpkceoadgjaaWoA
import Derived.Test.YtfgdpkceoadgjaaWaW
namespace Go.Sx.Mhw
set_option linter.unusedVariables false
set_option linter.unusedSimpArgs false
set_option linter.unusedSectionVars false
open Go Go.Sx Go.Proofs
noncomputable def bL2:List (Nat×Int×Int):=lapp (i64s [4,5]) [(1,0,9223372036854775807),(2,0,-1)]
noncomputable def lOrders:Con:=⟨13,[0,1,2,3,4,5],[lW,.it .i64 (.v 4),.it .i64 (.v 5)],gW,bL2,fM,o1 (.bo (.c true))⟩
noncomputable def lOrders0:Con:=⟨13,[4,5],[.sn,.it .i64 (.v 4),.it .i64 (.v 5)],[],i64s [4,5],[],o1 (.bo (.c true))⟩
noncomputable def lOrders_T1:Tm:=⟨⟨13,90,[(9,(.pt (.n 7) (.c 0))),(8,(.fn 118 [] [(.pt (.n 5) (.c 0))])),(7,(.pt (.n 3) (.c 0))),(6,(.pt (.n 2) (.c 0))),(5,(.pt (.n 1) (.c 0))),(3,(.pt (.n 0) (.c 0)))],[(.code (atC Try.f13 [1,1,1,1,1,1,0,1,0,0])),(.inLoop (atC Try.f13 [1,1,1,1,1,1,0,1,0,0])),(.inBlock 0),(.code (atC Try.f13 [1,1,1,1,1,1,1]))],[],.none⟩,[],
  ⟨[(0,(.cells [(.sl (.k 0) (.v 2) (.v 1) (.v 3))] 76)),(1,(.cells [(.it .i64 (.v 5))] 3)),(2,(.cells [(.bo (.c .false))] 4)),(3,(.cells [(.sl (.n 4) (.c 0) (.v 1) (.v 26))] 78)),(4,(.arr [(.nt .i64)] (.ap 61 (.v 0) (.v 1) (.v 4) (.c 0) (.c 0) (.c 0)) (.v 1) 3 (.v 26))),(5,(.cells [(.sl (.n 6) (.c 0) (.v 1) (.v 27))] 156)),(6,(.arr [(.nt .i64),(.nt .i64),(.nt .i64),(.nt .i64),(.nt .i64),(.nt .i64)] (.ap 60 (.v 0) (.v 1) (.v 4) (.c 0) (.c 0) (.c 0)) (.v 1) 158 (.v 27))),(7,(.cells [(.it .i64 (.c 0))] 3))],8,0,0,[((.le (.v 1) (.v 27)),.true),((.le (.v 1) (.c 256)),.true),((.le (.v 1) (.v 26)),.true),((.le (.v 1) (.c 256)),.true),((.lt (.c 0) (.v 1)),.true),((.le (.v 4) (.c 64)),.true),((.le (.c 0) (.v 4)),.true),((.ap 30 (.v 0) (.v 1) (.c 0) (.c 0) (.c 0) (.c 0)),.true),((.le (.v 1) (.c 300)),.true),((.le (.v 1) (.v 3)),.true),((.le (.c 0) (.v 3)),.true)],[1,0],[(1,(1,256)),(1,(1,256)),(1,(1,256)),(1,(1,256)),(1,(1,300)),(4,(0,64)),(4,(0,9223372036854775807)),(1,(0,300)),(4,((-9223372036854775808),9223372036854775807)),(5,((-9223372036854775808),9223372036854775807)),(1,(0,9223372036854775807)),(2,(0,(-1)))]⟩,[26,27]⟩
noncomputable def lOrders_T2:Tm:=⟨⟨13,90,[(9,(.pt (.n 5) (.c 0))),(8,(.fn 118 [] [(.pt (.n 4) (.c 0))])),(7,(.pt (.n 3) (.c 0))),(6,(.pt (.n 2) (.c 0))),(5,(.pt (.n 1) (.c 0))),(3,(.pt (.n 0) (.c 0)))],[(.code (atC Try.f13 [1,1,1,1,1,1,0,1,0,0])),(.inLoop (atC Try.f13 [1,1,1,1,1,1,0,1,0,0])),(.inBlock 0),(.code (atC Try.f13 [1,1,1,1,1,1,1]))],[],.none⟩,[],
  ⟨[(0,(.cells [(.sl (.k 0) (.v 2) (.v 1) (.v 3))] 76)),(1,(.cells [(.it .i64 (.v 5))] 3)),(2,(.cells [(.bo (.c .false))] 4)),(3,(.cells [.sn] 78)),(4,(.cells [.sn] 156)),(5,(.cells [(.it .i64 (.c 0))] 3))],6,0,0,[((.le (.v 1) (.c 300)),.true),((.le (.v 1) (.v 3)),.true),((.le (.c 0) (.v 3)),.true)],[1,0],[(1,(0,300)),(4,((-9223372036854775808),9223372036854775807)),(5,((-9223372036854775808),9223372036854775807)),(2,(0,(-1)))]⟩,[]⟩
noncomputable def lOrders_T3:Tm:=⟨⟨118,19,[(7,(.it .i64 (.v 38))),(6,(.it .i64 (.v 1))),(5,(.sl (.n 6) (.c 0) (.v 1) (.v 27))),(0,(.yl 10))],[(.code (atC Try.f118 [0,1,1,0,0])),(.inLoop (atC Try.f118 [0,1,1,0,0])),(.inBlock 0),(.inScope (atC Try.f118 [0]))],[],.none⟩,[⟨13,90,[(10,(.pt (.n 8) (.c 0))),(9,(.pt (.n 7) (.c 0))),(8,(.fn 118 [] [(.pt (.n 5) (.c 0))])),(7,(.pt (.n 3) (.c 0))),(6,(.pt (.n 2) (.c 0))),(5,(.pt (.n 1) (.c 0))),(3,(.pt (.n 0) (.c 0)))],[(.inRangeFunc 10),(.inBlock 2),(.code (atC Try.f13 [1,1,1,1,1,1,0,1,0,0,1,0,0,1,1])),(.inBlock 1),(.code (atC Try.f13 [1,1,1,1,1,1,0,1,0,0,1,1])),(.inLoop (atC Try.f13 [1,1,1,1,1,1,0,1,0,0])),(.inBlock 0),(.code (atC Try.f13 [1,1,1,1,1,1,1]))],[9],.none⟩],
  ⟨[(0,(.cells [(.sl (.k 0) (.v 2) (.v 1) (.v 3))] 76)),(1,(.cells [(.it .i64 (.v 5))] 3)),(2,(.cells [(.bo (.c .false))] 4)),(3,(.cells [(.sl (.n 4) (.c 0) (.v 1) (.v 26))] 78)),(4,(.arr [(.nt .i64)] (.ap 61 (.v 0) (.v 1) (.v 4) (.c 0) (.c 0) (.c 0)) (.v 1) 3 (.v 26))),(5,(.cells [(.sl (.n 6) (.c 0) (.v 1) (.v 27))] 156)),(6,(.arr [(.nt .i64),(.nt .i64),(.nt .i64),(.nt .i64),(.nt .i64),(.nt .i64)] (.ap 60 (.v 0) (.v 1) (.v 4) (.c 0) (.c 0) (.c 0)) (.v 1) 158 (.v 27))),(7,(.cells [(.it .i64 (.c 0))] 3)),(8,(.cells [(.it .i64 (.v 38))] 3)),(9,.dfr),(10,(.loop .ready .none 13 90 [(35,(.fn 118 [] [(.pt (.n 5) (.c 0))])),(10,(.pt (.n 8) (.c 0))),(32,(.bo (.c .true))),(31,(.it .i64 (.c 0))),(9,(.pt (.n 7) (.c 0))),(8,(.fn 118 [] [(.pt (.n 5) (.c 0))])),(7,(.pt (.n 3) (.c 0))),(6,(.pt (.n 2) (.c 0))),(5,(.pt (.n 1) (.c 0))),(3,(.pt (.n 0) (.c 0)))] #[36,37] (atC Try.f13 [1,1,1,1,1,1,0,1,0,0,1,0,0,1,0,1,0,0]) (atC Try.f13 [1,1,1,1,1,1,0,1,0,0,1,0,0,1,0,1,0,1]) 9))],11,0,0,[((.le (.v 1) (.v 27)),.true),((.le (.v 1) (.c 256)),.true),((.le (.v 1) (.v 26)),.true),((.le (.v 1) (.c 256)),.true),((.lt (.c 0) (.v 1)),.true),((.le (.v 4) (.c 64)),.true),((.le (.c 0) (.v 4)),.true),((.ap 30 (.v 0) (.v 1) (.c 0) (.c 0) (.c 0) (.c 0)),.true),((.le (.v 1) (.c 300)),.true),((.le (.v 1) (.v 3)),.true),((.le (.c 0) (.v 3)),.true)],[1,0],[(1,(1,256)),(4,(0,64)),(5,((-9223372036854775808),9223372036854775807)),(2,(0,(-1))),(38,(0,(-1)))]⟩,[38]⟩
noncomputable def lOrders_T4:Tm:=⟨⟨118,19,[(7,(.it .i64 (.c 0))),(6,(.it .i64 (.c 0))),(5,.sn),(0,(.yl 8))],[(.code (atC Try.f118 [0,1,1,0,0])),(.inLoop (atC Try.f118 [0,1,1,0,0])),(.inBlock 0),(.inScope (atC Try.f118 [0]))],[],.none⟩,[⟨13,90,[(10,(.pt (.n 6) (.c 0))),(9,(.pt (.n 5) (.c 0))),(8,(.fn 118 [] [(.pt (.n 4) (.c 0))])),(7,(.pt (.n 3) (.c 0))),(6,(.pt (.n 2) (.c 0))),(5,(.pt (.n 1) (.c 0))),(3,(.pt (.n 0) (.c 0)))],[(.inRangeFunc 8),(.inBlock 2),(.code (atC Try.f13 [1,1,1,1,1,1,0,1,0,0,1,0,0,1,1])),(.inBlock 1),(.code (atC Try.f13 [1,1,1,1,1,1,0,1,0,0,1,1])),(.inLoop (atC Try.f13 [1,1,1,1,1,1,0,1,0,0])),(.inBlock 0),(.code (atC Try.f13 [1,1,1,1,1,1,1]))],[7],.none⟩],
  ⟨[(0,(.cells [(.sl (.k 0) (.v 2) (.v 1) (.v 3))] 76)),(1,(.cells [(.it .i64 (.v 5))] 3)),(2,(.cells [(.bo (.c .false))] 4)),(3,(.cells [.sn] 78)),(4,(.cells [.sn] 156)),(5,(.cells [(.it .i64 (.c 0))] 3)),(6,(.cells [(.it .i64 (.c 0))] 3)),(7,.dfr),(8,(.loop .ready .none 13 90 [(35,(.fn 118 [] [(.pt (.n 4) (.c 0))])),(10,(.pt (.n 6) (.c 0))),(32,(.bo (.c .true))),(31,(.it .i64 (.c 0))),(9,(.pt (.n 5) (.c 0))),(8,(.fn 118 [] [(.pt (.n 4) (.c 0))])),(7,(.pt (.n 3) (.c 0))),(6,(.pt (.n 2) (.c 0))),(5,(.pt (.n 1) (.c 0))),(3,(.pt (.n 0) (.c 0)))] #[36,37] (atC Try.f13 [1,1,1,1,1,1,0,1,0,0,1,0,0,1,0,1,0,0]) (atC Try.f13 [1,1,1,1,1,1,0,1,0,0,1,0,0,1,0,1,0,1]) 7))],9,0,0,[((.le (.v 1) (.c 300)),.true),((.le (.v 1) (.v 3)),.true),((.le (.c 0) (.v 3)),.true)],[1,0],[(1,(0,300)),(4,((-9223372036854775808),9223372036854775807)),(5,((-9223372036854775808),9223372036854775807)),(2,(0,(-1)))]⟩,[]⟩
noncomputable def lOrders_T5:Tm:=⟨⟨13,90,[(9,(.pt (.n 13) (.c 0))),(8,(.fn 118 [] [(.pt (.n 5) (.c 0))])),(7,(.pt (.n 3) (.c 0))),(6,(.pt (.n 2) (.c 0))),(5,(.pt (.n 1) (.c 0))),(3,(.pt (.n 0) (.c 0)))],[(.code (atC Try.f13 [1,1,1,1,1,1,0,1,0,0])),(.inLoop (atC Try.f13 [1,1,1,1,1,1,0,1,0,0])),(.inBlock 0),(.code (atC Try.f13 [1,1,1,1,1,1,1]))],[9],.none⟩,[],
  ⟨[(0,(.cells [(.sl (.k 0) (.v 2) (.v 1) (.v 3))] 76)),(1,(.cells [(.it .i64 (.v 5))] 3)),(2,(.cells [(.bo (.c .false))] 4)),(3,(.cells [(.sl (.n 4) (.c 0) (.v 1) (.v 26))] 78)),(4,(.arr [(.nt .i64)] (.ap 61 (.v 0) (.v 1) (.v 4) (.c 0) (.c 0) (.c 0)) (.v 1) 3 (.v 26))),(5,(.cells [(.sl (.n 6) (.c 0) (.v 1) (.v 27))] 156)),(6,(.arr [(.nt .i64),(.nt .i64),(.nt .i64),(.nt .i64),(.nt .i64),(.nt .i64)] (.ap 60 (.v 0) (.v 1) (.v 4) (.c 0) (.c 0) (.c 0)) (.v 1) 158 (.v 27))),(9,.dfr),(13,(.cells [(.it .i64 (.c 1))] 3))],14,0,0,[((.le (.v 1) (.v 27)),.true),((.le (.v 1) (.c 256)),.true),((.le (.v 1) (.v 26)),.true),((.le (.v 1) (.c 256)),.true),((.lt (.c 0) (.v 1)),.true),((.le (.v 4) (.c 64)),.true),((.le (.c 0) (.v 4)),.true),((.ap 30 (.v 0) (.v 1) (.c 0) (.c 0) (.c 0) (.c 0)),.true),((.le (.v 1) (.c 300)),.true),((.le (.v 1) (.v 3)),.true),((.le (.c 0) (.v 3)),.true)],[1,0],[(5,((-9223372036854775808),9223372036854775807)),(1,(1,256)),(4,(0,64)),(2,(0,(-1)))]⟩,[]⟩
noncomputable def lOrders_T6:Tm:=⟨⟨13,90,[(9,(.pt (.n 9) (.c 0))),(8,(.fn 118 [] [(.pt (.n 4) (.c 0))])),(7,(.pt (.n 3) (.c 0))),(6,(.pt (.n 2) (.c 0))),(5,(.pt (.n 1) (.c 0))),(3,(.pt (.n 0) (.c 0)))],[(.code (atC Try.f13 [1,1,1,1,1,1,0,1,0,0])),(.inLoop (atC Try.f13 [1,1,1,1,1,1,0,1,0,0])),(.inBlock 0),(.code (atC Try.f13 [1,1,1,1,1,1,1]))],[7],.none⟩,[],
  ⟨[(0,(.cells [(.sl (.k 0) (.v 2) (.v 1) (.v 3))] 76)),(1,(.cells [(.it .i64 (.v 5))] 3)),(2,(.cells [(.bo (.c .false))] 4)),(3,(.cells [.sn] 78)),(4,(.cells [.sn] 156)),(7,.dfr),(9,(.cells [(.it .i64 (.c 1))] 3))],10,0,0,[((.le (.v 1) (.c 300)),.true),((.le (.v 1) (.v 3)),.true),((.le (.c 0) (.v 3)),.true)],[1,0],[(1,(0,300)),(4,((-9223372036854775808),9223372036854775807)),(5,((-9223372036854775808),9223372036854775807)),(2,(0,(-1)))]⟩,[]⟩
noncomputable def lOrders_T7:Tm:=⟨⟨118,19,[(7,(.it .i64 (.v 49))),(6,(.it .i64 (.v 1))),(5,(.sl (.n 6) (.c 0) (.v 1) (.v 27))),(0,(.yl 16))],[(.code (atC Try.f118 [0,1,1,0,0])),(.inLoop (atC Try.f118 [0,1,1,0,0])),(.inBlock 0),(.inScope (atC Try.f118 [0]))],[],.none⟩,[⟨13,90,[(10,(.pt (.n 14) (.c 0))),(9,(.pt (.n 13) (.c 0))),(8,(.fn 118 [] [(.pt (.n 5) (.c 0))])),(7,(.pt (.n 3) (.c 0))),(6,(.pt (.n 2) (.c 0))),(5,(.pt (.n 1) (.c 0))),(3,(.pt (.n 0) (.c 0)))],[(.inRangeFunc 16),(.inBlock 2),(.code (atC Try.f13 [1,1,1,1,1,1,0,1,0,0,1,0,0,1,1])),(.inBlock 1),(.code (atC Try.f13 [1,1,1,1,1,1,0,1,0,0,1,1])),(.inLoop (atC Try.f13 [1,1,1,1,1,1,0,1,0,0])),(.inBlock 0),(.code (atC Try.f13 [1,1,1,1,1,1,1]))],[15,9],.none⟩],
  ⟨[(0,(.cells [(.sl (.k 0) (.v 2) (.v 1) (.v 3))] 76)),(1,(.cells [(.it .i64 (.v 5))] 3)),(2,(.cells [(.bo (.c .false))] 4)),(3,(.cells [(.sl (.n 4) (.c 0) (.v 1) (.v 26))] 78)),(4,(.arr [(.nt .i64)] (.ap 61 (.v 0) (.v 1) (.v 4) (.c 0) (.c 0) (.c 0)) (.v 1) 3 (.v 26))),(5,(.cells [(.sl (.n 6) (.c 0) (.v 1) (.v 27))] 156)),(6,(.arr [(.nt .i64),(.nt .i64),(.nt .i64),(.nt .i64),(.nt .i64),(.nt .i64)] (.ap 60 (.v 0) (.v 1) (.v 4) (.c 0) (.c 0) (.c 0)) (.v 1) 158 (.v 27))),(9,.dfr),(13,(.cells [(.it .i64 (.c 1))] 3)),(14,(.cells [(.it .i64 (.v 49))] 3)),(15,.dfr),(16,(.loop .ready .none 13 90 [(35,(.fn 118 [] [(.pt (.n 5) (.c 0))])),(10,(.pt (.n 14) (.c 0))),(32,(.bo (.c .true))),(31,(.it .i64 (.c 1))),(9,(.pt (.n 13) (.c 0))),(8,(.fn 118 [] [(.pt (.n 5) (.c 0))])),(7,(.pt (.n 3) (.c 0))),(6,(.pt (.n 2) (.c 0))),(5,(.pt (.n 1) (.c 0))),(3,(.pt (.n 0) (.c 0)))] #[36,37] (atC Try.f13 [1,1,1,1,1,1,0,1,0,0,1,0,0,1,0,1,0,0]) (atC Try.f13 [1,1,1,1,1,1,0,1,0,0,1,0,0,1,0,1,0,1]) 15))],17,0,0,[((.le (.v 1) (.v 27)),.true),((.le (.v 1) (.c 256)),.true),((.le (.v 1) (.v 26)),.true),((.le (.v 1) (.c 256)),.true),((.lt (.c 0) (.v 1)),.true),((.le (.v 4) (.c 64)),.true),((.le (.c 0) (.v 4)),.true),((.ap 30 (.v 0) (.v 1) (.c 0) (.c 0) (.c 0) (.c 0)),.true),((.le (.v 1) (.c 300)),.true),((.le (.v 1) (.v 3)),.true),((.le (.c 0) (.v 3)),.true)],[1,0],[(5,((-9223372036854775808),9223372036854775807)),(1,(1,256)),(4,(0,64)),(2,(0,(-1))),(49,(0,(-1)))]⟩,[49]⟩
noncomputable def lOrders_T8:Tm:=⟨⟨118,19,[(7,(.it .i64 (.c 0))),(6,(.it .i64 (.c 0))),(5,.sn),(0,(.yl 12))],[(.code (atC Try.f118 [0,1,1,0,0])),(.inLoop (atC Try.f118 [0,1,1,0,0])),(.inBlock 0),(.inScope (atC Try.f118 [0]))],[],.none⟩,[⟨13,90,[(10,(.pt (.n 10) (.c 0))),(9,(.pt (.n 9) (.c 0))),(8,(.fn 118 [] [(.pt (.n 4) (.c 0))])),(7,(.pt (.n 3) (.c 0))),(6,(.pt (.n 2) (.c 0))),(5,(.pt (.n 1) (.c 0))),(3,(.pt (.n 0) (.c 0)))],[(.inRangeFunc 12),(.inBlock 2),(.code (atC Try.f13 [1,1,1,1,1,1,0,1,0,0,1,0,0,1,1])),(.inBlock 1),(.code (atC Try.f13 [1,1,1,1,1,1,0,1,0,0,1,1])),(.inLoop (atC Try.f13 [1,1,1,1,1,1,0,1,0,0])),(.inBlock 0),(.code (atC Try.f13 [1,1,1,1,1,1,1]))],[11,7],.none⟩],
  ⟨[(0,(.cells [(.sl (.k 0) (.v 2) (.v 1) (.v 3))] 76)),(1,(.cells [(.it .i64 (.v 5))] 3)),(2,(.cells [(.bo (.c .false))] 4)),(3,(.cells [.sn] 78)),(4,(.cells [.sn] 156)),(7,.dfr),(9,(.cells [(.it .i64 (.c 1))] 3)),(10,(.cells [(.it .i64 (.c 0))] 3)),(11,.dfr),(12,(.loop .ready .none 13 90 [(35,(.fn 118 [] [(.pt (.n 4) (.c 0))])),(10,(.pt (.n 10) (.c 0))),(32,(.bo (.c .true))),(31,(.it .i64 (.c 1))),(9,(.pt (.n 9) (.c 0))),(8,(.fn 118 [] [(.pt (.n 4) (.c 0))])),(7,(.pt (.n 3) (.c 0))),(6,(.pt (.n 2) (.c 0))),(5,(.pt (.n 1) (.c 0))),(3,(.pt (.n 0) (.c 0)))] #[36,37] (atC Try.f13 [1,1,1,1,1,1,0,1,0,0,1,0,0,1,0,1,0,0]) (atC Try.f13 [1,1,1,1,1,1,0,1,0,0,1,0,0,1,0,1,0,1]) 11))],13,0,0,[((.le (.v 1) (.c 300)),.true),((.le (.v 1) (.v 3)),.true),((.le (.c 0) (.v 3)),.true)],[1,0],[(1,(0,300)),(4,((-9223372036854775808),9223372036854775807)),(5,((-9223372036854775808),9223372036854775807)),(2,(0,(-1)))]⟩,[]⟩
noncomputable def lOrders_T9:Tm:=⟨⟨13,90,[(9,(.pt (.n 17) (.c 0))),(8,(.fn 118 [] [(.pt (.n 5) (.c 0))])),(7,(.pt (.n 3) (.c 0))),(6,(.pt (.n 2) (.c 0))),(5,(.pt (.n 1) (.c 0))),(3,(.pt (.n 0) (.c 0)))],[(.code (atC Try.f13 [1,1,1,1,1,1,0,1,0,0])),(.inLoop (atC Try.f13 [1,1,1,1,1,1,0,1,0,0])),(.inBlock 0),(.code (atC Try.f13 [1,1,1,1,1,1,1]))],[15,9],.none⟩,[],
  ⟨[(0,(.cells [(.sl (.k 0) (.v 2) (.v 1) (.v 3))] 76)),(1,(.cells [(.it .i64 (.v 5))] 3)),(2,(.cells [(.bo (.c .false))] 4)),(3,(.cells [(.sl (.n 4) (.c 0) (.v 1) (.v 26))] 78)),(4,(.arr [(.nt .i64)] (.ap 61 (.v 0) (.v 1) (.v 4) (.c 0) (.c 0) (.c 0)) (.v 1) 3 (.v 26))),(5,(.cells [(.sl (.n 6) (.c 0) (.v 1) (.v 27))] 156)),(6,(.arr [(.nt .i64),(.nt .i64),(.nt .i64),(.nt .i64),(.nt .i64),(.nt .i64)] (.ap 60 (.v 0) (.v 1) (.v 4) (.c 0) (.c 0) (.c 0)) (.v 1) 158 (.v 27))),(9,.dfr),(15,.dfr),(17,(.cells [(.it .i64 (.c 2))] 3))],18,0,0,[((.eq (.v 49) (.v 1)),.true),((.lt (.v 49) (.v 1)),.false),((.le (.v 1) (.v 27)),.true),((.le (.v 1) (.c 256)),.true),((.le (.v 1) (.v 26)),.true),((.le (.v 1) (.c 256)),.true),((.lt (.c 0) (.v 1)),.true),((.le (.v 4) (.c 64)),.true),((.le (.c 0) (.v 4)),.true),((.ap 30 (.v 0) (.v 1) (.c 0) (.c 0) (.c 0) (.c 0)),.true),((.le (.v 1) (.c 300)),.true),((.le (.v 1) (.v 3)),.true),((.le (.c 0) (.v 3)),.true)],[1,0],[(1,(1,256)),(49,(1,(-1))),(5,((-9223372036854775808),9223372036854775807)),(1,(1,256)),(4,(0,64)),(2,(0,(-1))),(49,(0,(-1)))]⟩,[]⟩
noncomputable def lOrders_T10:Tm:=⟨⟨13,90,[(9,(.pt (.n 13) (.c 0))),(8,(.fn 118 [] [(.pt (.n 4) (.c 0))])),(7,(.pt (.n 3) (.c 0))),(6,(.pt (.n 2) (.c 0))),(5,(.pt (.n 1) (.c 0))),(3,(.pt (.n 0) (.c 0)))],[(.code (atC Try.f13 [1,1,1,1,1,1,0,1,0,0])),(.inLoop (atC Try.f13 [1,1,1,1,1,1,0,1,0,0])),(.inBlock 0),(.code (atC Try.f13 [1,1,1,1,1,1,1]))],[11,7],.none⟩,[],
  ⟨[(0,(.cells [(.sl (.k 0) (.v 2) (.v 1) (.v 3))] 76)),(1,(.cells [(.it .i64 (.v 5))] 3)),(2,(.cells [(.bo (.c .false))] 4)),(3,(.cells [.sn] 78)),(4,(.cells [.sn] 156)),(7,.dfr),(11,.dfr),(13,(.cells [(.it .i64 (.c 2))] 3))],14,0,0,[((.le (.v 1) (.c 300)),.true),((.le (.v 1) (.v 3)),.true),((.le (.c 0) (.v 3)),.true)],[1,0],[(1,(0,300)),(4,((-9223372036854775808),9223372036854775807)),(5,((-9223372036854775808),9223372036854775807)),(2,(0,(-1)))]⟩,[]⟩
noncomputable def lOrders_L0:List Lf:=
 let f0_:List (SB×Bool):=[((.le (.v 1) (.v 3)),.true),((.le (.c 0) (.v 3)),.true)]
 let f1_:List (SB×Bool):=((.le (.v 1) (.c 300)),.true)::f0_
 let f2_:List (SB×Bool):=((.ap 30 (.v 0) (.v 1) (.c 0) (.c 0) (.c 0) (.c 0)),.true)::f1_
 let f3_:List (SB×Bool):=((.le (.c 0) (.v 4)),.true)::f2_
 let f4_:List (SB×Bool):=((.le (.v 4) (.c 64)),.true)::f3_
 [(let i_:In:=⟨⟨[(27,(.d 1)),(26,(.d 0))],[]⟩,[(6,6),(4,4),(0,0),(1,1),(2,2),(3,3),(5,5),(7,7)],[],[]⟩;.cut (((.le (.v 1) (.d 1)),.true)::((.le (.v 1) (.c 256)),.true)::((.le (.v 1) (.d 0)),.true)::((.le (.v 1) (.c 256)),.true)::((.lt (.c 0) (.v 1)),.true)::f4_) 1 i_ [] (shT lOrders_T1 i_)),
  (let i_:In:=⟨⟨[],[]⟩,[(0,0),(1,1),(2,2),(3,3),(4,4),(5,5)],[],[]⟩;.cut (((.lt (.c 0) (.v 1)),.false)::f4_) 2 i_ [] (shT lOrders_T2 i_)),
  (let i_:In:=⟨⟨[],[]⟩,[(0,0),(1,1),(2,2),(3,3),(4,4),(5,5)],[],[]⟩;.cut (((.le (.v 4) (.c 64)),.false)::f3_) 2 i_ [] (shT lOrders_T2 i_)),
  (let i_:In:=⟨⟨[],[]⟩,[(0,0),(1,1),(2,2),(3,3),(4,4),(5,5)],[],[]⟩;.cut (((.le (.c 0) (.v 4)),.false)::f2_) 2 i_ [] (shT lOrders_T2 i_)),
  (let i_:In:=⟨⟨[],[]⟩,[(0,0),(1,1),(2,2),(3,3),(4,4),(5,5)],[],[]⟩;.cut (((.ap 30 (.v 0) (.v 1) (.c 0) (.c 0) (.c 0) (.c 0)),.false)::f1_) 2 i_ [] (shT lOrders_T2 i_)),
  (.fin (((.le (.v 1) (.c 300)),.false)::f0_) 0 ⟨⟨[],[]⟩,[],[],[]⟩ [] [])]
noncomputable def lOrders_L1:List Lf:=
 [(let i_:In:=⟨⟨[(38,(.c 0))],[]⟩,[(4,4),(9,9),(0,0),(1,1),(2,2),(3,3),(5,5),(7,7),(8,8),(10,10),(6,6)],[],[]⟩;.cut ([((.le (.v 1) (.v 27)),.true),((.le (.v 1) (.c 256)),.true),((.le (.v 1) (.v 26)),.true),((.le (.v 1) (.c 256)),.true),((.lt (.c 0) (.v 1)),.true),((.le (.v 4) (.c 64)),.true),((.le (.c 0) (.v 4)),.true),((.ap 30 (.v 0) (.v 1) (.c 0) (.c 0) (.c 0) (.c 0)),.true),((.le (.v 1) (.c 300)),.true),((.le (.v 1) (.v 3)),.true),((.le (.c 0) (.v 3)),.true)]) 3 i_ [] (shT lOrders_T3 i_))]
noncomputable def lOrders_L2:List Lf:=
 [(let i_:In:=⟨⟨[],[]⟩,[(7,7),(0,0),(1,1),(2,2),(3,3),(4,4),(5,5),(6,6),(8,8)],[],[]⟩;.cut ([((.le (.v 1) (.c 300)),.true),((.le (.v 1) (.v 3)),.true),((.le (.c 0) (.v 3)),.true)]) 4 i_ [] (shT lOrders_T4 i_))]
noncomputable def lOrders_L3:List Lf:=
 let x0_:SI:=(.op .add (.v 38) (.c 1))
 let x1_:SI:=(.op .imin (.v 1) (.op .imax (.c 1) (.v 5)))
 let x2_:SI:=(.ap 60 (.v 0) (.v 1) (.v 4) (.c 0) (.c 0) (.c 0))
 let x3_:SI:=(.ap 3 x2_ (.v 38) (.c 5) (.c 0) (.c 0) (.c 0))
 let x4_:SI:=(.ap 3 (.ap 61 (.v 0) (.v 1) (.v 4) (.c 0) (.c 0) (.c 0)) (.v 38) (.c 0) (.c 0) (.c 0) (.c 0))
 let x5_:SI:=(.ap 3 x2_ (.v 38) (.c 0) (.c 0) (.c 0) (.c 0))
 let x6_:SI:=(.ap 3 x2_ (.v 38) (.c 1) (.c 0) (.c 0) (.c 0))
 let x7_:SI:=(.ap 3 x2_ (.v 38) (.c 2) (.c 0) (.c 0) (.c 0))
 let x8_:SI:=(.ap 3 x2_ (.v 38) (.c 3) (.c 0) (.c 0) (.c 0))
 let x9_:SI:=(.ap 3 x2_ (.v 38) (.c 4) (.c 0) (.c 0) (.c 0))
 let x10_:SI:=(.ap 3 (.v 0) x3_ (.c 0) (.c 0) (.c 0) (.c 0))
 let x11_:SI:=(.ap 3 (.v 0) x3_ (.c 1) (.c 0) (.c 0) (.c 0))
 let x12_:SI:=(.ap 3 (.v 0) x3_ (.c 2) (.c 0) (.c 0) (.c 0))
 let x13_:SI:=(.ap 3 (.v 0) x3_ (.c 3) (.c 0) (.c 0) (.c 0))
 let x14_:SI:=(.ap 3 (.v 0) x3_ (.c 4) (.c 0) (.c 0) (.c 0))
 let f0_:List (SB×Bool):=[((.le (.v 1) (.v 27)),.true),((.le (.v 1) (.c 256)),.true),((.le (.v 1) (.v 26)),.true),((.le (.v 1) (.c 256)),.true),((.lt (.c 0) (.v 1)),.true),((.le (.v 4) (.c 64)),.true),((.le (.c 0) (.v 4)),.true),((.ap 30 (.v 0) (.v 1) (.c 0) (.c 0) (.c 0) (.c 0)),.true),((.le (.v 1) (.c 300)),.true),((.le (.v 1) (.v 3)),.true),((.le (.c 0) (.v 3)),.true)]
 let f1_:List (SB×Bool):=((.lt (.v 38) (.v 1)),.true)::f0_
 let f2_:List (SB×Bool):=((.lt (.v 38) (.v 1)),.false)::f0_
 let f3_:List (SB×Bool):=((.eq x3_ x4_),.true)::f1_
 let f4_:List (SB×Bool):=((.le (.c 0) x3_),.true)::f3_
 let f5_:List (SB×Bool):=((.lt x3_ (.v 1)),.true)::f4_
 let f6_:List (SB×Bool):=((.eq x5_ x10_),.true)::f5_
 let f7_:List (SB×Bool):=((.eq x6_ x11_),.true)::f6_
 let f8_:List (SB×Bool):=((.eq x7_ x12_),.true)::f7_
 let f9_:List (SB×Bool):=((.eq x8_ x13_),.true)::f8_
 let f10_:List (SB×Bool):=((.eq x9_ x14_),.true)::f9_
 let f11_:List (SB×Bool):=((.le (.v 5) x0_),.true)::f10_
 [(let i_:In:=⟨⟨[],[]⟩,[(6,6),(4,4),(9,9),(0,0),(1,1),(2,2),(3,3),(5,5),(13,13)],[],[]⟩;.cut (((.eq x0_ x1_),.true)::f11_) 5 i_ [] (shT lOrders_T5 i_)),
  (.fin (((.eq x0_ x1_),.false)::f11_) 0 ⟨⟨[],[]⟩,[],[],[]⟩ [(.eb (.c .true) (.c .false))] []),
  (let i_:In:=⟨⟨[(38,(.op .add (.v 38) (.c 1)))],[]⟩,[(4,4),(9,9),(0,0),(1,1),(2,2),(3,3),(5,5),(7,7),(8,8),(10,10),(6,6)],[],[]⟩;.cut (((.le (.v 5) x0_),.false)::f10_) 3 i_ [] (shT lOrders_T3 i_)),
  (.fin (((.eq x9_ x14_),.false)::f9_) 0 ⟨⟨[],[]⟩,[],[],[]⟩ [(.eb (.c .true) (.c .false))] []),
  (.fin (((.eq x8_ x13_),.false)::f8_) 0 ⟨⟨[],[]⟩,[],[],[]⟩ [(.eb (.c .true) (.c .false))] []),
  (.fin (((.eq x7_ x12_),.false)::f7_) 0 ⟨⟨[],[]⟩,[],[],[]⟩ [(.eb (.c .true) (.c .false))] []),
  (.fin (((.eq x6_ x11_),.false)::f6_) 0 ⟨⟨[],[]⟩,[],[],[]⟩ [(.eb (.c .true) (.c .false))] []),
  (.fin (((.eq x5_ x10_),.false)::f5_) 0 ⟨⟨[],[]⟩,[],[],[]⟩ [(.eb (.c .true) (.c .false))] []),
  (.bad (((.lt x3_ (.v 1)),.false)::f4_)),
  (.bad (((.le (.c 0) x3_),.false)::f3_)),
  (.fin (((.eq x3_ x4_),.false)::f1_) 0 ⟨⟨[],[]⟩,[],[],[]⟩ [(.eb (.c .true) (.c .false))] []),
  (let i_:In:=⟨⟨[],[]⟩,[(6,6),(4,4),(9,9),(0,0),(1,1),(2,2),(3,3),(5,5),(13,11)],[],[]⟩;.cut (((.eq (.v 38) x1_),.true)::f2_) 5 i_ [] (shT lOrders_T5 i_)),
  (.fin (((.eq (.v 38) x1_),.false)::f2_) 0 ⟨⟨[],[]⟩,[],[],[]⟩ [(.eb (.c .true) (.c .false))] [])]
noncomputable def lOrders_L4:List Lf:=
 [(let i_:In:=⟨⟨[],[]⟩,[(7,7),(0,0),(1,1),(2,2),(3,3),(4,4),(9,9)],[],[]⟩;.cut ([((.le (.v 1) (.c 300)),.true),((.le (.v 1) (.v 3)),.true),((.le (.c 0) (.v 3)),.true)]) 6 i_ [] (shT lOrders_T6 i_))]
noncomputable def lOrders_L5:List Lf:=
 [(let i_:In:=⟨⟨[(49,(.c 0))],[]⟩,[(4,4),(9,9),(15,15),(0,0),(1,1),(2,2),(3,3),(5,5),(13,13),(14,14),(16,16),(6,6)],[],[]⟩;.cut ([((.le (.v 1) (.v 27)),.true),((.le (.v 1) (.c 256)),.true),((.le (.v 1) (.v 26)),.true),((.le (.v 1) (.c 256)),.true),((.lt (.c 0) (.v 1)),.true),((.le (.v 4) (.c 64)),.true),((.le (.c 0) (.v 4)),.true),((.ap 30 (.v 0) (.v 1) (.c 0) (.c 0) (.c 0) (.c 0)),.true),((.le (.v 1) (.c 300)),.true),((.le (.v 1) (.v 3)),.true),((.le (.c 0) (.v 3)),.true)]) 7 i_ [] (shT lOrders_T7 i_))]
noncomputable def lOrders_L6:List Lf:=
 [(let i_:In:=⟨⟨[],[]⟩,[(7,7),(11,11),(0,0),(1,1),(2,2),(3,3),(4,4),(9,9),(10,10),(12,12)],[],[]⟩;.cut ([((.le (.v 1) (.c 300)),.true),((.le (.v 1) (.v 3)),.true),((.le (.c 0) (.v 3)),.true)]) 8 i_ [] (shT lOrders_T8 i_))]
noncomputable def lOrders_L7:List Lf:=
 let x0_:SI:=(.ap 60 (.v 0) (.v 1) (.v 4) (.c 0) (.c 0) (.c 0))
 let x1_:SI:=(.ap 3 x0_ (.v 49) (.c 5) (.c 0) (.c 0) (.c 0))
 let x2_:SI:=(.ap 3 (.ap 61 (.v 0) (.v 1) (.v 4) (.c 0) (.c 0) (.c 0)) (.v 49) (.c 0) (.c 0) (.c 0) (.c 0))
 let x3_:SI:=(.ap 3 x0_ (.v 49) (.c 0) (.c 0) (.c 0) (.c 0))
 let x4_:SI:=(.ap 3 x0_ (.v 49) (.c 1) (.c 0) (.c 0) (.c 0))
 let x5_:SI:=(.ap 3 x0_ (.v 49) (.c 2) (.c 0) (.c 0) (.c 0))
 let x6_:SI:=(.ap 3 x0_ (.v 49) (.c 3) (.c 0) (.c 0) (.c 0))
 let x7_:SI:=(.ap 3 x0_ (.v 49) (.c 4) (.c 0) (.c 0) (.c 0))
 let x8_:SI:=(.ap 3 (.v 0) x1_ (.c 0) (.c 0) (.c 0) (.c 0))
 let x9_:SI:=(.ap 3 (.v 0) x1_ (.c 1) (.c 0) (.c 0) (.c 0))
 let x10_:SI:=(.ap 3 (.v 0) x1_ (.c 2) (.c 0) (.c 0) (.c 0))
 let x11_:SI:=(.ap 3 (.v 0) x1_ (.c 3) (.c 0) (.c 0) (.c 0))
 let x12_:SI:=(.ap 3 (.v 0) x1_ (.c 4) (.c 0) (.c 0) (.c 0))
 let f0_:List (SB×Bool):=[((.le (.v 1) (.v 27)),.true),((.le (.v 1) (.c 256)),.true),((.le (.v 1) (.v 26)),.true),((.le (.v 1) (.c 256)),.true),((.lt (.c 0) (.v 1)),.true),((.le (.v 4) (.c 64)),.true),((.le (.c 0) (.v 4)),.true),((.ap 30 (.v 0) (.v 1) (.c 0) (.c 0) (.c 0) (.c 0)),.true),((.le (.v 1) (.c 300)),.true),((.le (.v 1) (.v 3)),.true),((.le (.c 0) (.v 3)),.true)]
 let f1_:List (SB×Bool):=((.lt (.v 49) (.v 1)),.true)::f0_
 let f2_:List (SB×Bool):=((.lt (.v 49) (.v 1)),.false)::f0_
 let f3_:List (SB×Bool):=((.eq x1_ x2_),.true)::f1_
 let f4_:List (SB×Bool):=((.le (.c 0) x1_),.true)::f3_
 let f5_:List (SB×Bool):=((.lt x1_ (.v 1)),.true)::f4_
 let f6_:List (SB×Bool):=((.eq x3_ x8_),.true)::f5_
 let f7_:List (SB×Bool):=((.eq x4_ x9_),.true)::f6_
 let f8_:List (SB×Bool):=((.eq x5_ x10_),.true)::f7_
 let f9_:List (SB×Bool):=((.eq x6_ x11_),.true)::f8_
 [(let i_:In:=⟨⟨[(49,(.op .add (.v 49) (.c 1)))],[]⟩,[(4,4),(9,9),(15,15),(0,0),(1,1),(2,2),(3,3),(5,5),(13,13),(14,14),(16,16),(6,6)],[],[]⟩;.cut (((.eq x7_ x12_),.true)::f9_) 7 i_ [] (shT lOrders_T7 i_)),
  (.fin (((.eq x7_ x12_),.false)::f9_) 0 ⟨⟨[],[]⟩,[],[],[]⟩ [(.eb (.c .true) (.c .false))] []),
  (.fin (((.eq x6_ x11_),.false)::f8_) 0 ⟨⟨[],[]⟩,[],[],[]⟩ [(.eb (.c .true) (.c .false))] []),
  (.fin (((.eq x5_ x10_),.false)::f7_) 0 ⟨⟨[],[]⟩,[],[],[]⟩ [(.eb (.c .true) (.c .false))] []),
  (.fin (((.eq x4_ x9_),.false)::f6_) 0 ⟨⟨[],[]⟩,[],[],[]⟩ [(.eb (.c .true) (.c .false))] []),
  (.fin (((.eq x3_ x8_),.false)::f5_) 0 ⟨⟨[],[]⟩,[],[],[]⟩ [(.eb (.c .true) (.c .false))] []),
  (.bad (((.lt x1_ (.v 1)),.false)::f4_)),
  (.bad (((.le (.c 0) x1_),.false)::f3_)),
  (.fin (((.eq x1_ x2_),.false)::f1_) 0 ⟨⟨[],[]⟩,[],[],[]⟩ [(.eb (.c .true) (.c .false))] []),
  (let i_:In:=⟨⟨[],[]⟩,[(6,6),(4,4),(9,9),(15,15),(0,0),(1,1),(2,2),(3,3),(5,5),(17,17)],[],[]⟩;.cut (((.eq (.v 49) (.v 1)),.true)::f2_) 9 i_ [] (shT lOrders_T9 i_)),
  (.fin (((.eq (.v 49) (.v 1)),.false)::f2_) 0 ⟨⟨[],[]⟩,[],[],[]⟩ [(.eb (.c .true) (.c .false))] [])]
noncomputable def lOrders_L8:List Lf:=
 [(let i_:In:=⟨⟨[],[]⟩,[(7,7),(11,11),(0,0),(1,1),(2,2),(3,3),(4,4),(13,13)],[],[]⟩;.cut ([((.le (.v 1) (.c 300)),.true),((.le (.v 1) (.v 3)),.true),((.le (.c 0) (.v 3)),.true)]) 10 i_ [] (shT lOrders_T10 i_))]
noncomputable def lOrders_L9:List Lf:=
 [(.fin ([((.eq (.v 49) (.v 1)),.true),((.lt (.v 49) (.v 1)),.false),((.le (.v 1) (.v 27)),.true),((.le (.v 1) (.c 256)),.true),((.le (.v 1) (.v 26)),.true),((.le (.v 1) (.c 256)),.true),((.lt (.c 0) (.v 1)),.true),((.le (.v 4) (.c 64)),.true),((.le (.c 0) (.v 4)),.true),((.ap 30 (.v 0) (.v 1) (.c 0) (.c 0) (.c 0) (.c 0)),.true),((.le (.v 1) (.c 300)),.true),((.le (.v 1) (.v 3)),.true),((.le (.c 0) (.v 3)),.true)]) 0 ⟨⟨[],[]⟩,[],[],[]⟩ [] [])]
noncomputable def lOrders_L10:List Lf:=
 [(.fin ([((.le (.v 1) (.c 300)),.true),((.le (.v 1) (.v 3)),.true),((.le (.c 0) (.v 3)),.true)]) 0 ⟨⟨[],[]⟩,[],[],[]⟩ [] [])]
set_option maxRecDepth 100000 in
theorem lOrders_h0:(ex (ccOf Try.prog BF [58,84] lOrders) ((fun cc=>[qRight.ent cc,wOrd.ent cc,qOrd.ent cc,cWorksW.ent cc]) (ccOf Try.prog BF [58,84] lOrders)) (dw (ccOf Try.prog BF [58,84] lOrders) ((fun cc=>[qRight.ent cc,wOrd.ent cc,qOrd.ent cc,cWorksW.ent cc]) (ccOf Try.prog BF [58,84] lOrders)) 1000 4) (stopX []) 4000 (tm0 lOrders Try.f13 (Try.f13.body.getD .skip)).f (tm0 lOrders Try.f13 (Try.f13.body.getD .skip)).fs (tm0 lOrders Try.f13 (Try.f13.body.getD .skip)).H).lfs (ccOf Try.prog BF [58,84] lOrders) ((tm0 lOrders Try.f13 (Try.f13.body.getD .skip))::[lOrders_T1,lOrders_T2,lOrders_T3,lOrders_T4,lOrders_T5,lOrders_T6,lOrders_T7,lOrders_T8,lOrders_T9,lOrders_T10]) lOrders.os=some lOrders_L0:=by kernel_rfl
set_option maxRecDepth 100000 in
theorem lOrders_h1:(ex (ccOf Try.prog BF [58,84] lOrders) ((fun cc=>[qRight.ent cc,wOrd.ent cc,qOrd.ent cc,cWorksW.ent cc]) (ccOf Try.prog BF [58,84] lOrders)) (dw (ccOf Try.prog BF [58,84] lOrders) ((fun cc=>[qRight.ent cc,wOrd.ent cc,qOrd.ent cc,cWorksW.ent cc]) (ccOf Try.prog BF [58,84] lOrders)) 1000 4) (stopX []) 4000 lOrders_T1.f lOrders_T1.fs lOrders_T1.H).lfs (ccOf Try.prog BF [58,84] lOrders) ((tm0 lOrders Try.f13 (Try.f13.body.getD .skip))::[lOrders_T1,lOrders_T2,lOrders_T3,lOrders_T4,lOrders_T5,lOrders_T6,lOrders_T7,lOrders_T8,lOrders_T9,lOrders_T10]) lOrders.os=some lOrders_L1:=by kernel_rfl
set_option maxRecDepth 100000 in
theorem lOrders_h2:(ex (ccOf Try.prog BF [58,84] lOrders) ((fun cc=>[qRight.ent cc,wOrd.ent cc,qOrd.ent cc,cWorksW.ent cc]) (ccOf Try.prog BF [58,84] lOrders)) (dw (ccOf Try.prog BF [58,84] lOrders) ((fun cc=>[qRight.ent cc,wOrd.ent cc,qOrd.ent cc,cWorksW.ent cc]) (ccOf Try.prog BF [58,84] lOrders)) 1000 4) (stopX []) 4000 lOrders_T2.f lOrders_T2.fs lOrders_T2.H).lfs (ccOf Try.prog BF [58,84] lOrders) ((tm0 lOrders Try.f13 (Try.f13.body.getD .skip))::[lOrders_T1,lOrders_T2,lOrders_T3,lOrders_T4,lOrders_T5,lOrders_T6,lOrders_T7,lOrders_T8,lOrders_T9,lOrders_T10]) lOrders.os=some lOrders_L2:=by kernel_rfl
set_option maxRecDepth 100000 in
theorem lOrders_h3:(ex (ccOf Try.prog BF [58,84] lOrders) ((fun cc=>[qRight.ent cc,wOrd.ent cc,qOrd.ent cc,cWorksW.ent cc]) (ccOf Try.prog BF [58,84] lOrders)) (dw (ccOf Try.prog BF [58,84] lOrders) ((fun cc=>[qRight.ent cc,wOrd.ent cc,qOrd.ent cc,cWorksW.ent cc]) (ccOf Try.prog BF [58,84] lOrders)) 1000 4) (stopX []) 4000 lOrders_T3.f lOrders_T3.fs lOrders_T3.H).lfs (ccOf Try.prog BF [58,84] lOrders) ((tm0 lOrders Try.f13 (Try.f13.body.getD .skip))::[lOrders_T1,lOrders_T2,lOrders_T3,lOrders_T4,lOrders_T5,lOrders_T6,lOrders_T7,lOrders_T8,lOrders_T9,lOrders_T10]) lOrders.os=some lOrders_L3:=by kernel_rfl
set_option maxRecDepth 100000 in
theorem lOrders_h4:(ex (ccOf Try.prog BF [58,84] lOrders) ((fun cc=>[qRight.ent cc,wOrd.ent cc,qOrd.ent cc,cWorksW.ent cc]) (ccOf Try.prog BF [58,84] lOrders)) (dw (ccOf Try.prog BF [58,84] lOrders) ((fun cc=>[qRight.ent cc,wOrd.ent cc,qOrd.ent cc,cWorksW.ent cc]) (ccOf Try.prog BF [58,84] lOrders)) 1000 4) (stopX []) 4000 lOrders_T4.f lOrders_T4.fs lOrders_T4.H).lfs (ccOf Try.prog BF [58,84] lOrders) ((tm0 lOrders Try.f13 (Try.f13.body.getD .skip))::[lOrders_T1,lOrders_T2,lOrders_T3,lOrders_T4,lOrders_T5,lOrders_T6,lOrders_T7,lOrders_T8,lOrders_T9,lOrders_T10]) lOrders.os=some lOrders_L4:=by kernel_rfl
set_option maxRecDepth 100000 in
theorem lOrders_h5:(ex (ccOf Try.prog BF [58,84] lOrders) ((fun cc=>[qRight.ent cc,wOrd.ent cc,qOrd.ent cc,cWorksW.ent cc]) (ccOf Try.prog BF [58,84] lOrders)) (dw (ccOf Try.prog BF [58,84] lOrders) ((fun cc=>[qRight.ent cc,wOrd.ent cc,qOrd.ent cc,cWorksW.ent cc]) (ccOf Try.prog BF [58,84] lOrders)) 1000 4) (stopX []) 4000 lOrders_T5.f lOrders_T5.fs lOrders_T5.H).lfs (ccOf Try.prog BF [58,84] lOrders) ((tm0 lOrders Try.f13 (Try.f13.body.getD .skip))::[lOrders_T1,lOrders_T2,lOrders_T3,lOrders_T4,lOrders_T5,lOrders_T6,lOrders_T7,lOrders_T8,lOrders_T9,lOrders_T10]) lOrders.os=some lOrders_L5:=by kernel_rfl
set_option maxRecDepth 100000 in
theorem lOrders_h6:(ex (ccOf Try.prog BF [58,84] lOrders) ((fun cc=>[qRight.ent cc,wOrd.ent cc,qOrd.ent cc,cWorksW.ent cc]) (ccOf Try.prog BF [58,84] lOrders)) (dw (ccOf Try.prog BF [58,84] lOrders) ((fun cc=>[qRight.ent cc,wOrd.ent cc,qOrd.ent cc,cWorksW.ent cc]) (ccOf Try.prog BF [58,84] lOrders)) 1000 4) (stopX []) 4000 lOrders_T6.f lOrders_T6.fs lOrders_T6.H).lfs (ccOf Try.prog BF [58,84] lOrders) ((tm0 lOrders Try.f13 (Try.f13.body.getD .skip))::[lOrders_T1,lOrders_T2,lOrders_T3,lOrders_T4,lOrders_T5,lOrders_T6,lOrders_T7,lOrders_T8,lOrders_T9,lOrders_T10]) lOrders.os=some lOrders_L6:=by kernel_rfl
set_option maxRecDepth 100000 in
theorem lOrders_h7:(ex (ccOf Try.prog BF [58,84] lOrders) ((fun cc=>[qRight.ent cc,wOrd.ent cc,qOrd.ent cc,cWorksW.ent cc]) (ccOf Try.prog BF [58,84] lOrders)) (dw (ccOf Try.prog BF [58,84] lOrders) ((fun cc=>[qRight.ent cc,wOrd.ent cc,qOrd.ent cc,cWorksW.ent cc]) (ccOf Try.prog BF [58,84] lOrders)) 1000 4) (stopX []) 4000 lOrders_T7.f lOrders_T7.fs lOrders_T7.H).lfs (ccOf Try.prog BF [58,84] lOrders) ((tm0 lOrders Try.f13 (Try.f13.body.getD .skip))::[lOrders_T1,lOrders_T2,lOrders_T3,lOrders_T4,lOrders_T5,lOrders_T6,lOrders_T7,lOrders_T8,lOrders_T9,lOrders_T10]) lOrders.os=some lOrders_L7:=by kernel_rfl
set_option maxRecDepth 100000 in
theorem lOrders_h8:(ex (ccOf Try.prog BF [58,84] lOrders) ((fun cc=>[qRight.ent cc,wOrd.ent cc,qOrd.ent cc,cWorksW.ent cc]) (ccOf Try.prog BF [58,84] lOrders)) (dw (ccOf Try.prog BF [58,84] lOrders) ((fun cc=>[qRight.ent cc,wOrd.ent cc,qOrd.ent cc,cWorksW.ent cc]) (ccOf Try.prog BF [58,84] lOrders)) 1000 4) (stopX []) 4000 lOrders_T8.f lOrders_T8.fs lOrders_T8.H).lfs (ccOf Try.prog BF [58,84] lOrders) ((tm0 lOrders Try.f13 (Try.f13.body.getD .skip))::[lOrders_T1,lOrders_T2,lOrders_T3,lOrders_T4,lOrders_T5,lOrders_T6,lOrders_T7,lOrders_T8,lOrders_T9,lOrders_T10]) lOrders.os=some lOrders_L8:=by kernel_rfl
set_option maxRecDepth 100000 in
theorem lOrders_h9:(ex (ccOf Try.prog BF [58,84] lOrders) ((fun cc=>[qRight.ent cc,wOrd.ent cc,qOrd.ent cc,cWorksW.ent cc]) (ccOf Try.prog BF [58,84] lOrders)) (dw (ccOf Try.prog BF [58,84] lOrders) ((fun cc=>[qRight.ent cc,wOrd.ent cc,qOrd.ent cc,cWorksW.ent cc]) (ccOf Try.prog BF [58,84] lOrders)) 1000 4) (stopX []) 4000 lOrders_T9.f lOrders_T9.fs lOrders_T9.H).lfs (ccOf Try.prog BF [58,84] lOrders) ((tm0 lOrders Try.f13 (Try.f13.body.getD .skip))::[lOrders_T1,lOrders_T2,lOrders_T3,lOrders_T4,lOrders_T5,lOrders_T6,lOrders_T7,lOrders_T8,lOrders_T9,lOrders_T10]) lOrders.os=some lOrders_L9:=by kernel_rfl
set_option maxRecDepth 100000 in
theorem lOrders_h10:(ex (ccOf Try.prog BF [58,84] lOrders) ((fun cc=>[qRight.ent cc,wOrd.ent cc,qOrd.ent cc,cWorksW.ent cc]) (ccOf Try.prog BF [58,84] lOrders)) (dw (ccOf Try.prog BF [58,84] lOrders) ((fun cc=>[qRight.ent cc,wOrd.ent cc,qOrd.ent cc,cWorksW.ent cc]) (ccOf Try.prog BF [58,84] lOrders)) 1000 4) (stopX []) 4000 lOrders_T10.f lOrders_T10.fs lOrders_T10.H).lfs (ccOf Try.prog BF [58,84] lOrders) ((tm0 lOrders Try.f13 (Try.f13.body.getD .skip))::[lOrders_T1,lOrders_T2,lOrders_T3,lOrders_T4,lOrders_T5,lOrders_T6,lOrders_T7,lOrders_T8,lOrders_T9,lOrders_T10]) lOrders.os=some lOrders_L10:=by kernel_rfl
def lOrders_inv:(Nat→Int)→(Nat→Bool)→Nat→(Nat→Int)→(Nat→Bool)→Prop:=fun iv0 _ k iv _=>match k with
 | 3=>0≤iv 38∧iv 38≤iv0 1∧(iv 38=0∨iv 38 < iv0 5)
 | 7=>0≤iv 49∧iv 49≤iv0 1
 | _=>True
def lOrders_mu:(Nat→Int)→(Nat→Bool)→Nat→(Nat→Int)→(Nat→Bool)→Nat:=fun iv0 _ k iv _=>match k with | 0=>2 ^ 92 | 1=>2 ^ 90 | 2=>2 ^ 90 | 3=>2 ^ 80+(iv0 1 - iv 38).toNat | 4=>2 ^ 80 | 5=>2 ^ 70 | 6=>2 ^ 70 | 7=>2 ^ 60+(iv0 1 - iv 49).toNat | 8=>2 ^ 60 | 9=>0 | _=>0
set_option maxHeartbeats 0 in
theorem lOrders_o0 (kv:Kv) (iv0:Nat→Int) (bv0:Nat→Bool) (hin:InB lOrders.B iv0) (hF:FT (sta FI FB kv iv0 bv0) (dlt dyn0) lOrders.F) (iv:Nat→Int) (bv:Nat→Bool) (ha:Agr 6 iv0 bv0 iv bv) (hi:lOrders_inv iv0 bv0 0 iv bv) :
  ∀ lf∈lOrders_L0,LfT (sta FI FB kv) lOrders.os (lOrders_inv iv0 bv0) (lOrders_mu iv0 bv0) 0 iv bv lf:=by
 unfold lOrders_L0
 refine List.forall_mem_cons.2 ⟨?_,List.forall_mem_cons.2 ⟨?_,List.forall_mem_cons.2 ⟨?_,List.forall_mem_cons.2 ⟨?_,List.forall_mem_cons.2 ⟨?_,List.forall_mem_cons.2 ⟨?_,List.forall_mem_nil _⟩⟩⟩⟩⟩⟩
 all_goals
  intro δ hf
 all_goals
  simp only [FT,TP,SB.tp,SI.tv,sta,IB.eval,and_true,true_and,ObsT,Ob.Tv,rowT,kix,In.tiv,↓tbvT,In.tbv,get_cons,get_nil,reduceIte,Nat.reduceEqDiff,Int.reduceToNat,Int.reduceAdd,Int.reduceSub,Int.reduceLE,Int.reduceLT,Int.reduceEq,ne_eq,Bool.false_eq_true,not_true_eq_false,not_false_eq_true,true_iff,false_iff,iff_true,iff_false,false_implies,implies_true,decT,decide_true,decide_false,Bool.decide_eq_true,ap2,pb2,FI_3,FI_8,FI_9,FI_13,FB_13,FI_30,FB_30,FI_3g,FI_8m,Int.toNat_natCast,Int.toNat_zero,FI_60,FI_61] at hf
 all_goals
  have a0:=ha.1 0 (by omega)
  have a1:=ha.1 1 (by omega)
  have a2:=ha.1 2 (by omega)
  have a3:=ha.1 3 (by omega)
  have a4:=ha.1 4 (by omega)
  have a5:=ha.1 5 (by omega)
 all_goals
  have b1:=hin 1 0 9223372036854775807 (by simp [lOrders,bW,gW,fM,lW,ap3,pb3,pb4,ints,mayV,i64s,i64b,kW,two,b2,lmap,lapp,bF,cap64,fnO,ap60,ap61,oNo,oOrd,kU,bL2])
  simp only [Int.reduceLE,reduceIte,Int.reduceNeg] at b1
 all_goals
  have b4:=hin 4 (-9223372036854775808) 9223372036854775807 (by simp [lOrders,bW,gW,fM,lW,ap3,pb3,pb4,ints,mayV,i64s,i64b,kW,two,b2,lmap,lapp,bF,cap64,fnO,ap60,ap61,oNo,oOrd,kU,bL2])
  simp only [Int.reduceLE,reduceIte,Int.reduceNeg] at b4
 all_goals
  have b5:=hin 5 (-9223372036854775808) 9223372036854775807 (by simp [lOrders,bW,gW,fM,lW,ap3,pb3,pb4,ints,mayV,i64s,i64b,kW,two,b2,lmap,lapp,bF,cap64,fnO,ap60,ap61,oNo,oOrd,kU,bL2])
  simp only [Int.reduceLE,reduceIte,Int.reduceNeg] at b5
 all_goals
  simp only [FT,TP,SB.tp,SI.tv,sta,IB.eval,and_true,true_and,ObsT,Ob.Tv,rowT,kix,In.tiv,↓tbvT,In.tbv,get_cons,get_nil,reduceIte,Nat.reduceEqDiff,Int.reduceToNat,Int.reduceAdd,Int.reduceSub,Int.reduceLE,Int.reduceLT,Int.reduceEq,ne_eq,Bool.false_eq_true,not_true_eq_false,not_false_eq_true,true_iff,false_iff,iff_true,iff_false,false_implies,implies_true,decT,decide_true,decide_false,Bool.decide_eq_true,ap2,pb2,FI_3,FI_8,FI_9,FI_13,FB_13,FI_30,FB_30,FI_3g,FI_8m,Int.toNat_natCast,Int.toNat_zero,FI_60,FI_61,lOrders_inv,lOrders_mu,lOrders,o1,othT,bW,gW,fM,lW,ap3,pb3,pb4,ints,mayV,i64s,i64b,kW,two,b2,lmap,lapp,bF,cap64,fnO,ap60,ap61,oNo,oOrd,kU,bL2,a0,a1,a2,a3,a4,a5] at hf hi ⊢
 all_goals
  (repeat' (with_reducible apply And.intro))<;>first
  | omega
  | assumption
  | (unfold inM;omega)
  | (clear hin hF ha;grind)
set_option maxHeartbeats 0 in
theorem lOrders_o1 (kv:Kv) (iv0:Nat→Int) (bv0:Nat→Bool) (hin:InB lOrders.B iv0) (hF:FT (sta FI FB kv iv0 bv0) (dlt dyn0) lOrders.F) (iv:Nat→Int) (bv:Nat→Bool) (ha:Agr 6 iv0 bv0 iv bv) (hi:lOrders_inv iv0 bv0 1 iv bv) :
  ∀ lf∈lOrders_L1,LfT (sta FI FB kv) lOrders.os (lOrders_inv iv0 bv0) (lOrders_mu iv0 bv0) 1 iv bv lf:=by
 unfold lOrders_L1
 refine List.forall_mem_cons.2 ⟨?_,List.forall_mem_nil _⟩
 all_goals
  intro δ hf
 all_goals
  simp only [FT,TP,SB.tp,SI.tv,sta,IB.eval,and_true,true_and,ObsT,Ob.Tv,rowT,kix,In.tiv,↓tbvT,In.tbv,get_cons,get_nil,reduceIte,Nat.reduceEqDiff,Int.reduceToNat,Int.reduceAdd,Int.reduceSub,Int.reduceLE,Int.reduceLT,Int.reduceEq,ne_eq,Bool.false_eq_true,not_true_eq_false,not_false_eq_true,true_iff,false_iff,iff_true,iff_false,false_implies,implies_true,decT,decide_true,decide_false,Bool.decide_eq_true,ap2,pb2,FI_3,FI_8,FI_9,FI_13,FB_13,FI_30,FB_30,FI_3g,FI_8m,Int.toNat_natCast,Int.toNat_zero,FI_60,FI_61] at hf
 all_goals
  have a0:=ha.1 0 (by omega)
  have a1:=ha.1 1 (by omega)
  have a2:=ha.1 2 (by omega)
  have a3:=ha.1 3 (by omega)
  have a4:=ha.1 4 (by omega)
  have a5:=ha.1 5 (by omega)
 all_goals
  have b1:=hin 1 0 9223372036854775807 (by simp [lOrders,bW,gW,fM,lW,ap3,pb3,pb4,ints,mayV,i64s,i64b,kW,two,b2,lmap,lapp,bF,cap64,fnO,ap60,ap61,oNo,oOrd,kU,bL2])
  simp only [Int.reduceLE,reduceIte,Int.reduceNeg] at b1
 all_goals
  have b4:=hin 4 (-9223372036854775808) 9223372036854775807 (by simp [lOrders,bW,gW,fM,lW,ap3,pb3,pb4,ints,mayV,i64s,i64b,kW,two,b2,lmap,lapp,bF,cap64,fnO,ap60,ap61,oNo,oOrd,kU,bL2])
  simp only [Int.reduceLE,reduceIte,Int.reduceNeg] at b4
 all_goals
  have b5:=hin 5 (-9223372036854775808) 9223372036854775807 (by simp [lOrders,bW,gW,fM,lW,ap3,pb3,pb4,ints,mayV,i64s,i64b,kW,two,b2,lmap,lapp,bF,cap64,fnO,ap60,ap61,oNo,oOrd,kU,bL2])
  simp only [Int.reduceLE,reduceIte,Int.reduceNeg] at b5
 all_goals
  simp only [FT,TP,SB.tp,SI.tv,sta,IB.eval,and_true,true_and,ObsT,Ob.Tv,rowT,kix,In.tiv,↓tbvT,In.tbv,get_cons,get_nil,reduceIte,Nat.reduceEqDiff,Int.reduceToNat,Int.reduceAdd,Int.reduceSub,Int.reduceLE,Int.reduceLT,Int.reduceEq,ne_eq,Bool.false_eq_true,not_true_eq_false,not_false_eq_true,true_iff,false_iff,iff_true,iff_false,false_implies,implies_true,decT,decide_true,decide_false,Bool.decide_eq_true,ap2,pb2,FI_3,FI_8,FI_9,FI_13,FB_13,FI_30,FB_30,FI_3g,FI_8m,Int.toNat_natCast,Int.toNat_zero,FI_60,FI_61,lOrders_inv,lOrders_mu,lOrders,o1,othT,bW,gW,fM,lW,ap3,pb3,pb4,ints,mayV,i64s,i64b,kW,two,b2,lmap,lapp,bF,cap64,fnO,ap60,ap61,oNo,oOrd,kU,bL2,a0,a1,a2,a3,a4,a5] at hf hi ⊢
 all_goals
  (repeat' (with_reducible apply And.intro))<;>first
  | omega
  | assumption
  | (unfold inM;omega)
  | (clear hin hF ha;grind)
set_option maxHeartbeats 0 in
theorem lOrders_o2 (kv:Kv) (iv0:Nat→Int) (bv0:Nat→Bool) (hin:InB lOrders.B iv0) (hF:FT (sta FI FB kv iv0 bv0) (dlt dyn0) lOrders.F) (iv:Nat→Int) (bv:Nat→Bool) (ha:Agr 6 iv0 bv0 iv bv) (hi:lOrders_inv iv0 bv0 2 iv bv) :
  ∀ lf∈lOrders_L2,LfT (sta FI FB kv) lOrders.os (lOrders_inv iv0 bv0) (lOrders_mu iv0 bv0) 2 iv bv lf:=by
 unfold lOrders_L2
 refine List.forall_mem_cons.2 ⟨?_,List.forall_mem_nil _⟩
 all_goals
  intro δ hf
 all_goals
  simp only [FT,TP,SB.tp,SI.tv,sta,IB.eval,and_true,true_and,ObsT,Ob.Tv,rowT,kix,In.tiv,↓tbvT,In.tbv,get_cons,get_nil,reduceIte,Nat.reduceEqDiff,Int.reduceToNat,Int.reduceAdd,Int.reduceSub,Int.reduceLE,Int.reduceLT,Int.reduceEq,ne_eq,Bool.false_eq_true,not_true_eq_false,not_false_eq_true,true_iff,false_iff,iff_true,iff_false,false_implies,implies_true,decT,decide_true,decide_false,Bool.decide_eq_true,ap2,pb2,FI_3,FI_8,FI_9,FI_13,FB_13,FI_30,FB_30,FI_3g,FI_8m,Int.toNat_natCast,Int.toNat_zero,FI_60,FI_61] at hf
 all_goals
  have a0:=ha.1 0 (by omega)
  have a1:=ha.1 1 (by omega)
  have a2:=ha.1 2 (by omega)
  have a3:=ha.1 3 (by omega)
  have a4:=ha.1 4 (by omega)
  have a5:=ha.1 5 (by omega)
 all_goals
  have b1:=hin 1 0 9223372036854775807 (by simp [lOrders,bW,gW,fM,lW,ap3,pb3,pb4,ints,mayV,i64s,i64b,kW,two,b2,lmap,lapp,bF,cap64,fnO,ap60,ap61,oNo,oOrd,kU,bL2])
  simp only [Int.reduceLE,reduceIte,Int.reduceNeg] at b1
 all_goals
  have b4:=hin 4 (-9223372036854775808) 9223372036854775807 (by simp [lOrders,bW,gW,fM,lW,ap3,pb3,pb4,ints,mayV,i64s,i64b,kW,two,b2,lmap,lapp,bF,cap64,fnO,ap60,ap61,oNo,oOrd,kU,bL2])
  simp only [Int.reduceLE,reduceIte,Int.reduceNeg] at b4
 all_goals
  have b5:=hin 5 (-9223372036854775808) 9223372036854775807 (by simp [lOrders,bW,gW,fM,lW,ap3,pb3,pb4,ints,mayV,i64s,i64b,kW,two,b2,lmap,lapp,bF,cap64,fnO,ap60,ap61,oNo,oOrd,kU,bL2])
  simp only [Int.reduceLE,reduceIte,Int.reduceNeg] at b5
 all_goals
  simp only [FT,TP,SB.tp,SI.tv,sta,IB.eval,and_true,true_and,ObsT,Ob.Tv,rowT,kix,In.tiv,↓tbvT,In.tbv,get_cons,get_nil,reduceIte,Nat.reduceEqDiff,Int.reduceToNat,Int.reduceAdd,Int.reduceSub,Int.reduceLE,Int.reduceLT,Int.reduceEq,ne_eq,Bool.false_eq_true,not_true_eq_false,not_false_eq_true,true_iff,false_iff,iff_true,iff_false,false_implies,implies_true,decT,decide_true,decide_false,Bool.decide_eq_true,ap2,pb2,FI_3,FI_8,FI_9,FI_13,FB_13,FI_30,FB_30,FI_3g,FI_8m,Int.toNat_natCast,Int.toNat_zero,FI_60,FI_61,lOrders_inv,lOrders_mu,lOrders,o1,othT,bW,gW,fM,lW,ap3,pb3,pb4,ints,mayV,i64s,i64b,kW,two,b2,lmap,lapp,bF,cap64,fnO,ap60,ap61,oNo,oOrd,kU,bL2,a0,a1,a2,a3,a4,a5] at hf hi ⊢
 all_goals
  (repeat' (with_reducible apply And.intro))<;>first
  | omega
  | assumption
  | (unfold inM;omega)
  | (clear hin hF ha;grind)
set_option maxHeartbeats 0 in
theorem lOrders_o3 (kv:Kv) (iv0:Nat→Int) (bv0:Nat→Bool) (hin:InB lOrders.B iv0) (hF:FT (sta FI FB kv iv0 bv0) (dlt dyn0) lOrders.F) (iv:Nat→Int) (bv:Nat→Bool) (ha:Agr 6 iv0 bv0 iv bv) (hi:lOrders_inv iv0 bv0 3 iv bv) :
  ∀ lf∈lOrders_L3,LfT (sta FI FB kv) lOrders.os (lOrders_inv iv0 bv0) (lOrders_mu iv0 bv0) 3 iv bv lf:=by
 unfold lOrders_L3
 refine List.forall_mem_cons.2 ⟨?_,List.forall_mem_cons.2 ⟨?_,List.forall_mem_cons.2 ⟨?_,List.forall_mem_cons.2 ⟨?_,List.forall_mem_cons.2 ⟨?_,List.forall_mem_cons.2 ⟨?_,List.forall_mem_cons.2 ⟨?_,List.forall_mem_cons.2 ⟨?_,List.forall_mem_cons.2 ⟨?_,List.forall_mem_cons.2 ⟨?_,List.forall_mem_cons.2 ⟨?_,List.forall_mem_cons.2 ⟨?_,List.forall_mem_cons.2 ⟨?_,List.forall_mem_nil _⟩⟩⟩⟩⟩⟩⟩⟩⟩⟩⟩⟩⟩
 all_goals
  intro δ hf
 all_goals
  simp only [FT,TP,SB.tp,SI.tv,sta,IB.eval,and_true,true_and,ObsT,Ob.Tv,rowT,kix,In.tiv,↓tbvT,In.tbv,get_cons,get_nil,reduceIte,Nat.reduceEqDiff,Int.reduceToNat,Int.reduceAdd,Int.reduceSub,Int.reduceLE,Int.reduceLT,Int.reduceEq,ne_eq,Bool.false_eq_true,not_true_eq_false,not_false_eq_true,true_iff,false_iff,iff_true,iff_false,false_implies,implies_true,decT,decide_true,decide_false,Bool.decide_eq_true,ap2,pb2,FI_3,FI_8,FI_9,FI_13,FB_13,FI_30,FB_30,FI_3g,FI_8m,Int.toNat_natCast,Int.toNat_zero,FI_60,FI_61] at hf
 all_goals
  have a0:=ha.1 0 (by omega)
  have a1:=ha.1 1 (by omega)
  have a2:=ha.1 2 (by omega)
  have a3:=ha.1 3 (by omega)
  have a4:=ha.1 4 (by omega)
  have a5:=ha.1 5 (by omega)
 all_goals
  have b1:=hin 1 0 9223372036854775807 (by simp [lOrders,bW,gW,fM,lW,ap3,pb3,pb4,ints,mayV,i64s,i64b,kW,two,b2,lmap,lapp,bF,cap64,fnO,ap60,ap61,oNo,oOrd,kU,bL2])
  simp only [Int.reduceLE,reduceIte,Int.reduceNeg] at b1
 all_goals
  have b4:=hin 4 (-9223372036854775808) 9223372036854775807 (by simp [lOrders,bW,gW,fM,lW,ap3,pb3,pb4,ints,mayV,i64s,i64b,kW,two,b2,lmap,lapp,bF,cap64,fnO,ap60,ap61,oNo,oOrd,kU,bL2])
  simp only [Int.reduceLE,reduceIte,Int.reduceNeg] at b4
 all_goals
  have b5:=hin 5 (-9223372036854775808) 9223372036854775807 (by simp [lOrders,bW,gW,fM,lW,ap3,pb3,pb4,ints,mayV,i64s,i64b,kW,two,b2,lmap,lapp,bF,cap64,fnO,ap60,ap61,oNo,oOrd,kU,bL2])
  simp only [Int.reduceLE,reduceIte,Int.reduceNeg] at b5
 all_goals
  simp only [FT,TP,SB.tp,SI.tv,sta,IB.eval,and_true,true_and,ObsT,Ob.Tv,rowT,kix,In.tiv,↓tbvT,In.tbv,get_cons,get_nil,reduceIte,Nat.reduceEqDiff,Int.reduceToNat,Int.reduceAdd,Int.reduceSub,Int.reduceLE,Int.reduceLT,Int.reduceEq,ne_eq,Bool.false_eq_true,not_true_eq_false,not_false_eq_true,true_iff,false_iff,iff_true,iff_false,false_implies,implies_true,decT,decide_true,decide_false,Bool.decide_eq_true,ap2,pb2,FI_3,FI_8,FI_9,FI_13,FB_13,FI_30,FB_30,FI_3g,FI_8m,Int.toNat_natCast,Int.toNat_zero,FI_60,FI_61,lOrders_inv,lOrders_mu,lOrders,o1,othT,bW,gW,fM,lW,ap3,pb3,pb4,ints,mayV,i64s,i64b,kW,two,b2,lmap,lapp,bF,cap64,fnO,ap60,ap61,oNo,oOrd,kU,bL2,a0,a1,a2,a3,a4,a5] at hf hi ⊢
 all_goals
  obtain ⟨g0,g1,g2⟩:=hi
 all_goals
  have k1:=fun hh=>@fl_ordW (iv0 0) (iv0 1) (iv0 4) (iv 38).toNat hh
 all_goals
  have k2:=fun hn hh=>@srt_at (iv0 0) (iv0 1) (iv0 4) hn (iv 38).toNat hh
 all_goals
  have k3:0≤iv 38→iv 38 < iv0 1→iv0 1≤1000→fl (ordW (iv0 0) (iv0 1) (iv0 4)) (iv 38).toNat 0=fl (srtW (iv0 0) (iv0 1) (iv0 4)) (iv 38).toNat 5∧0≤fl (srtW (iv0 0) (iv0 1) (iv0 4)) (iv 38).toNat 5∧fl (srtW (iv0 0) (iv0 1) (iv0 4)) (iv 38).toNat 5 < iv0 1∧fl (srtW (iv0 0) (iv0 1) (iv0 4)) (iv 38).toNat 0=fl (iv0 0) (fl (srtW (iv0 0) (iv0 1) (iv0 4)) (iv 38).toNat 5).toNat 0∧fl (srtW (iv0 0) (iv0 1) (iv0 4)) (iv 38).toNat 1=fl (iv0 0) (fl (srtW (iv0 0) (iv0 1) (iv0 4)) (iv 38).toNat 5).toNat 1∧fl (srtW (iv0 0) (iv0 1) (iv0 4)) (iv 38).toNat 2=fl (iv0 0) (fl (srtW (iv0 0) (iv0 1) (iv0 4)) (iv 38).toNat 5).toNat 2∧fl (srtW (iv0 0) (iv0 1) (iv0 4)) (iv 38).toNat 3=fl (iv0 0) (fl (srtW (iv0 0) (iv0 1) (iv0 4)) (iv 38).toNat 5).toNat 3∧fl (srtW (iv0 0) (iv0 1) (iv0 4)) (iv 38).toNat 4=fl (iv0 0) (fl (srtW (iv0 0) (iv0 1) (iv0 4)) (iv 38).toNat 5).toNat 4:=fun h1 h2 h3=>by
   have z1:=k1 (by omega)
   obtain ⟨z2,z3,z4⟩:=k2 h3 (by omega)
   exact ⟨z1,z2,z3,z4 0 (by omega),z4 1 (by omega),z4 2 (by omega),z4 3 (by omega),z4 4 (by omega)⟩
 all_goals
  clear k1 k2
 all_goals
  (repeat' (with_reducible apply And.intro))<;>first
  | omega
  | assumption
  | (unfold inM;omega)
  | (clear hin hF ha;grind)
set_option maxHeartbeats 0 in
theorem lOrders_o4 (kv:Kv) (iv0:Nat→Int) (bv0:Nat→Bool) (hin:InB lOrders.B iv0) (hF:FT (sta FI FB kv iv0 bv0) (dlt dyn0) lOrders.F) (iv:Nat→Int) (bv:Nat→Bool) (ha:Agr 6 iv0 bv0 iv bv) (hi:lOrders_inv iv0 bv0 4 iv bv) :
  ∀ lf∈lOrders_L4,LfT (sta FI FB kv) lOrders.os (lOrders_inv iv0 bv0) (lOrders_mu iv0 bv0) 4 iv bv lf:=by
 unfold lOrders_L4
 refine List.forall_mem_cons.2 ⟨?_,List.forall_mem_nil _⟩
 all_goals
  intro δ hf
 all_goals
  simp only [FT,TP,SB.tp,SI.tv,sta,IB.eval,and_true,true_and,ObsT,Ob.Tv,rowT,kix,In.tiv,↓tbvT,In.tbv,get_cons,get_nil,reduceIte,Nat.reduceEqDiff,Int.reduceToNat,Int.reduceAdd,Int.reduceSub,Int.reduceLE,Int.reduceLT,Int.reduceEq,ne_eq,Bool.false_eq_true,not_true_eq_false,not_false_eq_true,true_iff,false_iff,iff_true,iff_false,false_implies,implies_true,decT,decide_true,decide_false,Bool.decide_eq_true,ap2,pb2,FI_3,FI_8,FI_9,FI_13,FB_13,FI_30,FB_30,FI_3g,FI_8m,Int.toNat_natCast,Int.toNat_zero,FI_60,FI_61] at hf
 all_goals
  have a0:=ha.1 0 (by omega)
  have a1:=ha.1 1 (by omega)
  have a2:=ha.1 2 (by omega)
  have a3:=ha.1 3 (by omega)
  have a4:=ha.1 4 (by omega)
  have a5:=ha.1 5 (by omega)
 all_goals
  have b1:=hin 1 0 9223372036854775807 (by simp [lOrders,bW,gW,fM,lW,ap3,pb3,pb4,ints,mayV,i64s,i64b,kW,two,b2,lmap,lapp,bF,cap64,fnO,ap60,ap61,oNo,oOrd,kU,bL2])
  simp only [Int.reduceLE,reduceIte,Int.reduceNeg] at b1
 all_goals
  have b4:=hin 4 (-9223372036854775808) 9223372036854775807 (by simp [lOrders,bW,gW,fM,lW,ap3,pb3,pb4,ints,mayV,i64s,i64b,kW,two,b2,lmap,lapp,bF,cap64,fnO,ap60,ap61,oNo,oOrd,kU,bL2])
  simp only [Int.reduceLE,reduceIte,Int.reduceNeg] at b4
 all_goals
  have b5:=hin 5 (-9223372036854775808) 9223372036854775807 (by simp [lOrders,bW,gW,fM,lW,ap3,pb3,pb4,ints,mayV,i64s,i64b,kW,two,b2,lmap,lapp,bF,cap64,fnO,ap60,ap61,oNo,oOrd,kU,bL2])
  simp only [Int.reduceLE,reduceIte,Int.reduceNeg] at b5
 all_goals
  simp only [FT,TP,SB.tp,SI.tv,sta,IB.eval,and_true,true_and,ObsT,Ob.Tv,rowT,kix,In.tiv,↓tbvT,In.tbv,get_cons,get_nil,reduceIte,Nat.reduceEqDiff,Int.reduceToNat,Int.reduceAdd,Int.reduceSub,Int.reduceLE,Int.reduceLT,Int.reduceEq,ne_eq,Bool.false_eq_true,not_true_eq_false,not_false_eq_true,true_iff,false_iff,iff_true,iff_false,false_implies,implies_true,decT,decide_true,decide_false,Bool.decide_eq_true,ap2,pb2,FI_3,FI_8,FI_9,FI_13,FB_13,FI_30,FB_30,FI_3g,FI_8m,Int.toNat_natCast,Int.toNat_zero,FI_60,FI_61,lOrders_inv,lOrders_mu,lOrders,o1,othT,bW,gW,fM,lW,ap3,pb3,pb4,ints,mayV,i64s,i64b,kW,two,b2,lmap,lapp,bF,cap64,fnO,ap60,ap61,oNo,oOrd,kU,bL2,a0,a1,a2,a3,a4,a5] at hf hi ⊢
 all_goals
  (repeat' (with_reducible apply And.intro))<;>first
  | omega
  | assumption
  | (unfold inM;omega)
  | (clear hin hF ha;grind)
set_option maxHeartbeats 0 in
theorem lOrders_o5 (kv:Kv) (iv0:Nat→Int) (bv0:Nat→Bool) (hin:InB lOrders.B iv0) (hF:FT (sta FI FB kv iv0 bv0) (dlt dyn0) lOrders.F) (iv:Nat→Int) (bv:Nat→Bool) (ha:Agr 6 iv0 bv0 iv bv) (hi:lOrders_inv iv0 bv0 5 iv bv) :
  ∀ lf∈lOrders_L5,LfT (sta FI FB kv) lOrders.os (lOrders_inv iv0 bv0) (lOrders_mu iv0 bv0) 5 iv bv lf:=by
 unfold lOrders_L5
 refine List.forall_mem_cons.2 ⟨?_,List.forall_mem_nil _⟩
 all_goals
  intro δ hf
 all_goals
  simp only [FT,TP,SB.tp,SI.tv,sta,IB.eval,and_true,true_and,ObsT,Ob.Tv,rowT,kix,In.tiv,↓tbvT,In.tbv,get_cons,get_nil,reduceIte,Nat.reduceEqDiff,Int.reduceToNat,Int.reduceAdd,Int.reduceSub,Int.reduceLE,Int.reduceLT,Int.reduceEq,ne_eq,Bool.false_eq_true,not_true_eq_false,not_false_eq_true,true_iff,false_iff,iff_true,iff_false,false_implies,implies_true,decT,decide_true,decide_false,Bool.decide_eq_true,ap2,pb2,FI_3,FI_8,FI_9,FI_13,FB_13,FI_30,FB_30,FI_3g,FI_8m,Int.toNat_natCast,Int.toNat_zero,FI_60,FI_61] at hf
 all_goals
  have a0:=ha.1 0 (by omega)
  have a1:=ha.1 1 (by omega)
  have a2:=ha.1 2 (by omega)
  have a3:=ha.1 3 (by omega)
  have a4:=ha.1 4 (by omega)
  have a5:=ha.1 5 (by omega)
 all_goals
  have b1:=hin 1 0 9223372036854775807 (by simp [lOrders,bW,gW,fM,lW,ap3,pb3,pb4,ints,mayV,i64s,i64b,kW,two,b2,lmap,lapp,bF,cap64,fnO,ap60,ap61,oNo,oOrd,kU,bL2])
  simp only [Int.reduceLE,reduceIte,Int.reduceNeg] at b1
 all_goals
  have b4:=hin 4 (-9223372036854775808) 9223372036854775807 (by simp [lOrders,bW,gW,fM,lW,ap3,pb3,pb4,ints,mayV,i64s,i64b,kW,two,b2,lmap,lapp,bF,cap64,fnO,ap60,ap61,oNo,oOrd,kU,bL2])
  simp only [Int.reduceLE,reduceIte,Int.reduceNeg] at b4
 all_goals
  have b5:=hin 5 (-9223372036854775808) 9223372036854775807 (by simp [lOrders,bW,gW,fM,lW,ap3,pb3,pb4,ints,mayV,i64s,i64b,kW,two,b2,lmap,lapp,bF,cap64,fnO,ap60,ap61,oNo,oOrd,kU,bL2])
  simp only [Int.reduceLE,reduceIte,Int.reduceNeg] at b5
 all_goals
  simp only [FT,TP,SB.tp,SI.tv,sta,IB.eval,and_true,true_and,ObsT,Ob.Tv,rowT,kix,In.tiv,↓tbvT,In.tbv,get_cons,get_nil,reduceIte,Nat.reduceEqDiff,Int.reduceToNat,Int.reduceAdd,Int.reduceSub,Int.reduceLE,Int.reduceLT,Int.reduceEq,ne_eq,Bool.false_eq_true,not_true_eq_false,not_false_eq_true,true_iff,false_iff,iff_true,iff_false,false_implies,implies_true,decT,decide_true,decide_false,Bool.decide_eq_true,ap2,pb2,FI_3,FI_8,FI_9,FI_13,FB_13,FI_30,FB_30,FI_3g,FI_8m,Int.toNat_natCast,Int.toNat_zero,FI_60,FI_61,lOrders_inv,lOrders_mu,lOrders,o1,othT,bW,gW,fM,lW,ap3,pb3,pb4,ints,mayV,i64s,i64b,kW,two,b2,lmap,lapp,bF,cap64,fnO,ap60,ap61,oNo,oOrd,kU,bL2,a0,a1,a2,a3,a4,a5] at hf hi ⊢
 all_goals
  (repeat' (with_reducible apply And.intro))<;>first
  | omega
  | assumption
  | (unfold inM;omega)
  | (clear hin hF ha;grind)
set_option maxHeartbeats 0 in
theorem lOrders_o6 (kv:Kv) (iv0:Nat→Int) (bv0:Nat→Bool) (hin:InB lOrders.B iv0) (hF:FT (sta FI FB kv iv0 bv0) (dlt dyn0) lOrders.F) (iv:Nat→Int) (bv:Nat→Bool) (ha:Agr 6 iv0 bv0 iv bv) (hi:lOrders_inv iv0 bv0 6 iv bv) :
  ∀ lf∈lOrders_L6,LfT (sta FI FB kv) lOrders.os (lOrders_inv iv0 bv0) (lOrders_mu iv0 bv0) 6 iv bv lf:=by
 unfold lOrders_L6
 refine List.forall_mem_cons.2 ⟨?_,List.forall_mem_nil _⟩
 all_goals
  intro δ hf
 all_goals
  simp only [FT,TP,SB.tp,SI.tv,sta,IB.eval,and_true,true_and,ObsT,Ob.Tv,rowT,kix,In.tiv,↓tbvT,In.tbv,get_cons,get_nil,reduceIte,Nat.reduceEqDiff,Int.reduceToNat,Int.reduceAdd,Int.reduceSub,Int.reduceLE,Int.reduceLT,Int.reduceEq,ne_eq,Bool.false_eq_true,not_true_eq_false,not_false_eq_true,true_iff,false_iff,iff_true,iff_false,false_implies,implies_true,decT,decide_true,decide_false,Bool.decide_eq_true,ap2,pb2,FI_3,FI_8,FI_9,FI_13,FB_13,FI_30,FB_30,FI_3g,FI_8m,Int.toNat_natCast,Int.toNat_zero,FI_60,FI_61] at hf
 all_goals
  have a0:=ha.1 0 (by omega)
  have a1:=ha.1 1 (by omega)
  have a2:=ha.1 2 (by omega)
  have a3:=ha.1 3 (by omega)
  have a4:=ha.1 4 (by omega)
  have a5:=ha.1 5 (by omega)
 all_goals
  have b1:=hin 1 0 9223372036854775807 (by simp [lOrders,bW,gW,fM,lW,ap3,pb3,pb4,ints,mayV,i64s,i64b,kW,two,b2,lmap,lapp,bF,cap64,fnO,ap60,ap61,oNo,oOrd,kU,bL2])
  simp only [Int.reduceLE,reduceIte,Int.reduceNeg] at b1
 all_goals
  have b4:=hin 4 (-9223372036854775808) 9223372036854775807 (by simp [lOrders,bW,gW,fM,lW,ap3,pb3,pb4,ints,mayV,i64s,i64b,kW,two,b2,lmap,lapp,bF,cap64,fnO,ap60,ap61,oNo,oOrd,kU,bL2])
  simp only [Int.reduceLE,reduceIte,Int.reduceNeg] at b4
 all_goals
  have b5:=hin 5 (-9223372036854775808) 9223372036854775807 (by simp [lOrders,bW,gW,fM,lW,ap3,pb3,pb4,ints,mayV,i64s,i64b,kW,two,b2,lmap,lapp,bF,cap64,fnO,ap60,ap61,oNo,oOrd,kU,bL2])
  simp only [Int.reduceLE,reduceIte,Int.reduceNeg] at b5
 all_goals
  simp only [FT,TP,SB.tp,SI.tv,sta,IB.eval,and_true,true_and,ObsT,Ob.Tv,rowT,kix,In.tiv,↓tbvT,In.tbv,get_cons,get_nil,reduceIte,Nat.reduceEqDiff,Int.reduceToNat,Int.reduceAdd,Int.reduceSub,Int.reduceLE,Int.reduceLT,Int.reduceEq,ne_eq,Bool.false_eq_true,not_true_eq_false,not_false_eq_true,true_iff,false_iff,iff_true,iff_false,false_implies,implies_true,decT,decide_true,decide_false,Bool.decide_eq_true,ap2,pb2,FI_3,FI_8,FI_9,FI_13,FB_13,FI_30,FB_30,FI_3g,FI_8m,Int.toNat_natCast,Int.toNat_zero,FI_60,FI_61,lOrders_inv,lOrders_mu,lOrders,o1,othT,bW,gW,fM,lW,ap3,pb3,pb4,ints,mayV,i64s,i64b,kW,two,b2,lmap,lapp,bF,cap64,fnO,ap60,ap61,oNo,oOrd,kU,bL2,a0,a1,a2,a3,a4,a5] at hf hi ⊢
 all_goals
  (repeat' (with_reducible apply And.intro))<;>first
  | omega
  | assumption
  | (unfold inM;omega)
  | (clear hin hF ha;grind)
set_option maxHeartbeats 0 in
theorem lOrders_o7 (kv:Kv) (iv0:Nat→Int) (bv0:Nat→Bool) (hin:InB lOrders.B iv0) (hF:FT (sta FI FB kv iv0 bv0) (dlt dyn0) lOrders.F) (iv:Nat→Int) (bv:Nat→Bool) (ha:Agr 6 iv0 bv0 iv bv) (hi:lOrders_inv iv0 bv0 7 iv bv) :
  ∀ lf∈lOrders_L7,LfT (sta FI FB kv) lOrders.os (lOrders_inv iv0 bv0) (lOrders_mu iv0 bv0) 7 iv bv lf:=by
 unfold lOrders_L7
 refine List.forall_mem_cons.2 ⟨?_,List.forall_mem_cons.2 ⟨?_,List.forall_mem_cons.2 ⟨?_,List.forall_mem_cons.2 ⟨?_,List.forall_mem_cons.2 ⟨?_,List.forall_mem_cons.2 ⟨?_,List.forall_mem_cons.2 ⟨?_,List.forall_mem_cons.2 ⟨?_,List.forall_mem_cons.2 ⟨?_,List.forall_mem_cons.2 ⟨?_,List.forall_mem_cons.2 ⟨?_,List.forall_mem_nil _⟩⟩⟩⟩⟩⟩⟩⟩⟩⟩⟩
 all_goals
  intro δ hf
 all_goals
  simp only [FT,TP,SB.tp,SI.tv,sta,IB.eval,and_true,true_and,ObsT,Ob.Tv,rowT,kix,In.tiv,↓tbvT,In.tbv,get_cons,get_nil,reduceIte,Nat.reduceEqDiff,Int.reduceToNat,Int.reduceAdd,Int.reduceSub,Int.reduceLE,Int.reduceLT,Int.reduceEq,ne_eq,Bool.false_eq_true,not_true_eq_false,not_false_eq_true,true_iff,false_iff,iff_true,iff_false,false_implies,implies_true,decT,decide_true,decide_false,Bool.decide_eq_true,ap2,pb2,FI_3,FI_8,FI_9,FI_13,FB_13,FI_30,FB_30,FI_3g,FI_8m,Int.toNat_natCast,Int.toNat_zero,FI_60,FI_61] at hf
 all_goals
  have a0:=ha.1 0 (by omega)
  have a1:=ha.1 1 (by omega)
  have a2:=ha.1 2 (by omega)
  have a3:=ha.1 3 (by omega)
  have a4:=ha.1 4 (by omega)
  have a5:=ha.1 5 (by omega)
 all_goals
  have b1:=hin 1 0 9223372036854775807 (by simp [lOrders,bW,gW,fM,lW,ap3,pb3,pb4,ints,mayV,i64s,i64b,kW,two,b2,lmap,lapp,bF,cap64,fnO,ap60,ap61,oNo,oOrd,kU,bL2])
  simp only [Int.reduceLE,reduceIte,Int.reduceNeg] at b1
 all_goals
  have b4:=hin 4 (-9223372036854775808) 9223372036854775807 (by simp [lOrders,bW,gW,fM,lW,ap3,pb3,pb4,ints,mayV,i64s,i64b,kW,two,b2,lmap,lapp,bF,cap64,fnO,ap60,ap61,oNo,oOrd,kU,bL2])
  simp only [Int.reduceLE,reduceIte,Int.reduceNeg] at b4
 all_goals
  have b5:=hin 5 (-9223372036854775808) 9223372036854775807 (by simp [lOrders,bW,gW,fM,lW,ap3,pb3,pb4,ints,mayV,i64s,i64b,kW,two,b2,lmap,lapp,bF,cap64,fnO,ap60,ap61,oNo,oOrd,kU,bL2])
  simp only [Int.reduceLE,reduceIte,Int.reduceNeg] at b5
 all_goals
  simp only [FT,TP,SB.tp,SI.tv,sta,IB.eval,and_true,true_and,ObsT,Ob.Tv,rowT,kix,In.tiv,↓tbvT,In.tbv,get_cons,get_nil,reduceIte,Nat.reduceEqDiff,Int.reduceToNat,Int.reduceAdd,Int.reduceSub,Int.reduceLE,Int.reduceLT,Int.reduceEq,ne_eq,Bool.false_eq_true,not_true_eq_false,not_false_eq_true,true_iff,false_iff,iff_true,iff_false,false_implies,implies_true,decT,decide_true,decide_false,Bool.decide_eq_true,ap2,pb2,FI_3,FI_8,FI_9,FI_13,FB_13,FI_30,FB_30,FI_3g,FI_8m,Int.toNat_natCast,Int.toNat_zero,FI_60,FI_61,lOrders_inv,lOrders_mu,lOrders,o1,othT,bW,gW,fM,lW,ap3,pb3,pb4,ints,mayV,i64s,i64b,kW,two,b2,lmap,lapp,bF,cap64,fnO,ap60,ap61,oNo,oOrd,kU,bL2,a0,a1,a2,a3,a4,a5] at hf hi ⊢
 all_goals
  obtain ⟨g0,g1⟩:=hi
 all_goals
  have k1:=fun hh=>@fl_ordW (iv0 0) (iv0 1) (iv0 4) (iv 49).toNat hh
 all_goals
  have k2:=fun hn hh=>@srt_at (iv0 0) (iv0 1) (iv0 4) hn (iv 49).toNat hh
 all_goals
  have k3:0≤iv 49→iv 49 < iv0 1→iv0 1≤1000→fl (ordW (iv0 0) (iv0 1) (iv0 4)) (iv 49).toNat 0=fl (srtW (iv0 0) (iv0 1) (iv0 4)) (iv 49).toNat 5∧0≤fl (srtW (iv0 0) (iv0 1) (iv0 4)) (iv 49).toNat 5∧fl (srtW (iv0 0) (iv0 1) (iv0 4)) (iv 49).toNat 5 < iv0 1∧fl (srtW (iv0 0) (iv0 1) (iv0 4)) (iv 49).toNat 0=fl (iv0 0) (fl (srtW (iv0 0) (iv0 1) (iv0 4)) (iv 49).toNat 5).toNat 0∧fl (srtW (iv0 0) (iv0 1) (iv0 4)) (iv 49).toNat 1=fl (iv0 0) (fl (srtW (iv0 0) (iv0 1) (iv0 4)) (iv 49).toNat 5).toNat 1∧fl (srtW (iv0 0) (iv0 1) (iv0 4)) (iv 49).toNat 2=fl (iv0 0) (fl (srtW (iv0 0) (iv0 1) (iv0 4)) (iv 49).toNat 5).toNat 2∧fl (srtW (iv0 0) (iv0 1) (iv0 4)) (iv 49).toNat 3=fl (iv0 0) (fl (srtW (iv0 0) (iv0 1) (iv0 4)) (iv 49).toNat 5).toNat 3∧fl (srtW (iv0 0) (iv0 1) (iv0 4)) (iv 49).toNat 4=fl (iv0 0) (fl (srtW (iv0 0) (iv0 1) (iv0 4)) (iv 49).toNat 5).toNat 4:=fun h1 h2 h3=>by
   have z1:=k1 (by omega)
   obtain ⟨z2,z3,z4⟩:=k2 h3 (by omega)
   exact ⟨z1,z2,z3,z4 0 (by omega),z4 1 (by omega),z4 2 (by omega),z4 3 (by omega),z4 4 (by omega)⟩
 all_goals
  clear k1 k2
 all_goals
  (repeat' (with_reducible apply And.intro))<;>first
  | omega
  | assumption
  | (unfold inM;omega)
  | (clear hin hF ha;grind)
set_option maxHeartbeats 0 in
theorem lOrders_o8 (kv:Kv) (iv0:Nat→Int) (bv0:Nat→Bool) (hin:InB lOrders.B iv0) (hF:FT (sta FI FB kv iv0 bv0) (dlt dyn0) lOrders.F) (iv:Nat→Int) (bv:Nat→Bool) (ha:Agr 6 iv0 bv0 iv bv) (hi:lOrders_inv iv0 bv0 8 iv bv) :
  ∀ lf∈lOrders_L8,LfT (sta FI FB kv) lOrders.os (lOrders_inv iv0 bv0) (lOrders_mu iv0 bv0) 8 iv bv lf:=by
 unfold lOrders_L8
 refine List.forall_mem_cons.2 ⟨?_,List.forall_mem_nil _⟩
 all_goals
  intro δ hf
 all_goals
  simp only [FT,TP,SB.tp,SI.tv,sta,IB.eval,and_true,true_and,ObsT,Ob.Tv,rowT,kix,In.tiv,↓tbvT,In.tbv,get_cons,get_nil,reduceIte,Nat.reduceEqDiff,Int.reduceToNat,Int.reduceAdd,Int.reduceSub,Int.reduceLE,Int.reduceLT,Int.reduceEq,ne_eq,Bool.false_eq_true,not_true_eq_false,not_false_eq_true,true_iff,false_iff,iff_true,iff_false,false_implies,implies_true,decT,decide_true,decide_false,Bool.decide_eq_true,ap2,pb2,FI_3,FI_8,FI_9,FI_13,FB_13,FI_30,FB_30,FI_3g,FI_8m,Int.toNat_natCast,Int.toNat_zero,FI_60,FI_61] at hf
 all_goals
  have a0:=ha.1 0 (by omega)
  have a1:=ha.1 1 (by omega)
  have a2:=ha.1 2 (by omega)
  have a3:=ha.1 3 (by omega)
  have a4:=ha.1 4 (by omega)
  have a5:=ha.1 5 (by omega)
 all_goals
  have b1:=hin 1 0 9223372036854775807 (by simp [lOrders,bW,gW,fM,lW,ap3,pb3,pb4,ints,mayV,i64s,i64b,kW,two,b2,lmap,lapp,bF,cap64,fnO,ap60,ap61,oNo,oOrd,kU,bL2])
  simp only [Int.reduceLE,reduceIte,Int.reduceNeg] at b1
 all_goals
  have b4:=hin 4 (-9223372036854775808) 9223372036854775807 (by simp [lOrders,bW,gW,fM,lW,ap3,pb3,pb4,ints,mayV,i64s,i64b,kW,two,b2,lmap,lapp,bF,cap64,fnO,ap60,ap61,oNo,oOrd,kU,bL2])
  simp only [Int.reduceLE,reduceIte,Int.reduceNeg] at b4
 all_goals
  have b5:=hin 5 (-9223372036854775808) 9223372036854775807 (by simp [lOrders,bW,gW,fM,lW,ap3,pb3,pb4,ints,mayV,i64s,i64b,kW,two,b2,lmap,lapp,bF,cap64,fnO,ap60,ap61,oNo,oOrd,kU,bL2])
  simp only [Int.reduceLE,reduceIte,Int.reduceNeg] at b5
 all_goals
  simp only [FT,TP,SB.tp,SI.tv,sta,IB.eval,and_true,true_and,ObsT,Ob.Tv,rowT,kix,In.tiv,↓tbvT,In.tbv,get_cons,get_nil,reduceIte,Nat.reduceEqDiff,Int.reduceToNat,Int.reduceAdd,Int.reduceSub,Int.reduceLE,Int.reduceLT,Int.reduceEq,ne_eq,Bool.false_eq_true,not_true_eq_false,not_false_eq_true,true_iff,false_iff,iff_true,iff_false,false_implies,implies_true,decT,decide_true,decide_false,Bool.decide_eq_true,ap2,pb2,FI_3,FI_8,FI_9,FI_13,FB_13,FI_30,FB_30,FI_3g,FI_8m,Int.toNat_natCast,Int.toNat_zero,FI_60,FI_61,lOrders_inv,lOrders_mu,lOrders,o1,othT,bW,gW,fM,lW,ap3,pb3,pb4,ints,mayV,i64s,i64b,kW,two,b2,lmap,lapp,bF,cap64,fnO,ap60,ap61,oNo,oOrd,kU,bL2,a0,a1,a2,a3,a4,a5] at hf hi ⊢
 all_goals
  (repeat' (with_reducible apply And.intro))<;>first
  | omega
  | assumption
  | (unfold inM;omega)
  | (clear hin hF ha;grind)
set_option maxHeartbeats 0 in
theorem lOrders_o9 (kv:Kv) (iv0:Nat→Int) (bv0:Nat→Bool) (hin:InB lOrders.B iv0) (hF:FT (sta FI FB kv iv0 bv0) (dlt dyn0) lOrders.F) (iv:Nat→Int) (bv:Nat→Bool) (ha:Agr 6 iv0 bv0 iv bv) (hi:lOrders_inv iv0 bv0 9 iv bv) :
  ∀ lf∈lOrders_L9,LfT (sta FI FB kv) lOrders.os (lOrders_inv iv0 bv0) (lOrders_mu iv0 bv0) 9 iv bv lf:=by
 unfold lOrders_L9
 refine List.forall_mem_cons.2 ⟨?_,List.forall_mem_nil _⟩
 all_goals
  intro δ hf
 all_goals
  simp only [FT,TP,SB.tp,SI.tv,sta,IB.eval,and_true,true_and,ObsT,Ob.Tv,rowT,kix,In.tiv,↓tbvT,In.tbv,get_cons,get_nil,reduceIte,Nat.reduceEqDiff,Int.reduceToNat,Int.reduceAdd,Int.reduceSub,Int.reduceLE,Int.reduceLT,Int.reduceEq,ne_eq,Bool.false_eq_true,not_true_eq_false,not_false_eq_true,true_iff,false_iff,iff_true,iff_false,false_implies,implies_true,decT,decide_true,decide_false,Bool.decide_eq_true,ap2,pb2,FI_3,FI_8,FI_9,FI_13,FB_13,FI_30,FB_30,FI_3g,FI_8m,Int.toNat_natCast,Int.toNat_zero,FI_60,FI_61] at hf
 all_goals
  have a0:=ha.1 0 (by omega)
  have a1:=ha.1 1 (by omega)
  have a2:=ha.1 2 (by omega)
  have a3:=ha.1 3 (by omega)
  have a4:=ha.1 4 (by omega)
  have a5:=ha.1 5 (by omega)
 all_goals
  have b1:=hin 1 0 9223372036854775807 (by simp [lOrders,bW,gW,fM,lW,ap3,pb3,pb4,ints,mayV,i64s,i64b,kW,two,b2,lmap,lapp,bF,cap64,fnO,ap60,ap61,oNo,oOrd,kU,bL2])
  simp only [Int.reduceLE,reduceIte,Int.reduceNeg] at b1
 all_goals
  have b4:=hin 4 (-9223372036854775808) 9223372036854775807 (by simp [lOrders,bW,gW,fM,lW,ap3,pb3,pb4,ints,mayV,i64s,i64b,kW,two,b2,lmap,lapp,bF,cap64,fnO,ap60,ap61,oNo,oOrd,kU,bL2])
  simp only [Int.reduceLE,reduceIte,Int.reduceNeg] at b4
 all_goals
  have b5:=hin 5 (-9223372036854775808) 9223372036854775807 (by simp [lOrders,bW,gW,fM,lW,ap3,pb3,pb4,ints,mayV,i64s,i64b,kW,two,b2,lmap,lapp,bF,cap64,fnO,ap60,ap61,oNo,oOrd,kU,bL2])
  simp only [Int.reduceLE,reduceIte,Int.reduceNeg] at b5
 all_goals
  simp only [FT,TP,SB.tp,SI.tv,sta,IB.eval,and_true,true_and,ObsT,Ob.Tv,rowT,kix,In.tiv,↓tbvT,In.tbv,get_cons,get_nil,reduceIte,Nat.reduceEqDiff,Int.reduceToNat,Int.reduceAdd,Int.reduceSub,Int.reduceLE,Int.reduceLT,Int.reduceEq,ne_eq,Bool.false_eq_true,not_true_eq_false,not_false_eq_true,true_iff,false_iff,iff_true,iff_false,false_implies,implies_true,decT,decide_true,decide_false,Bool.decide_eq_true,ap2,pb2,FI_3,FI_8,FI_9,FI_13,FB_13,FI_30,FB_30,FI_3g,FI_8m,Int.toNat_natCast,Int.toNat_zero,FI_60,FI_61,lOrders_inv,lOrders_mu,lOrders,o1,othT,bW,gW,fM,lW,ap3,pb3,pb4,ints,mayV,i64s,i64b,kW,two,b2,lmap,lapp,bF,cap64,fnO,ap60,ap61,oNo,oOrd,kU,bL2,a0,a1,a2,a3,a4,a5] at hf hi ⊢
 all_goals
  (repeat' (with_reducible apply And.intro))<;>first
  | omega
  | assumption
  | (unfold inM;omega)
  | (clear hin hF ha;grind)
set_option maxHeartbeats 0 in
theorem lOrders_o10 (kv:Kv) (iv0:Nat→Int) (bv0:Nat→Bool) (hin:InB lOrders.B iv0) (hF:FT (sta FI FB kv iv0 bv0) (dlt dyn0) lOrders.F) (iv:Nat→Int) (bv:Nat→Bool) (ha:Agr 6 iv0 bv0 iv bv) (hi:lOrders_inv iv0 bv0 10 iv bv) :
  ∀ lf∈lOrders_L10,LfT (sta FI FB kv) lOrders.os (lOrders_inv iv0 bv0) (lOrders_mu iv0 bv0) 10 iv bv lf:=by
 unfold lOrders_L10
 refine List.forall_mem_cons.2 ⟨?_,List.forall_mem_nil _⟩
 all_goals
  intro δ hf
 all_goals
  simp only [FT,TP,SB.tp,SI.tv,sta,IB.eval,and_true,true_and,ObsT,Ob.Tv,rowT,kix,In.tiv,↓tbvT,In.tbv,get_cons,get_nil,reduceIte,Nat.reduceEqDiff,Int.reduceToNat,Int.reduceAdd,Int.reduceSub,Int.reduceLE,Int.reduceLT,Int.reduceEq,ne_eq,Bool.false_eq_true,not_true_eq_false,not_false_eq_true,true_iff,false_iff,iff_true,iff_false,false_implies,implies_true,decT,decide_true,decide_false,Bool.decide_eq_true,ap2,pb2,FI_3,FI_8,FI_9,FI_13,FB_13,FI_30,FB_30,FI_3g,FI_8m,Int.toNat_natCast,Int.toNat_zero,FI_60,FI_61] at hf
 all_goals
  have a0:=ha.1 0 (by omega)
  have a1:=ha.1 1 (by omega)
  have a2:=ha.1 2 (by omega)
  have a3:=ha.1 3 (by omega)
  have a4:=ha.1 4 (by omega)
  have a5:=ha.1 5 (by omega)
 all_goals
  have b1:=hin 1 0 9223372036854775807 (by simp [lOrders,bW,gW,fM,lW,ap3,pb3,pb4,ints,mayV,i64s,i64b,kW,two,b2,lmap,lapp,bF,cap64,fnO,ap60,ap61,oNo,oOrd,kU,bL2])
  simp only [Int.reduceLE,reduceIte,Int.reduceNeg] at b1
 all_goals
  have b4:=hin 4 (-9223372036854775808) 9223372036854775807 (by simp [lOrders,bW,gW,fM,lW,ap3,pb3,pb4,ints,mayV,i64s,i64b,kW,two,b2,lmap,lapp,bF,cap64,fnO,ap60,ap61,oNo,oOrd,kU,bL2])
  simp only [Int.reduceLE,reduceIte,Int.reduceNeg] at b4
 all_goals
  have b5:=hin 5 (-9223372036854775808) 9223372036854775807 (by simp [lOrders,bW,gW,fM,lW,ap3,pb3,pb4,ints,mayV,i64s,i64b,kW,two,b2,lmap,lapp,bF,cap64,fnO,ap60,ap61,oNo,oOrd,kU,bL2])
  simp only [Int.reduceLE,reduceIte,Int.reduceNeg] at b5
 all_goals
  simp only [FT,TP,SB.tp,SI.tv,sta,IB.eval,and_true,true_and,ObsT,Ob.Tv,rowT,kix,In.tiv,↓tbvT,In.tbv,get_cons,get_nil,reduceIte,Nat.reduceEqDiff,Int.reduceToNat,Int.reduceAdd,Int.reduceSub,Int.reduceLE,Int.reduceLT,Int.reduceEq,ne_eq,Bool.false_eq_true,not_true_eq_false,not_false_eq_true,true_iff,false_iff,iff_true,iff_false,false_implies,implies_true,decT,decide_true,decide_false,Bool.decide_eq_true,ap2,pb2,FI_3,FI_8,FI_9,FI_13,FB_13,FI_30,FB_30,FI_3g,FI_8m,Int.toNat_natCast,Int.toNat_zero,FI_60,FI_61,lOrders_inv,lOrders_mu,lOrders,o1,othT,bW,gW,fM,lW,ap3,pb3,pb4,ints,mayV,i64s,i64b,kW,two,b2,lmap,lapp,bF,cap64,fnO,ap60,ap61,oNo,oOrd,kU,bL2,a0,a1,a2,a3,a4,a5] at hf hi ⊢
 all_goals
  (repeat' (with_reducible apply And.intro))<;>first
  | omega
  | assumption
  | (unfold inM;omega)
  | (clear hin hF ha;grind)
set_option maxRecDepth 100000 in
theorem lOrders_c:LsC ((tm0 lOrders Try.f13 (Try.f13.body.getD .skip))::[lOrders_T1,lOrders_T2,lOrders_T3,lOrders_T4,lOrders_T5,lOrders_T6,lOrders_T7,lOrders_T8,lOrders_T9,lOrders_T10]) lOrders.os [lOrders_L0,lOrders_L1,lOrders_L2,lOrders_L3,lOrders_L4,lOrders_L5,lOrders_L6,lOrders_L7,lOrders_L8,lOrders_L9,lOrders_L10]:=by
 unfold lOrders_L0 lOrders_L1 lOrders_L2 lOrders_L3 lOrders_L4 lOrders_L5 lOrders_L6 lOrders_L7 lOrders_L8 lOrders_L9 lOrders_L10
 exact ⟨List.forall_mem_cons.2 ⟨⟨⟨_,rfl,rfl⟩,by kernel_rfl⟩,List.forall_mem_cons.2 ⟨⟨⟨_,rfl,rfl⟩,by kernel_rfl⟩,List.forall_mem_cons.2 ⟨⟨⟨_,rfl,rfl⟩,by kernel_rfl⟩,List.forall_mem_cons.2 ⟨⟨⟨_,rfl,rfl⟩,by kernel_rfl⟩,List.forall_mem_cons.2 ⟨⟨⟨_,rfl,rfl⟩,by kernel_rfl⟩,List.forall_mem_cons.2 ⟨⟨⟨_,rfl,rfl⟩,by kernel_rfl⟩,List.forall_mem_nil _⟩⟩⟩⟩⟩⟩,List.forall_mem_cons.2 ⟨⟨⟨_,rfl,rfl⟩,by kernel_rfl⟩,List.forall_mem_nil _⟩,List.forall_mem_cons.2 ⟨⟨⟨_,rfl,rfl⟩,by kernel_rfl⟩,List.forall_mem_nil _⟩,List.forall_mem_cons.2 ⟨⟨⟨_,rfl,rfl⟩,by kernel_rfl⟩,List.forall_mem_cons.2 ⟨⟨⟨_,rfl,rfl⟩,by kernel_rfl⟩,List.forall_mem_cons.2 ⟨⟨⟨_,rfl,rfl⟩,by kernel_rfl⟩,List.forall_mem_cons.2 ⟨⟨⟨_,rfl,rfl⟩,by kernel_rfl⟩,List.forall_mem_cons.2 ⟨⟨⟨_,rfl,rfl⟩,by kernel_rfl⟩,List.forall_mem_cons.2 ⟨⟨⟨_,rfl,rfl⟩,by kernel_rfl⟩,List.forall_mem_cons.2 ⟨⟨⟨_,rfl,rfl⟩,by kernel_rfl⟩,List.forall_mem_cons.2 ⟨⟨⟨_,rfl,rfl⟩,by kernel_rfl⟩,List.forall_mem_cons.2 ⟨trivial,List.forall_mem_cons.2 ⟨trivial,List.forall_mem_cons.2 ⟨⟨⟨_,rfl,rfl⟩,by kernel_rfl⟩,List.forall_mem_cons.2 ⟨⟨⟨_,rfl,rfl⟩,by kernel_rfl⟩,List.forall_mem_cons.2 ⟨⟨⟨_,rfl,rfl⟩,by kernel_rfl⟩,List.forall_mem_nil _⟩⟩⟩⟩⟩⟩⟩⟩⟩⟩⟩⟩⟩,List.forall_mem_cons.2 ⟨⟨⟨_,rfl,rfl⟩,by kernel_rfl⟩,List.forall_mem_nil _⟩,List.forall_mem_cons.2 ⟨⟨⟨_,rfl,rfl⟩,by kernel_rfl⟩,List.forall_mem_nil _⟩,List.forall_mem_cons.2 ⟨⟨⟨_,rfl,rfl⟩,by kernel_rfl⟩,List.forall_mem_nil _⟩,List.forall_mem_cons.2 ⟨⟨⟨_,rfl,rfl⟩,by kernel_rfl⟩,List.forall_mem_cons.2 ⟨⟨⟨_,rfl,rfl⟩,by kernel_rfl⟩,List.forall_mem_cons.2 ⟨⟨⟨_,rfl,rfl⟩,by kernel_rfl⟩,List.forall_mem_cons.2 ⟨⟨⟨_,rfl,rfl⟩,by kernel_rfl⟩,List.forall_mem_cons.2 ⟨⟨⟨_,rfl,rfl⟩,by kernel_rfl⟩,List.forall_mem_cons.2 ⟨⟨⟨_,rfl,rfl⟩,by kernel_rfl⟩,List.forall_mem_cons.2 ⟨trivial,List.forall_mem_cons.2 ⟨trivial,List.forall_mem_cons.2 ⟨⟨⟨_,rfl,rfl⟩,by kernel_rfl⟩,List.forall_mem_cons.2 ⟨⟨⟨_,rfl,rfl⟩,by kernel_rfl⟩,List.forall_mem_cons.2 ⟨⟨⟨_,rfl,rfl⟩,by kernel_rfl⟩,List.forall_mem_nil _⟩⟩⟩⟩⟩⟩⟩⟩⟩⟩⟩,List.forall_mem_cons.2 ⟨⟨⟨_,rfl,rfl⟩,by kernel_rfl⟩,List.forall_mem_nil _⟩,List.forall_mem_cons.2 ⟨⟨⟨_,rfl,rfl⟩,by kernel_rfl⟩,List.forall_mem_nil _⟩,List.forall_mem_cons.2 ⟨⟨⟨_,rfl,rfl⟩,by kernel_rfl⟩,List.forall_mem_nil _⟩,trivial⟩
theorem lOrders_ok:lOrders.Ok Try.prog FI FB:=
 Con.of_plain (body:=Try.f13.body.getD .skip) pok fiok (EntsFor.cons qRight_ok (EntsFor.cons wOrd_ok (EntsFor.cons qOrd_ok (EntsFor.cons cWorksW_ok EntsFor.nil)))) lOrders Try.func13 (by kernel_rfl) 6 [lOrders_T1,lOrders_T2,lOrders_T3,lOrders_T4,lOrders_T5,lOrders_T6,lOrders_T7,lOrders_T8,lOrders_T9,lOrders_T10] (by kernel_rfl) [lOrders_L0,lOrders_L1,lOrders_L2,lOrders_L3,lOrders_L4,lOrders_L5,lOrders_L6,lOrders_L7,lOrders_L8,lOrders_L9,lOrders_L10] ⟨lOrders_h0,lOrders_h1,lOrders_h2,lOrders_h3,lOrders_h4,lOrders_h5,lOrders_h6,lOrders_h7,lOrders_h8,lOrders_h9,lOrders_h10,trivial⟩ lOrders_c
  lOrders_inv lOrders_mu (fun _ _ _=>trivial) fun kv iv0 bv0 hin hF k l iv bv hk ha hi=>match k,hk,hi with
  | 0,hk,hi=>by
    cases hk
    exact lOrders_o0 kv iv0 bv0 hin hF iv bv ha hi
  | 1,hk,hi=>by
    cases hk
    exact lOrders_o1 kv iv0 bv0 hin hF iv bv ha hi
  | 2,hk,hi=>by
    cases hk
    exact lOrders_o2 kv iv0 bv0 hin hF iv bv ha hi
  | 3,hk,hi=>by
    cases hk
    exact lOrders_o3 kv iv0 bv0 hin hF iv bv ha hi
  | 4,hk,hi=>by
    cases hk
    exact lOrders_o4 kv iv0 bv0 hin hF iv bv ha hi
  | 5,hk,hi=>by
    cases hk
    exact lOrders_o5 kv iv0 bv0 hin hF iv bv ha hi
  | 6,hk,hi=>by
    cases hk
    exact lOrders_o6 kv iv0 bv0 hin hF iv bv ha hi
  | 7,hk,hi=>by
    cases hk
    exact lOrders_o7 kv iv0 bv0 hin hF iv bv ha hi
  | 8,hk,hi=>by
    cases hk
    exact lOrders_o8 kv iv0 bv0 hin hF iv bv ha hi
  | 9,hk,hi=>by
    cases hk
    exact lOrders_o9 kv iv0 bv0 hin hF iv bv ha hi
  | 10,hk,hi=>by
    cases hk
    exact lOrders_o10 kv iv0 bv0 hin hF iv bv ha hi
  | k+11,hk,_=>by simp at hk
noncomputable def lOrders0_L0:List Lf:=
 [(.fin ([((.le (.v 4) (.c 64)),.true),((.le (.c 0) (.v 4)),.true)]) 0 ⟨⟨[],[]⟩,[],[],[]⟩ [] []),
  (.fin ([((.le (.v 4) (.c 64)),.false),((.le (.c 0) (.v 4)),.true)]) 0 ⟨⟨[],[]⟩,[],[],[]⟩ [] []),
  (.fin ([((.le (.c 0) (.v 4)),.false)]) 0 ⟨⟨[],[]⟩,[],[],[]⟩ [] [])]
set_option maxRecDepth 100000 in
theorem lOrders0_h0:(ex (ccOf Try.prog BF [58,84] lOrders0) ((fun cc=>[uSrt0.ent cc,cWorksW.ent cc]) (ccOf Try.prog BF [58,84] lOrders0)) (dw (ccOf Try.prog BF [58,84] lOrders0) ((fun cc=>[uSrt0.ent cc,cWorksW.ent cc]) (ccOf Try.prog BF [58,84] lOrders0)) 1000 4) (stopX [0,1,2,3,4,5,6,7,8,9,10,11,12,13,14,15,16,17,18,19,20,21,22,23,24,25,26,27,28,29,30,31,32,33,34,35,36,37,38,39,40,41,42,43,44,45,46,47,48,49,50,51,52,53,54,55,56,57,58,59,60,61,62,63,64,65,66,67,68,69,70,71,72,73,74,75,76,77,78,79,80,81,82,83,84,85,86,87,88,89,90,91,92,93,94,95,96,97,98,99,100,101,102,103,104,105,106,107,108,109,110,111,112,113,114,115,116,117,118,119,120,121,122,123,124,125,126,127,128,129,130,131,132,133,134,135,136,137,138,139,140,141,142,143,144,145,146,147,148,149,150,151,152,153,154,155,156,157,158,159,160,161,162,163,164,165,166,167,168,169,170,171,172,173,174,175,176,177,178,179,180,181,182,183,184,185,186,187,188,189,190,191,192,193,194,195,196,197,198,199,200,201,202,203,204,205,206,207,208,209,210,211,212,213,214,215,216,217,218,219,220,221,222,223,224,225,226,227,228,229,230,231,232,233,234,235,236,237,238,239,240,241,242,243,244,245,246,247,248,249]) 4000 (tm0 lOrders0 Try.f13 (Try.f13.body.getD .skip)).f (tm0 lOrders0 Try.f13 (Try.f13.body.getD .skip)).fs (tm0 lOrders0 Try.f13 (Try.f13.body.getD .skip)).H).lfs (ccOf Try.prog BF [58,84] lOrders0) ((tm0 lOrders0 Try.f13 (Try.f13.body.getD .skip))::[]) lOrders0.os=some lOrders0_L0:=by kernel_rfl
def lOrders0_inv:(Nat→Int)→(Nat→Bool)→Nat→(Nat→Int)→(Nat→Bool)→Prop:=fun _ _ _ _ _=>True
def lOrders0_mu:(Nat→Int)→(Nat→Bool)→Nat→(Nat→Int)→(Nat→Bool)→Nat:=fun _ _ _ _ _=>0
set_option maxHeartbeats 0 in
theorem lOrders0_o0 (kv:Kv) (iv0:Nat→Int) (bv0:Nat→Bool) (hin:InB lOrders0.B iv0) (hF:FT (sta FI FB kv iv0 bv0) (dlt dyn0) lOrders0.F) (iv:Nat→Int) (bv:Nat→Bool) (ha:Agr 6 iv0 bv0 iv bv) (hi:lOrders0_inv iv0 bv0 0 iv bv) :
  ∀ lf∈lOrders0_L0,LfT (sta FI FB kv) lOrders0.os (lOrders0_inv iv0 bv0) (lOrders0_mu iv0 bv0) 0 iv bv lf:=by
 unfold lOrders0_L0
 refine List.forall_mem_cons.2 ⟨?_,List.forall_mem_cons.2 ⟨?_,List.forall_mem_cons.2 ⟨?_,List.forall_mem_nil _⟩⟩⟩
 all_goals
  intro δ hf
 all_goals
  simp only [FT,TP,SB.tp,SI.tv,sta,IB.eval,and_true,true_and,ObsT,Ob.Tv,rowT,kix,In.tiv,↓tbvT,In.tbv,get_cons,get_nil,reduceIte,Nat.reduceEqDiff,Int.reduceToNat,Int.reduceAdd,Int.reduceSub,Int.reduceLE,Int.reduceLT,Int.reduceEq,ne_eq,Bool.false_eq_true,not_true_eq_false,not_false_eq_true,true_iff,false_iff,iff_true,iff_false,false_implies,implies_true,decT,decide_true,decide_false,Bool.decide_eq_true,ap2,pb2,FI_3,FI_8,FI_9,FI_13,FB_13,FI_3g,FI_8m,Int.toNat_natCast,Int.toNat_zero] at hf
 all_goals
  have a4:=ha.1 4 (by omega)
  have a5:=ha.1 5 (by omega)
 all_goals
  have b4:=hin 4 (-9223372036854775808) 9223372036854775807 (by simp [lOrders0,bW,gW,fM,lW,ap3,pb3,pb4,ints,mayV,i64s,i64b,kW,two,b2,lmap,lapp,bF,cap64,fnO,ap60,ap61,oNo,oOrd,kU,bL2])
  simp only [Int.reduceLE,reduceIte,Int.reduceNeg] at b4
 all_goals
  have b5:=hin 5 (-9223372036854775808) 9223372036854775807 (by simp [lOrders0,bW,gW,fM,lW,ap3,pb3,pb4,ints,mayV,i64s,i64b,kW,two,b2,lmap,lapp,bF,cap64,fnO,ap60,ap61,oNo,oOrd,kU,bL2])
  simp only [Int.reduceLE,reduceIte,Int.reduceNeg] at b5
 all_goals
  simp only [FT,TP,SB.tp,SI.tv,sta,IB.eval,and_true,true_and,ObsT,Ob.Tv,rowT,kix,In.tiv,↓tbvT,In.tbv,get_cons,get_nil,reduceIte,Nat.reduceEqDiff,Int.reduceToNat,Int.reduceAdd,Int.reduceSub,Int.reduceLE,Int.reduceLT,Int.reduceEq,ne_eq,Bool.false_eq_true,not_true_eq_false,not_false_eq_true,true_iff,false_iff,iff_true,iff_false,false_implies,implies_true,decT,decide_true,decide_false,Bool.decide_eq_true,ap2,pb2,FI_3,FI_8,FI_9,FI_13,FB_13,FI_3g,FI_8m,Int.toNat_natCast,Int.toNat_zero,lOrders0_inv,lOrders0_mu,lOrders0,o1,othT,bW,gW,fM,lW,ap3,pb3,pb4,ints,mayV,i64s,i64b,kW,two,b2,lmap,lapp,bF,cap64,fnO,ap60,ap61,oNo,oOrd,kU,bL2,a4,a5] at hf hi ⊢
 all_goals
  (repeat' (with_reducible apply And.intro))<;>first
  | omega
  | assumption
  | (unfold inM;omega)
  | exact trivial
set_option maxRecDepth 100000 in
theorem lOrders0_c:LsC ((tm0 lOrders0 Try.f13 (Try.f13.body.getD .skip))::[]) lOrders0.os [lOrders0_L0]:=by
 unfold lOrders0_L0
 exact ⟨List.forall_mem_cons.2 ⟨⟨⟨_,rfl,rfl⟩,by kernel_rfl⟩,List.forall_mem_cons.2 ⟨⟨⟨_,rfl,rfl⟩,by kernel_rfl⟩,List.forall_mem_cons.2 ⟨⟨⟨_,rfl,rfl⟩,by kernel_rfl⟩,List.forall_mem_nil _⟩⟩⟩,trivial⟩
theorem lOrders0_ok:lOrders0.Ok Try.prog FI FB:=
 Con.of_plain (body:=Try.f13.body.getD .skip) pok fiok (EntsFor.cons uSrt0_ok (EntsFor.cons cWorksW_ok EntsFor.nil)) lOrders0 Try.func13 (by kernel_rfl) 6 [] (by kernel_rfl) [lOrders0_L0] ⟨lOrders0_h0,trivial⟩ lOrders0_c
  lOrders0_inv lOrders0_mu (fun _ _ _=>trivial) fun kv iv0 bv0 hin hF k l iv bv hk ha hi=>match k,hk,hi with
  | 0,hk,hi=>by
    cases hk
    exact lOrders0_o0 kv iv0 bv0 hin hF iv bv ha hi
  | k+1,hk,_=>by simp at hk
end Go.Sx.Mhw
