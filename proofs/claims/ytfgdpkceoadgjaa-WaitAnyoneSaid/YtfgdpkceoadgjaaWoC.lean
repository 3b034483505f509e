/- Who is next: by both packages. -/
import Derived.Test.YtfgdpkceoadgjaaWoA
namespace Go.Sx.Mhw
set_option linter.unusedVariables false
set_option linter.unusedSimpArgs false
set_option maxRecDepth 100000
set_option maxHeartbeats 0
noncomputable section
open Go Go.Sx Go.Proofs
def lH:SV:=.sl (.k 1) (.v 6) (.v 5) (.v 7)
def gH:List Gv:=[⟨0,.v 2,kW,0,.v 1⟩,⟨1,.v 6,[.nt .i64],8,.v 5⟩]
def bH:List (Nat×Int×Int):=[(1,0,1000),(2,0,-1),(5,0,1000),(6,0,-1),i64b 4]
def fH:List (SB×Bool):=[(.le (.v 1) (.v 3),true),(.le (.c 0) (.v 3),true),(.le (.v 5) (.v 7),true),(.le (.c 0) (.v 7),true)]
def nxtH:SI:=.ap 62 (.v 0) (.v 1) (.v 4) (.v 8) (.v 5) (.c 0)
def nxt0:SI:=.ap 62 (.v 0) (.v 1) (.v 4) (.c 0) (.c 0) (.c 0)
def oNxt (x:SI):List Out:=[⟨[(.le (.c 0) x,true)],.tp [.it .i64 x,.bo (.c true)],[],0,0,[(.lt x (.v 1),true),(pb2 30,true)]⟩,⟨[(.le (.c 0) x,false)],.tp [.it .i64 (.c 0),.bo (.c false)],[],0,0,[]⟩]
def qNxt:Con:=⟨66,[0,1,2,3,4,5,6,7,8],[lW,.it .i64 (.v 4),lH],gH,bH,fH,oNxt nxtH⟩
def qNxt0:Con:=⟨66,[0,1,2,3,4],[lW,.it .i64 (.v 4),.sn],gW,bFo,fM,oNxt nxt0⟩
theorem nxtK_eq {c n lim hc m:Int} (hn:n≤4096):nxtK c n lim hc m=fstI (fun k=>mayN c lim hc m (fl (srtW c n lim) k 5)) n:=by unfold nxtK;rw [Int.min_eq_left hn]
def noN (c n lim hc m k:Int):Prop:=∀ j:Nat,(j:Int) < k→¬ mayN c lim hc m (fl (srtW c n lim) j 5)
theorem nxt_some {c n lim hc m k:Int} (hr:rgtW c n) (hl:0≤lim) (hl2:lim≤64) (ha:allM hc m) (h0:0≤k) (hk:k < n) (hno:noN c n lim hc m k) (hm:mayN c lim hc m (fl (srtW c n lim) k.toNat 5)):nxtW c n lim hc m=fl (srtW c n lim) k.toNat 5:=by
 have hn:=hr.1
 have e:nxtK c n lim hc m=k:=by rw [nxtK_eq (by omega)];exact fstI_some h0 hk hm hno
 obtain ⟨a1,a2,_⟩:=srt_at (c:=c) (n:=n) (lim:=lim) (by omega) (k:=k.toNat) (by omega)
 unfold nxtW
 rw [if_pos ⟨hr,⟨hl,hl2⟩,ha⟩,e,if_neg (by omega)];omega
theorem nxt_none {c n lim hc m:Int} (h:¬ rgtW c n∨¬ 0≤lim∨¬ lim≤64∨¬ allM hc m∨noN c n lim hc m n):¬ 0≤nxtW c n lim hc m:=by
 unfold nxtW
 split
 ·rename_i hh
  have hn:=hh.1.1
  rcases h with h | h | h | h | h
  ·exact absurd hh.1 h
  ·exact absurd hh.2.1.1 h
  ·exact absurd hh.2.1.2 h
  ·exact absurd hh.2.2 h
  ·rw [nxtK_eq (by omega),fstI_none h];simp
 ·omega
theorem nxt_has {c n lim hc m:Int} (h:0≤nxtW c n lim hc m):rgtW c n∧(0≤lim∧lim≤64)∧allM hc m∧nxtW c n lim hc m < n∧mayN c lim hc m (nxtW c n lim hc m):=by
 have h':=h
 unfold nxtW at h
 split at h
 ·rename_i hh
  have hn:=hh.1.1
  obtain ⟨h1,⟨h2,h3⟩,h4⟩:=hh
  refine ⟨h1,⟨h2,h3⟩,h4,?_⟩
  rcases fstI_cases (fun k=>mayN c lim hc m (fl (srtW c n lim) k 5)) n with ⟨e,_⟩ | ⟨e1,e2,e3,e4⟩
  ·rw [nxtK_eq (by omega),e] at h;simp at h
  ·have e:=nxt_some h1 h2 h3 h4 e1 e2 e4 e3
   rw [e]
   obtain ⟨a1,a2,_⟩:=srt_at (c:=c) (n:=n) (lim:=lim) (by omega) (k:=(fstI (fun k=>mayN c lim hc m (fl (srtW c n lim) k 5)) n).toNat) (by omega)
   exact ⟨a2,e3⟩
 ·omega
theorem noN_succ {c n lim hc m k:Int} (h:noN c n lim hc m k) (h0:0≤k) (hm:¬ mayN c lim hc m (fl (srtW c n lim) k.toNat 5)):noN c n lim hc m (k+1):=by
 intro j hj
 by_cases e:(j:Int)=k
 ·rw [show j=k.toNat by omega];exact hm
 ·exact h j (by omega)
theorem noN_0 {c n lim hc m:Int}:noN c n lim hc m 0:=fun j hj=>by omega
def pasA (c lim m i:Int):Prop:=∀ j:Nat,(j:Int) < i→lim≤fl c j 4→fitP m (fl c j 2)
theorem pasA_0 {c lim m:Int}:pasA c lim m 0:=fun j hj=>by omega
theorem pasA_succ {c lim m i:Int} (h:pasA c lim m i) (h0:0≤i) (hp:lim≤fl c i.toNat 4→fitP m (fl c i.toNat 2)):pasA c lim m (i+1):=by
 intro j hj
 by_cases e:(j:Int)=i
 ·rw [show j=i.toNat by omega];exact hp
 ·exact h j (by omega)
theorem fitA_0 {m c:Int}:fitA m c 0:=fun j hj=>by omega
theorem fitA_suc {m c i:Int} (h:fitA m c i) (h0:0≤i) (hp:fitP m (fl c i.toNat 0)):fitA m c (i+1):=by
 intro j hj
 by_cases e:(j:Int)=i
 ·rw [show j=i.toNat by omega];exact hp
 ·exact h j (by omega)
theorem allM_0 {c:Int}:allM c 0:=fun j hj=>by omega
theorem allM_suc {c i:Int} (h:allM c i) (h0:0≤i) (hp:inM (fl c i.toNat 0)):allM c (i+1):=by
 intro j hj
 by_cases e:(j:Int)=i
 ·rw [show j=i.toNat by omega];exact hp
 ·exact h j (by omega)
theorem allM_not {c i m:Int} (h0:0≤i) (hi:i < m) (hp:¬ inM (fl c i.toNat 0)):¬ allM c m:=fun h=>hp (h i.toNat (by omega))
theorem may_of {c lim hc m x md:Int} (e:md=fl c x.toNat 2) (h1:fitA md hc m) (h2:pasA c lim md x):mayN c lim hc m x:=by
 subst e;exact ⟨h1,h2⟩
theorem may_nofit {c lim hc m x md j:Int} (e:md=fl c x.toNat 2) (h0:0≤j) (hj:j < m) (h:¬ fitP md (fl hc j.toNat 0)):¬ mayN c lim hc m x:=by
 subst e;exact fun hh=>h (hh.1 j.toNat (by omega))
theorem may_nopas {c lim hc m x md j:Int} (e:md=fl c x.toNat 2) (h0:0≤j) (hj:j < x) (hl:lim≤fl c j.toNat 4) (h:¬ fitP md (fl c j.toNat 2)):¬ mayN c lim hc m x:=by
 subst e;exact fun hh=>h (hh.2 j.toNat (by omega) hl)
theorem rgt_mode {c n:Int} (h:rgtW c n) {j:Int} (h0:0≤j) (hj:j < n):inM (fl c j.toNat 2):=by
 have:=(h.2 j.toNat (by omega)).1;unfold mayW at this;unfold inM;omega
def qNxt_T1:Tm:=⟨⟨135,19,[(8,(.it .i64 (.v 29))),(7,(.it .i64 (.v 5))),(0,(.sl (.k 1) (.v 6) (.v 5) (.v 7))),(1,(.fn 151 [] [(.pt (.n 5) (.c 0))]))],[(.code (atC Try.f135 [1,0,1,0,0])),(.inLoop (atC Try.f135 [1,0,1,0,0])),(.inBlock 0),(.code (atC Try.f135 [1,1]))],[],.none⟩,[⟨84,9,[(6,(.fn 151 [] [(.pt (.n 5) (.c 0))])),(5,(.sl (.k 1) (.v 6) (.v 5) (.v 7)))],[(.inRegion (opsC (atC Try.f84 [1,0])) [2,3,4]),(.code Code.ret)],[],.none⟩,⟨119,9,[(6,(.fn 151 [] [(.pt (.n 5) (.c 0))])),(5,(.sl (.k 1) (.v 6) (.v 5) (.v 7)))],[(.inRegion (opsC (atC Try.f119 [1,0])) [2,3,4]),(.code Code.ret)],[],.none⟩,⟨66,33,[(12,(.sl (.k 1) (.v 6) (.v 5) (.v 7))),(7,(.pt (.n 4) (.c 0))),(6,(.pt (.n 3) (.c 0))),(5,(.pt (.n 2) (.c 0))),(4,(.pt (.n 1) (.c 0))),(3,(.pt (.n 0) (.c 0)))],[(.inRegion (opsC (atC Try.f66 [1,0,0])) [1,2]),(.code (atC Try.f66 [1,0,1])),(.code (atC Try.f66 [1,1]))],[],.none⟩],
    ⟨[(0,(.cells [(.sl (.k 0) (.v 2) (.v 1) (.v 3))] 76)),(1,(.cells [(.it .i64 (.v 4))] 3)),(2,(.cells [(.sl (.k 1) (.v 6) (.v 5) (.v 7))] 31)),(3,(.cells [(.it .i64 (.c 0))] 3)),(4,(.cells [(.bo (.c .false))] 4)),(5,(.cells [(.fn 120 [] [])] 28))],6,0,0,[((.le (.v 1) (.v 3)),.true),((.le (.c 0) (.v 3)),.true),((.le (.v 5) (.v 7)),.true),((.le (.c 0) (.v 7)),.true)],[2,1,0],[(1,(0,1000)),(2,(0,(-1))),(5,(0,1000)),(6,(0,(-1))),(4,((-9223372036854775808),9223372036854775807)),(29,(0,(-1)))]⟩,[29]⟩
def qNxt_T2:Tm:=⟨⟨118,19,[(7,(.it .i64 (.v 39))),(6,(.it .i64 (.v 1))),(5,(.sl (.n 7) (.c 0) (.v 1) (.v 30))),(0,(.yl 9))],[(.code (atC Try.f118 [0,1,1,0,0])),(.inLoop (atC Try.f118 [0,1,1,0,0])),(.inBlock 0),(.inScope (atC Try.f118 [0]))],[],.none⟩,[⟨66,33,[(7,(.pt (.n 4) (.c 0))),(6,(.pt (.n 3) (.c 0)))],[(.inRangeFunc 9),(.inBlock 0),(.code (atC Try.f66 [1,1,1]))],[8],.none⟩],
    ⟨[(0,(.cells [(.sl (.k 0) (.v 2) (.v 1) (.v 3))] 76)),(1,(.cells [(.it .i64 (.v 4))] 3)),(2,(.cells [(.sl (.k 1) (.v 6) (.v 5) (.v 7))] 31)),(3,(.cells [(.it .i64 (.c 0))] 3)),(4,(.cells [(.bo (.c .false))] 4)),(7,(.arr [(.nt .i64),(.nt .i64),(.nt .i64),(.nt .i64),(.nt .i64),(.nt .i64)] (.ap 60 (.v 0) (.v 1) (.v 4) (.c 0) (.c 0) (.c 0)) (.v 1) 158 (.v 30))),(8,.dfr),(9,(.loop .ready .none 66 33 [(7,(.pt (.n 4) (.c 0))),(6,(.pt (.n 3) (.c 0))),(5,(.pt (.n 2) (.c 0))),(4,(.pt (.n 1) (.c 0))),(3,(.pt (.n 0) (.c 0)))] #[18,19] (atC Try.f66 [1,1,0,1,0,0]) (atC Try.f66 [1,1,0,1,0,1]) 8))],10,0,0,[((.le (.v 1) (.c 256)),.true),((.lt (.c 0) (.v 1)),.true),((.le (.v 4) (.c 64)),.true),((.le (.c 0) (.v 4)),.true),((.ap 30 (.v 0) (.v 1) (.c 0) (.c 0) (.c 0) (.c 0)),.true),((.lt (.v 29) (.v 5)),.false),((.le (.v 1) (.v 3)),.true),((.le (.c 0) (.v 3)),.true),((.le (.v 5) (.v 7)),.true),((.le (.c 0) (.v 7)),.true)],[2,1,0],[(1,(1,256)),(4,(0,64)),(5,(0,1000)),(2,(0,(-1))),(6,(0,(-1))),(39,(0,(-1)))]⟩,[39,30]⟩
def qNxt_T3:Tm:=⟨⟨118,19,[(7,(.it .i64 (.c 0))),(6,(.it .i64 (.c 0))),(5,.sn),(0,(.yl 8))],[(.code (atC Try.f118 [0,1,1,0,0])),(.inLoop (atC Try.f118 [0,1,1,0,0])),(.inBlock 0),(.inScope (atC Try.f118 [0]))],[],.none⟩,[⟨66,33,[(7,(.pt (.n 4) (.c 0))),(6,(.pt (.n 3) (.c 0)))],[(.inRangeFunc 8),(.inBlock 0),(.code (atC Try.f66 [1,1,1]))],[7],.none⟩],
    ⟨[(0,(.cells [(.sl (.k 0) (.v 2) (.v 1) (.v 3))] 76)),(1,(.cells [(.it .i64 (.v 4))] 3)),(2,(.cells [(.sl (.k 1) (.v 6) (.v 5) (.v 7))] 31)),(3,(.cells [(.it .i64 (.c 0))] 3)),(4,(.cells [(.bo (.c .false))] 4)),(7,.dfr),(8,(.loop .ready .none 66 33 [(7,(.pt (.n 4) (.c 0))),(6,(.pt (.n 3) (.c 0))),(5,(.pt (.n 2) (.c 0))),(4,(.pt (.n 1) (.c 0))),(3,(.pt (.n 0) (.c 0)))] #[18,19] (atC Try.f66 [1,1,0,1,0,0]) (atC Try.f66 [1,1,0,1,0,1]) 7))],9,0,0,[((.lt (.v 29) (.v 5)),.false),((.le (.v 1) (.v 3)),.true),((.le (.c 0) (.v 3)),.true),((.le (.v 5) (.v 7)),.true),((.le (.c 0) (.v 7)),.true)],[2,1,0],[(1,(0,1000)),(4,((-9223372036854775808),9223372036854775807)),(5,(0,1000)),(2,(0,(-1))),(6,(0,(-1)))]⟩,[]⟩
def qNxt_T4:Tm:=⟨⟨135,19,[(8,(.it .i64 (.v 46))),(7,(.it .i64 (.v 5))),(0,(.sl (.k 1) (.v 6) (.v 5) (.v 7))),(1,(.fn 151 [] [(.pt (.n 13) (.c 0))]))],[(.code (atC Try.f135 [1,0,1,0,0])),(.inLoop (atC Try.f135 [1,0,1,0,0])),(.inBlock 0),(.code (atC Try.f135 [1,1]))],[],.none⟩,[⟨84,9,[(6,(.fn 151 [] [(.pt (.n 13) (.c 0))])),(5,(.sl (.k 1) (.v 6) (.v 5) (.v 7)))],[(.inRegion (opsC (atC Try.f84 [1,0])) [2,3,4]),(.code Code.ret)],[],.none⟩,⟨119,9,[(6,(.fn 151 [] [(.pt (.n 13) (.c 0))])),(5,(.sl (.k 1) (.v 6) (.v 5) (.v 7)))],[(.inRegion (opsC (atC Try.f119 [1,0])) [2,3,4]),(.code Code.ret)],[],.none⟩,⟨66,33,[(23,(.fn 121 [] [(.pt (.n 11) (.c 0))])),(22,(.sl (.k 1) (.v 6) (.v 5) (.v 7))),(11,(.fn 123 [] [(.pt (.n 1) (.c 0)),(.pt (.n 12) (.c 0))])),(8,(.it .i64 (.ap 3 (.ap 60 (.v 0) (.v 1) (.v 4) (.c 0) (.c 0) (.c 0)) (.v 39) (.c 5) (.c 0) (.c 0) (.c 0)))),(7,(.pt (.n 4) (.c 0))),(6,(.pt (.n 3) (.c 0))),(3,(.pt (.n 0) (.c 0)))],[(.inRegion (opsC (atC Try.f66 [1,1,0,1,0,1,0,1,1,0])) [2,3,4,5,6,7,8,9]),(.code (atC Try.f66 [1,1,0,1,0,1,0,1,1,1])),(.inBlock 1)],[],(.some 9)⟩,⟨118,19,[(15,(.ag [(.it .i64 (.ap 3 (.ap 60 (.v 0) (.v 1) (.v 4) (.c 0) (.c 0) (.c 0)) (.v 39) (.c 0) (.c 0) (.c 0) (.c 0))),(.it .i64 (.ap 3 (.ap 60 (.v 0) (.v 1) (.v 4) (.c 0) (.c 0) (.c 0)) (.v 39) (.c 1) (.c 0) (.c 0) (.c 0))),(.it .i64 (.ap 3 (.ap 60 (.v 0) (.v 1) (.v 4) (.c 0) (.c 0) (.c 0)) (.v 39) (.c 2) (.c 0) (.c 0) (.c 0))),(.it .i64 (.ap 3 (.ap 60 (.v 0) (.v 1) (.v 4) (.c 0) (.c 0) (.c 0)) (.v 39) (.c 3) (.c 0) (.c 0) (.c 0))),(.it .i64 (.ap 3 (.ap 60 (.v 0) (.v 1) (.v 4) (.c 0) (.c 0) (.c 0)) (.v 39) (.c 4) (.c 0) (.c 0) (.c 0)))])),(13,(.it .i64 (.ap 3 (.ap 60 (.v 0) (.v 1) (.v 4) (.c 0) (.c 0) (.c 0)) (.v 39) (.c 5) (.c 0) (.c 0) (.c 0)))),(11,(.yl 9)),(7,(.it .i64 (.v 39))),(6,(.it .i64 (.v 1))),(5,(.sl (.n 7) (.c 0) (.v 1) (.v 30))),(0,(.yl 9))],[(.inRegion (opsC (atC Try.f118 [0,1,1,0,0,1,1,0,0,1,0])) [5,6]),(.code (atC Try.f118 [0,1,1,0,0,1,1,0,0,1,1])),(.inBlock 1),(.code (atC Try.f118 [0,1,1,0,0,1,1,1])),(.inLoop (atC Try.f118 [0,1,1,0,0])),(.inBlock 0),(.inScope (atC Try.f118 [0]))],[],.none⟩,⟨66,33,[(7,(.pt (.n 4) (.c 0))),(6,(.pt (.n 3) (.c 0)))],[(.inRangeFunc 9),(.inBlock 0),(.code (atC Try.f66 [1,1,1]))],[8],.none⟩],
    ⟨[(0,(.cells [(.sl (.k 0) (.v 2) (.v 1) (.v 3))] 76)),(1,(.cells [(.it .i64 (.v 4))] 3)),(2,(.cells [(.sl (.k 1) (.v 6) (.v 5) (.v 7))] 31)),(3,(.cells [(.it .i64 (.c 0))] 3)),(4,(.cells [(.bo (.c .false))] 4)),(7,(.arr [(.nt .i64),(.nt .i64),(.nt .i64),(.nt .i64),(.nt .i64),(.nt .i64)] (.ap 60 (.v 0) (.v 1) (.v 4) (.c 0) (.c 0) (.c 0)) (.v 1) 158 (.v 30))),(8,.dfr),(9,(.loop .busy .none 66 33 [(7,(.pt (.n 4) (.c 0))),(6,(.pt (.n 3) (.c 0))),(5,(.pt (.n 2) (.c 0))),(4,(.pt (.n 1) (.c 0))),(3,(.pt (.n 0) (.c 0)))] #[18,19] (atC Try.f66 [1,1,0,1,0,0]) (atC Try.f66 [1,1,0,1,0,1]) 8)),(11,(.cells [(.it .i64 (.ap 3 (.ap 60 (.v 0) (.v 1) (.v 4) (.c 0) (.c 0) (.c 0)) (.v 39) (.c 0) (.c 0) (.c 0) (.c 0))),(.it .i64 (.ap 3 (.ap 60 (.v 0) (.v 1) (.v 4) (.c 0) (.c 0) (.c 0)) (.v 39) (.c 1) (.c 0) (.c 0) (.c 0))),(.it .i64 (.ap 3 (.ap 60 (.v 0) (.v 1) (.v 4) (.c 0) (.c 0) (.c 0)) (.v 39) (.c 2) (.c 0) (.c 0) (.c 0))),(.it .i64 (.ap 3 (.ap 60 (.v 0) (.v 1) (.v 4) (.c 0) (.c 0) (.c 0)) (.v 39) (.c 3) (.c 0) (.c 0) (.c 0))),(.it .i64 (.ap 3 (.ap 60 (.v 0) (.v 1) (.v 4) (.c 0) (.c 0) (.c 0)) (.v 39) (.c 4) (.c 0) (.c 0) (.c 0)))] 84)),(12,(.cells [(.fn 121 [] [(.pt (.n 11) (.c 0))])] 28)),(13,(.cells [(.fn 121 [] [(.pt (.n 11) (.c 0))])] 28))],14,0,0,[((.lt (.v 39) (.v 1)),.true),((.le (.v 1) (.c 256)),.true),((.lt (.c 0) (.v 1)),.true),((.le (.v 4) (.c 64)),.true),((.le (.c 0) (.v 4)),.true),((.ap 30 (.v 0) (.v 1) (.c 0) (.c 0) (.c 0) (.c 0)),.true),((.lt (.v 29) (.v 5)),.false),((.le (.v 1) (.v 3)),.true),((.le (.c 0) (.v 3)),.true),((.le (.v 5) (.v 7)),.true),((.le (.c 0) (.v 7)),.true)],[2,1,0],[(1,(1,256)),(39,(0,255)),(4,(0,64)),(5,(0,1000)),(2,(0,(-1))),(6,(0,(-1))),(46,(0,(-1)))]⟩,[46]⟩
def qNxt_T5:Tm:=⟨⟨131,19,[(8,(.it .i64 (.v 50))),(7,(.it .i64 (.ap 3 (.ap 60 (.v 0) (.v 1) (.v 4) (.c 0) (.c 0) (.c 0)) (.v 39) (.c 5) (.c 0) (.c 0) (.c 0)))),(0,(.sl (.k 0) (.v 2) (.ap 3 (.ap 60 (.v 0) (.v 1) (.v 4) (.c 0) (.c 0) (.c 0)) (.v 39) (.c 5) (.c 0) (.c 0) (.c 0)) (.v 3))),(1,(.fn 153 [] [(.pt (.n 14) (.c 0))]))],[(.code (atC Try.f131 [1,0,1,0,0])),(.inLoop (atC Try.f131 [1,0,1,0,0])),(.inBlock 0),(.code (atC Try.f131 [1,1]))],[],.none⟩,[⟨152,9,[(6,(.fn 153 [] [(.pt (.n 14) (.c 0))])),(5,(.sl (.k 0) (.v 2) (.ap 3 (.ap 60 (.v 0) (.v 1) (.v 4) (.c 0) (.c 0) (.c 0)) (.v 39) (.c 5) (.c 0) (.c 0) (.c 0)) (.v 3)))],[(.inRegion (opsC (atC Try.f152 [1,0])) [2,3,4]),(.code Code.ret)],[],.none⟩,⟨125,9,[(6,(.fn 153 [] [(.pt (.n 14) (.c 0))])),(5,(.sl (.k 0) (.v 2) (.ap 3 (.ap 60 (.v 0) (.v 1) (.v 4) (.c 0) (.c 0) (.c 0)) (.v 39) (.c 5) (.c 0) (.c 0) (.c 0)) (.v 3)))],[(.inRegion (opsC (atC Try.f125 [1,0])) [2,3,4]),(.code Code.ret)],[],.none⟩,⟨66,33,[(29,(.fn 123 [] [(.pt (.n 1) (.c 0)),(.pt (.n 12) (.c 0))])),(28,(.sl (.k 0) (.v 2) (.ap 3 (.ap 60 (.v 0) (.v 1) (.v 4) (.c 0) (.c 0) (.c 0)) (.v 39) (.c 5) (.c 0) (.c 0) (.c 0)) (.v 3))),(25,(.bo (.c .true))),(8,(.it .i64 (.ap 3 (.ap 60 (.v 0) (.v 1) (.v 4) (.c 0) (.c 0) (.c 0)) (.v 39) (.c 5) (.c 0) (.c 0) (.c 0)))),(7,(.pt (.n 4) (.c 0))),(6,(.pt (.n 3) (.c 0)))],[(.inRegion (opsC (atC Try.f66 [1,1,0,1,0,1,0,1,1,0])) [8,9]),(.code (atC Try.f66 [1,1,0,1,0,1,0,1,1,1])),(.inBlock 1)],[],(.some 9)⟩,⟨118,19,[(15,(.ag [(.it .i64 (.ap 3 (.ap 60 (.v 0) (.v 1) (.v 4) (.c 0) (.c 0) (.c 0)) (.v 39) (.c 0) (.c 0) (.c 0) (.c 0))),(.it .i64 (.ap 3 (.ap 60 (.v 0) (.v 1) (.v 4) (.c 0) (.c 0) (.c 0)) (.v 39) (.c 1) (.c 0) (.c 0) (.c 0))),(.it .i64 (.ap 3 (.ap 60 (.v 0) (.v 1) (.v 4) (.c 0) (.c 0) (.c 0)) (.v 39) (.c 2) (.c 0) (.c 0) (.c 0))),(.it .i64 (.ap 3 (.ap 60 (.v 0) (.v 1) (.v 4) (.c 0) (.c 0) (.c 0)) (.v 39) (.c 3) (.c 0) (.c 0) (.c 0))),(.it .i64 (.ap 3 (.ap 60 (.v 0) (.v 1) (.v 4) (.c 0) (.c 0) (.c 0)) (.v 39) (.c 4) (.c 0) (.c 0) (.c 0)))])),(13,(.it .i64 (.ap 3 (.ap 60 (.v 0) (.v 1) (.v 4) (.c 0) (.c 0) (.c 0)) (.v 39) (.c 5) (.c 0) (.c 0) (.c 0)))),(11,(.yl 9)),(7,(.it .i64 (.v 39))),(6,(.it .i64 (.v 1))),(5,(.sl (.n 7) (.c 0) (.v 1) (.v 30))),(0,(.yl 9))],[(.inRegion (opsC (atC Try.f118 [0,1,1,0,0,1,1,0,0,1,0])) [5,6]),(.code (atC Try.f118 [0,1,1,0,0,1,1,0,0,1,1])),(.inBlock 1),(.code (atC Try.f118 [0,1,1,0,0,1,1,1])),(.inLoop (atC Try.f118 [0,1,1,0,0])),(.inBlock 0),(.inScope (atC Try.f118 [0]))],[],.none⟩,⟨66,33,[(7,(.pt (.n 4) (.c 0))),(6,(.pt (.n 3) (.c 0)))],[(.inRangeFunc 9),(.inBlock 0),(.code (atC Try.f66 [1,1,1]))],[8],.none⟩],
    ⟨[(0,(.cells [(.sl (.k 0) (.v 2) (.v 1) (.v 3))] 76)),(1,(.cells [(.it .i64 (.v 4))] 3)),(2,(.cells [(.sl (.k 1) (.v 6) (.v 5) (.v 7))] 31)),(3,(.cells [(.it .i64 (.c 0))] 3)),(4,(.cells [(.bo (.c .false))] 4)),(7,(.arr [(.nt .i64),(.nt .i64),(.nt .i64),(.nt .i64),(.nt .i64),(.nt .i64)] (.ap 60 (.v 0) (.v 1) (.v 4) (.c 0) (.c 0) (.c 0)) (.v 1) 158 (.v 30))),(8,.dfr),(9,(.loop .busy .none 66 33 [(7,(.pt (.n 4) (.c 0))),(6,(.pt (.n 3) (.c 0))),(5,(.pt (.n 2) (.c 0))),(4,(.pt (.n 1) (.c 0))),(3,(.pt (.n 0) (.c 0)))] #[18,19] (atC Try.f66 [1,1,0,1,0,0]) (atC Try.f66 [1,1,0,1,0,1]) 8)),(11,(.cells [(.it .i64 (.ap 3 (.ap 60 (.v 0) (.v 1) (.v 4) (.c 0) (.c 0) (.c 0)) (.v 39) (.c 0) (.c 0) (.c 0) (.c 0))),(.it .i64 (.ap 3 (.ap 60 (.v 0) (.v 1) (.v 4) (.c 0) (.c 0) (.c 0)) (.v 39) (.c 1) (.c 0) (.c 0) (.c 0))),(.it .i64 (.ap 3 (.ap 60 (.v 0) (.v 1) (.v 4) (.c 0) (.c 0) (.c 0)) (.v 39) (.c 2) (.c 0) (.c 0) (.c 0))),(.it .i64 (.ap 3 (.ap 60 (.v 0) (.v 1) (.v 4) (.c 0) (.c 0) (.c 0)) (.v 39) (.c 3) (.c 0) (.c 0) (.c 0))),(.it .i64 (.ap 3 (.ap 60 (.v 0) (.v 1) (.v 4) (.c 0) (.c 0) (.c 0)) (.v 39) (.c 4) (.c 0) (.c 0) (.c 0)))] 84)),(12,(.cells [(.fn 121 [] [(.pt (.n 11) (.c 0))])] 28)),(14,(.cells [(.fn 123 [] [(.pt (.n 1) (.c 0)),(.pt (.n 12) (.c 0))])] 155))],15,0,0,[((.le (.ap 3 (.ap 60 (.v 0) (.v 1) (.v 4) (.c 0) (.c 0) (.c 0)) (.v 39) (.c 5) (.c 0) (.c 0) (.c 0)) (.v 3)),.true),((.le (.c 0) (.ap 3 (.ap 60 (.v 0) (.v 1) (.v 4) (.c 0) (.c 0) (.c 0)) (.v 39) (.c 5) (.c 0) (.c 0) (.c 0))),.true),((.lt (.v 46) (.v 5)),.false),((.lt (.v 39) (.v 1)),.true),((.le (.v 1) (.c 256)),.true),((.lt (.c 0) (.v 1)),.true),((.le (.v 4) (.c 64)),.true),((.le (.c 0) (.v 4)),.true),((.ap 30 (.v 0) (.v 1) (.c 0) (.c 0) (.c 0) (.c 0)),.true),((.lt (.v 29) (.v 5)),.false),((.le (.v 1) (.v 3)),.true),((.le (.c 0) (.v 3)),.true),((.le (.v 5) (.v 7)),.true),((.le (.c 0) (.v 7)),.true)],[2,1,0],[(5,(0,1000)),(1,(1,256)),(39,(0,255)),(4,(0,64)),(2,(0,(-1))),(6,(0,(-1))),(50,(0,(-1)))]⟩,[50]⟩
def qNxt_L0:List Lf:=
 [(let i_:In:=⟨⟨[(29,(.c 0))],[]⟩,[(0,0),(1,1),(2,2),(3,3),(4,4),(5,5)],[],[]⟩;.cut ([((.le (.v 1) (.v 3)),.true),((.le (.c 0) (.v 3)),.true),((.le (.v 5) (.v 7)),.true),((.le (.c 0) (.v 7)),.true)]) 1 i_ [] (shT qNxt_T1 i_))]
def qNxt_L1:List Lf:=
 let x0_:SI:=(.ap 3 (.v 8) (.v 29) (.c 0) (.c 0) (.c 0) (.c 0))
 let f0_:List (SB×Bool):=[((.le (.v 1) (.v 3)),.true),((.le (.c 0) (.v 3)),.true),((.le (.v 5) (.v 7)),.true),((.le (.c 0) (.v 7)),.true)]
 let f1_:List (SB×Bool):=((.lt (.v 29) (.v 5)),.true)::f0_
 let f2_:List (SB×Bool):=((.lt (.v 29) (.v 5)),.false)::f0_
 let f3_:List (SB×Bool):=((.le (.c 0) x0_),.true)::f1_
 let f4_:List (SB×Bool):=((.ap 30 (.v 0) (.v 1) (.c 0) (.c 0) (.c 0) (.c 0)),.true)::f2_
 let f5_:List (SB×Bool):=((.le (.c 0) (.v 4)),.true)::f4_
 let f6_:List (SB×Bool):=((.le (.v 4) (.c 64)),.true)::f5_
 [(let i_:In:=⟨⟨[(29,(.op .add (.v 29) (.c 1)))],[]⟩,[(0,0),(1,1),(2,2),(3,3),(4,4),(5,5)],[],[]⟩;.cut (((.lt x0_ (.c 6)),.true)::f3_) 1 i_ [] (shT qNxt_T1 i_)),
  (.fin (((.lt x0_ (.c 6)),.false)::f3_) 1 ⟨⟨[],[]⟩,[],[],[]⟩ [] []),
  (.fin (((.le (.c 0) x0_),.false)::f1_) 1 ⟨⟨[],[]⟩,[],[],[]⟩ [] []),
  (let i_:In:=⟨⟨[(30,(.d 0)),(39,(.c 0))],[]⟩,[(0,0),(1,1),(2,2),(8,8),(3,3),(4,4),(9,9),(7,7)],[],[]⟩;.cut (((.le (.v 1) (.d 0)),.true)::((.le (.v 1) (.c 256)),.true)::((.lt (.c 0) (.v 1)),.true)::f6_) 2 i_ [] (shT qNxt_T2 i_)),
  (let i_:In:=⟨⟨[],[]⟩,[(0,0),(1,1),(2,2),(7,7),(3,3),(4,4),(8,8)],[],[]⟩;.cut (((.lt (.c 0) (.v 1)),.false)::f6_) 3 i_ [] (shT qNxt_T3 i_)),
  (let i_:In:=⟨⟨[],[]⟩,[(0,0),(1,1),(2,2),(7,7),(3,3),(4,4),(8,8)],[],[]⟩;.cut (((.le (.v 4) (.c 64)),.false)::f5_) 3 i_ [] (shT qNxt_T3 i_)),
  (let i_:In:=⟨⟨[],[]⟩,[(0,0),(1,1),(2,2),(7,7),(3,3),(4,4),(8,8)],[],[]⟩;.cut (((.le (.c 0) (.v 4)),.false)::f4_) 3 i_ [] (shT qNxt_T3 i_)),
  (let i_:In:=⟨⟨[],[]⟩,[(0,0),(1,1),(2,2),(7,7),(3,3),(4,4),(8,8)],[],[]⟩;.cut (((.ap 30 (.v 0) (.v 1) (.c 0) (.c 0) (.c 0) (.c 0)),.false)::f2_) 3 i_ [] (shT qNxt_T3 i_))]
def qNxt_L2:List Lf:=
 let f0_:List (SB×Bool):=[((.le (.v 1) (.c 256)),.true),((.lt (.c 0) (.v 1)),.true),((.le (.v 4) (.c 64)),.true),((.le (.c 0) (.v 4)),.true),((.ap 30 (.v 0) (.v 1) (.c 0) (.c 0) (.c 0) (.c 0)),.true),((.lt (.v 29) (.v 5)),.false),((.le (.v 1) (.v 3)),.true),((.le (.c 0) (.v 3)),.true),((.le (.v 5) (.v 7)),.true),((.le (.c 0) (.v 7)),.true)]
 [(let i_:In:=⟨⟨[(46,(.c 0))],[]⟩,[(2,2),(8,8),(7,7),(9,9),(0,0),(3,3),(4,4),(12,12),(1,1),(11,11),(13,13)],[],[]⟩;.cut (((.lt (.v 39) (.v 1)),.true)::f0_) 4 i_ [] (shT qNxt_T4 i_)),
  (.fin (((.lt (.v 39) (.v 1)),.false)::f0_) 1 ⟨⟨[],[]⟩,[],[],[]⟩ [] [])]
def qNxt_L3:List Lf:=
 [(.fin ([((.lt (.v 29) (.v 5)),.false),((.le (.v 1) (.v 3)),.true),((.le (.c 0) (.v 3)),.true),((.le (.v 5) (.v 7)),.true),((.le (.c 0) (.v 7)),.true)]) 1 ⟨⟨[],[]⟩,[],[],[]⟩ [] [])]
def qNxt_L4:List Lf:=
 let x0_:SI:=(.ap 60 (.v 0) (.v 1) (.v 4) (.c 0) (.c 0) (.c 0))
 let x1_:SI:=(.ap 3 (.v 8) (.v 46) (.c 0) (.c 0) (.c 0) (.c 0))
 let x2_:SI:=(.ap 3 x0_ (.v 39) (.c 5) (.c 0) (.c 0) (.c 0))
 let x3_:SI:=(.ap 3 x0_ (.v 39) (.c 2) (.c 0) (.c 0) (.c 0))
 let f0_:List (SB×Bool):=[((.lt (.v 39) (.v 1)),.true),((.le (.v 1) (.c 256)),.true),((.lt (.c 0) (.v 1)),.true),((.le (.v 4) (.c 64)),.true),((.le (.c 0) (.v 4)),.true),((.ap 30 (.v 0) (.v 1) (.c 0) (.c 0) (.c 0) (.c 0)),.true),((.lt (.v 29) (.v 5)),.false),((.le (.v 1) (.v 3)),.true),((.le (.c 0) (.v 3)),.true),((.le (.v 5) (.v 7)),.true),((.le (.c 0) (.v 7)),.true)]
 let f1_:List (SB×Bool):=((.lt (.v 46) (.v 5)),.true)::f0_
 let f2_:List (SB×Bool):=((.lt (.v 46) (.v 5)),.false)::f0_
 let f3_:List (SB×Bool):=((.le (.c 0) x2_),.true)::f2_
 [(let i_:In:=⟨⟨[(46,(.op .add (.v 46) (.c 1)))],[]⟩,[(2,2),(8,8),(7,7),(9,9),(0,0),(3,3),(4,4),(12,12),(1,1),(11,11),(13,13)],[],[]⟩;.cut (((.ap 10 x3_ x1_ (.c 0) (.c 0) (.c 0) (.c 0)),.true)::f1_) 4 i_ [] (shT qNxt_T4 i_)),
  (let i_:In:=⟨⟨[(30,(.v 30)),(39,(.op .add (.v 39) (.c 1)))],[]⟩,[(0,0),(1,1),(2,2),(8,8),(3,3),(4,4),(9,9),(7,7)],[],[]⟩;.cut (((.ap 10 x3_ x1_ (.c 0) (.c 0) (.c 0) (.c 0)),.false)::f1_) 2 i_ [] (shT qNxt_T2 i_)),
  (let i_:In:=⟨⟨[(50,(.c 0))],[]⟩,[(11,11),(0,0),(2,2),(8,8),(7,7),(9,9),(3,3),(4,4),(12,12),(1,1),(14,14)],[],[]⟩;.cut (((.le x2_ (.v 3)),.true)::f3_) 5 i_ [] (shT qNxt_T5 i_)),
  (.bad (((.le x2_ (.v 3)),.false)::f3_)),
  (.bad (((.le (.c 0) x2_),.false)::f2_))]
def qNxt_L5:List Lf:=
 let x0_:SI:=(.ap 60 (.v 0) (.v 1) (.v 4) (.c 0) (.c 0) (.c 0))
 let x1_:SI:=(.ap 3 (.v 0) (.v 50) (.c 4) (.c 0) (.c 0) (.c 0))
 let x2_:SI:=(.ap 3 (.v 0) (.v 50) (.c 2) (.c 0) (.c 0) (.c 0))
 let x3_:SI:=(.ap 3 x0_ (.v 39) (.c 5) (.c 0) (.c 0) (.c 0))
 let x4_:SI:=(.ap 3 x0_ (.v 39) (.c 2) (.c 0) (.c 0) (.c 0))
 let f0_:List (SB×Bool):=[((.le x3_ (.v 3)),.true),((.le (.c 0) x3_),.true),((.lt (.v 46) (.v 5)),.false),((.lt (.v 39) (.v 1)),.true),((.le (.v 1) (.c 256)),.true),((.lt (.c 0) (.v 1)),.true),((.le (.v 4) (.c 64)),.true),((.le (.c 0) (.v 4)),.true),((.ap 30 (.v 0) (.v 1) (.c 0) (.c 0) (.c 0) (.c 0)),.true),((.lt (.v 29) (.v 5)),.false),((.le (.v 1) (.v 3)),.true),((.le (.c 0) (.v 3)),.true),((.le (.v 5) (.v 7)),.true),((.le (.c 0) (.v 7)),.true)]
 let f1_:List (SB×Bool):=((.lt (.v 50) x3_),.true)::f0_
 let f2_:List (SB×Bool):=((.lt (.v 50) (.v 1)),.true)::f1_
 let f3_:List (SB×Bool):=((.le (.v 4) x1_),.true)::f2_
 [(let i_:In:=⟨⟨[(50,(.op .add (.v 50) (.c 1)))],[]⟩,[(11,11),(0,0),(2,2),(8,8),(7,7),(9,9),(3,3),(4,4),(12,12),(1,1),(14,14)],[],[]⟩;.cut (((.ap 10 x4_ x2_ (.c 0) (.c 0) (.c 0) (.c 0)),.true)::f3_) 5 i_ [] (shT qNxt_T5 i_)),
  (let i_:In:=⟨⟨[(30,(.v 30)),(39,(.op .add (.v 39) (.c 1)))],[]⟩,[(0,0),(1,1),(2,2),(8,8),(3,3),(4,4),(9,9),(7,7)],[],[]⟩;.cut (((.ap 10 x4_ x2_ (.c 0) (.c 0) (.c 0) (.c 0)),.false)::f3_) 2 i_ [] (shT qNxt_T2 i_)),
  (let i_:In:=⟨⟨[(50,(.op .add (.v 50) (.c 1)))],[]⟩,[(11,11),(0,0),(2,2),(8,8),(7,7),(9,9),(3,3),(4,4),(12,12),(1,1),(14,14)],[],[]⟩;.cut (((.le (.v 4) x1_),.false)::f2_) 5 i_ [] (shT qNxt_T5 i_)),
  (.bad (((.lt (.v 50) (.v 1)),.false)::f1_)),
  (.fin (((.lt (.v 50) x3_),.false)::f0_) 0 ⟨⟨[],[]⟩,[],[],[]⟩ [(.ei (.ap 62 (.v 0) (.v 1) (.v 4) (.v 8) (.v 5) (.c 0)) (.ap 3 x0_ (.v 39) (.c 5) (.c 0) (.c 0) (.c 0))),(.fa (.lt (.ap 62 (.v 0) (.v 1) (.v 4) (.v 8) (.v 5) (.c 0)) (.v 1)) .true)] [])]
def qNxt_run (T:Tm):=(ex (ccOf Try.prog BF [58,84] qNxt) ((fun cc=>[qOrd.ent cc,wFits.ent cc]) (ccOf Try.prog BF [58,84] qNxt)) (dw (ccOf Try.prog BF [58,84] qNxt) ((fun cc=>[qOrd.ent cc,wFits.ent cc]) (ccOf Try.prog BF [58,84] qNxt)) 1000 4) (stopX []) 4000 T.f T.fs T.H).lfs (ccOf Try.prog BF [58,84] qNxt) ((tm0 qNxt Try.f66 (Try.f66.body.getD .skip))::[qNxt_T1,qNxt_T2,qNxt_T3,qNxt_T4,qNxt_T5]) qNxt.os
theorem qNxt_h0:qNxt_run (tm0 qNxt Try.f66 (Try.f66.body.getD .skip))=some qNxt_L0:=by kernel_rfl
theorem qNxt_h1:qNxt_run qNxt_T1=some qNxt_L1:=by kernel_rfl
theorem qNxt_h2:qNxt_run qNxt_T2=some qNxt_L2:=by kernel_rfl
theorem qNxt_h3:qNxt_run qNxt_T3=some qNxt_L3:=by kernel_rfl
theorem qNxt_h4:qNxt_run qNxt_T4=some qNxt_L4:=by kernel_rfl
theorem qNxt_h5:qNxt_run qNxt_T5=some qNxt_L5:=by kernel_rfl
def qNxt_inv:(Nat→Int)→(Nat→Bool)→Nat→(Nat→Int)→(Nat→Bool)→Prop:=fun iv0 _ k iv _=>match k with
 | 0=>True
 | 1=>0≤iv 29∧iv 29≤iv0 5∧allM (iv0 8) (iv 29)
 | 2=>0≤iv 39∧iv 39≤iv0 1∧allM (iv0 8) (iv0 5)∧noN (iv0 0) (iv0 1) (iv0 4) (iv0 8) (iv0 5) (iv 39)
 | 3=>¬ 0≤nxtW (iv0 0) (iv0 1) (iv0 4) (iv0 8) (iv0 5)
 | 4=>0≤iv 39∧iv 39 < iv0 1∧allM (iv0 8) (iv0 5)∧noN (iv0 0) (iv0 1) (iv0 4) (iv0 8) (iv0 5) (iv 39)∧0≤iv 46∧iv 46≤iv0 5∧fitA (fl (srtW (iv0 0) (iv0 1) (iv0 4)) (iv 39).toNat 2) (iv0 8) (iv 46)
 | _=>0≤iv 39∧iv 39 < iv0 1∧allM (iv0 8) (iv0 5)∧noN (iv0 0) (iv0 1) (iv0 4) (iv0 8) (iv0 5) (iv 39)∧0≤iv 50∧iv 50≤fl (srtW (iv0 0) (iv0 1) (iv0 4)) (iv 39).toNat 5∧fitA (fl (srtW (iv0 0) (iv0 1) (iv0 4)) (iv 39).toNat 2) (iv0 8) (iv0 5)∧pasA (iv0 0) (iv0 4) (fl (srtW (iv0 0) (iv0 1) (iv0 4)) (iv 39).toNat 2) (iv 50)
def qNxt_mu:(Nat→Int)→(Nat→Bool)→Nat→(Nat→Int)→(Nat→Bool)→Nat:=fun iv0 _ k iv _=>match k with | 0=>2 ^ 90 | 1=>2 ^ 80+(iv0 5 - iv 29).toNat | 2=>(iv0 1 - iv 39).toNat * 2 ^ 40+2 ^ 30 | 3=>0 | 4=>(iv0 1 - iv 39).toNat * 2 ^ 40+2 ^ 20+(iv0 5 - iv 46).toNat | _=>(iv0 1 - iv 39).toNat * 2 ^ 40+(1000 - iv 50).toNat
theorem qNxt_b {iv0:Nat→Int} (hin:InB qNxt.B iv0):(0≤iv0 1∧iv0 1≤1000)∧0≤iv0 2∧(0≤iv0 5∧iv0 5≤1000)∧0≤iv0 6∧((-9223372036854775808)≤iv0 4∧iv0 4≤9223372036854775807):=by
 have b1:=hin 1 0 1000 (by simp [qNxt,bW,gW,fM,lW,ap3,pb3,pb4,ints,mayV,i64s,i64b,kW,two,b2,lmap,lapp,bFo,cap64,fnO,ap60,ap61,oNo,oOrd,kU,lH,gH,bH,fH,nxtH,nxt0,oNxt])
 simp only [Int.reduceLE,reduceIte,Int.reduceNeg] at b1
 have b2:=hin 2 0 (-1) (by simp [qNxt,bW,gW,fM,lW,ap3,pb3,pb4,ints,mayV,i64s,i64b,kW,two,b2,lmap,lapp,bFo,cap64,fnO,ap60,ap61,oNo,oOrd,kU,lH,gH,bH,fH,nxtH,nxt0,oNxt])
 simp only [Int.reduceLE,reduceIte,Int.reduceNeg] at b2
 have b5:=hin 5 0 1000 (by simp [qNxt,bW,gW,fM,lW,ap3,pb3,pb4,ints,mayV,i64s,i64b,kW,two,b2,lmap,lapp,bFo,cap64,fnO,ap60,ap61,oNo,oOrd,kU,lH,gH,bH,fH,nxtH,nxt0,oNxt])
 simp only [Int.reduceLE,reduceIte,Int.reduceNeg] at b5
 have b6:=hin 6 0 (-1) (by simp [qNxt,bW,gW,fM,lW,ap3,pb3,pb4,ints,mayV,i64s,i64b,kW,two,b2,lmap,lapp,bFo,cap64,fnO,ap60,ap61,oNo,oOrd,kU,lH,gH,bH,fH,nxtH,nxt0,oNxt])
 simp only [Int.reduceLE,reduceIte,Int.reduceNeg] at b6
 have b4:=hin 4 (-9223372036854775808) 9223372036854775807 (by simp [qNxt,bW,gW,fM,lW,ap3,pb3,pb4,ints,mayV,i64s,i64b,kW,two,b2,lmap,lapp,bFo,cap64,fnO,ap60,ap61,oNo,oOrd,kU,lH,gH,bH,fH,nxtH,nxt0,oNxt])
 simp only [Int.reduceLE,reduceIte,Int.reduceNeg] at b4
 exact ⟨b1,b2.1,b5,b6.1,b4⟩
def qNxt_ob (k:Nat) (l:List Lf):Prop:=∀ (kv:Kv) (iv0:Nat→Int) (bv0:Nat→Bool),InB qNxt.B iv0→FT (sta FI FB kv iv0 bv0) (dlt dyn0) qNxt.F→∀ (iv:Nat→Int) (bv:Nat→Bool),Agr 9 iv0 bv0 iv bv→qNxt_inv iv0 bv0 k iv bv→∀ lf∈l,LfT (sta FI FB kv) qNxt.os (qNxt_inv iv0 bv0) (qNxt_mu iv0 bv0) k iv bv lf
theorem qNxt_o0:qNxt_ob 0 qNxt_L0:=by
 intro kv iv0 bv0 hin hF iv bv ha hi
 unfold qNxt_L0
 refine List.forall_mem_cons.2 ⟨?_,List.forall_mem_nil _⟩
 all_goals
  intro δ hf
 all_goals
  obtain ⟨b1,b2,b5,b6,b4⟩:=qNxt_b hin
 all_goals
  have a0:=ha.1 0 (by omega)
  have a1:=ha.1 1 (by omega)
  have a2:=ha.1 2 (by omega)
  have a3:=ha.1 3 (by omega)
  have a4:=ha.1 4 (by omega)
  have a5:=ha.1 5 (by omega)
  have a6:=ha.1 6 (by omega)
  have a7:=ha.1 7 (by omega)
  have a8:=ha.1 8 (by omega)
 all_goals
  simp only [FT,TP,SB.tp,SI.tv,sta,IB.eval,and_true,true_and,ObsT,Ob.Tv,rowT,kix,In.tiv,↓tbvT,In.tbv,get_cons,get_nil,reduceIte,Nat.reduceEqDiff,Int.reduceToNat,Int.reduceAdd,Int.reduceSub,Int.reduceLE,Int.reduceLT,Int.reduceEq,ne_eq,Bool.false_eq_true,not_true_eq_false,not_false_eq_true,true_iff,false_iff,iff_true,iff_false,false_implies,implies_true,decT,decide_true,decide_false,Bool.decide_eq_true,ap2,pb2,FI_3,FI_8,FI_9,FI_10,FB_10,FI_30,FB_30,FI_3g,FI_8m,Int.toNat_natCast,Int.toNat_zero,FI_60,FI_62,qNxt_inv,qNxt_mu,qNxt,o1,othT,bW,gW,fM,lW,ap3,pb3,pb4,ints,mayV,i64s,i64b,kW,two,b2,lmap,lapp,bFo,cap64,fnO,ap60,ap61,oNo,oOrd,kU,lH,gH,bH,fH,nxtH,nxt0,oNxt,a0,a1,a2,a3,a4,a5,a6,a7,a8] at hf hi ⊢
 all_goals
  (repeat' (with_reducible apply And.intro))<;>first
  | omega
  | assumption
  | (unfold inM;omega)
  | (exact allM_0)
theorem qNxt_o1:qNxt_ob 1 qNxt_L1:=by
 intro kv iv0 bv0 hin hF iv bv ha hi
 unfold qNxt_L1
 refine List.forall_mem_cons.2 ⟨?_,List.forall_mem_cons.2 ⟨?_,List.forall_mem_cons.2 ⟨?_,List.forall_mem_cons.2 ⟨?_,List.forall_mem_cons.2 ⟨?_,List.forall_mem_cons.2 ⟨?_,List.forall_mem_cons.2 ⟨?_,List.forall_mem_cons.2 ⟨?_,List.forall_mem_nil _⟩⟩⟩⟩⟩⟩⟩⟩
 all_goals
  intro δ hf
 all_goals
  obtain ⟨b1,b2,b5,b6,b4⟩:=qNxt_b hin
 all_goals
  have a0:=ha.1 0 (by omega)
  have a1:=ha.1 1 (by omega)
  have a2:=ha.1 2 (by omega)
  have a3:=ha.1 3 (by omega)
  have a4:=ha.1 4 (by omega)
  have a5:=ha.1 5 (by omega)
  have a6:=ha.1 6 (by omega)
  have a7:=ha.1 7 (by omega)
  have a8:=ha.1 8 (by omega)
 all_goals
  simp only [FT,TP,SB.tp,SI.tv,sta,IB.eval,and_true,true_and,ObsT,Ob.Tv,rowT,kix,In.tiv,↓tbvT,In.tbv,get_cons,get_nil,reduceIte,Nat.reduceEqDiff,Int.reduceToNat,Int.reduceAdd,Int.reduceSub,Int.reduceLE,Int.reduceLT,Int.reduceEq,ne_eq,Bool.false_eq_true,not_true_eq_false,not_false_eq_true,true_iff,false_iff,iff_true,iff_false,false_implies,implies_true,decT,decide_true,decide_false,Bool.decide_eq_true,ap2,pb2,FI_3,FI_8,FI_9,FI_10,FB_10,FI_30,FB_30,FI_3g,FI_8m,Int.toNat_natCast,Int.toNat_zero,FI_60,FI_62,qNxt_inv,qNxt_mu,qNxt,o1,othT,bW,gW,fM,lW,ap3,pb3,pb4,ints,mayV,i64s,i64b,kW,two,b2,lmap,lapp,bFo,cap64,fnO,ap60,ap61,oNo,oOrd,kU,lH,gH,bH,fH,nxtH,nxt0,oNxt,a0,a1,a2,a3,a4,a5,a6,a7,a8] at hf hi ⊢
 all_goals
  obtain ⟨g0,g1,g2⟩:=hi
 all_goals
  (repeat' (with_reducible apply And.intro))<;>first
  | omega
  | assumption
  | (unfold inM;omega)
  | (exact allM_suc g2 g0 (by unfold inM;omega))
  | (exact noN_0)
  | (rw [show iv0 5=iv 29 by omega];exact g2)
  | (refine nxt_none ?_;first | (right;right;right;left;exact allM_not g0 (by omega) (by unfold inM;omega)) | (left;exact hf.1) | (right;left;exact hf.1) | (right;right;left;exact hf.1))
  | (refine nxt_none ?_;right;right;right;right;intro j hj;omega)
  | (intro _ h;exact absurd h (nxt_none (.inr (.inr (.inr (.inl (allM_not g0 (by omega) (by unfold inM;omega))))))))
  | (clear hin hF ha;grind)
theorem qNxt_o2:qNxt_ob 2 qNxt_L2:=by
 intro kv iv0 bv0 hin hF iv bv ha hi
 unfold qNxt_L2
 refine List.forall_mem_cons.2 ⟨?_,List.forall_mem_cons.2 ⟨?_,List.forall_mem_nil _⟩⟩
 all_goals
  intro δ hf
 all_goals
  obtain ⟨b1,b2,b5,b6,b4⟩:=qNxt_b hin
 all_goals
  have a0:=ha.1 0 (by omega)
  have a1:=ha.1 1 (by omega)
  have a2:=ha.1 2 (by omega)
  have a3:=ha.1 3 (by omega)
  have a4:=ha.1 4 (by omega)
  have a5:=ha.1 5 (by omega)
  have a6:=ha.1 6 (by omega)
  have a7:=ha.1 7 (by omega)
  have a8:=ha.1 8 (by omega)
 all_goals
  simp only [FT,TP,SB.tp,SI.tv,sta,IB.eval,and_true,true_and,ObsT,Ob.Tv,rowT,kix,In.tiv,↓tbvT,In.tbv,get_cons,get_nil,reduceIte,Nat.reduceEqDiff,Int.reduceToNat,Int.reduceAdd,Int.reduceSub,Int.reduceLE,Int.reduceLT,Int.reduceEq,ne_eq,Bool.false_eq_true,not_true_eq_false,not_false_eq_true,true_iff,false_iff,iff_true,iff_false,false_implies,implies_true,decT,decide_true,decide_false,Bool.decide_eq_true,ap2,pb2,FI_3,FI_8,FI_9,FI_10,FB_10,FI_30,FB_30,FI_3g,FI_8m,Int.toNat_natCast,Int.toNat_zero,FI_60,FI_62,qNxt_inv,qNxt_mu,qNxt,o1,othT,bW,gW,fM,lW,ap3,pb3,pb4,ints,mayV,i64s,i64b,kW,two,b2,lmap,lapp,bFo,cap64,fnO,ap60,ap61,oNo,oOrd,kU,lH,gH,bH,fH,nxtH,nxt0,oNxt,a0,a1,a2,a3,a4,a5,a6,a7,a8] at hf hi ⊢
 all_goals
  obtain ⟨g0,g1,g2,g3⟩:=hi
 all_goals
  (repeat' (with_reducible apply And.intro))<;>first
  | omega
  | assumption
  | (unfold inM;omega)
  | (exact fitA_0)
  | (refine nxt_none ?_;right;right;right;right;rw [show iv0 1=iv 39 by omega];rw [show iv0 1=iv 39 by omega] at g3;exact g3)
  | (intro _ h;refine absurd h (nxt_none ?_);right;right;right;right;have e9:iv 39=iv0 1:=(by omega);rw [e9] at g3;exact g3)
  | (clear hin hF ha;grind)
theorem qNxt_o3:qNxt_ob 3 qNxt_L3:=by
 intro kv iv0 bv0 hin hF iv bv ha hi
 unfold qNxt_L3
 refine List.forall_mem_cons.2 ⟨?_,List.forall_mem_nil _⟩
 all_goals
  intro δ hf
 all_goals
  obtain ⟨b1,b2,b5,b6,b4⟩:=qNxt_b hin
 all_goals
  have a0:=ha.1 0 (by omega)
  have a1:=ha.1 1 (by omega)
  have a2:=ha.1 2 (by omega)
  have a3:=ha.1 3 (by omega)
  have a4:=ha.1 4 (by omega)
  have a5:=ha.1 5 (by omega)
  have a6:=ha.1 6 (by omega)
  have a7:=ha.1 7 (by omega)
  have a8:=ha.1 8 (by omega)
 all_goals
  simp only [FT,TP,SB.tp,SI.tv,sta,IB.eval,and_true,true_and,ObsT,Ob.Tv,rowT,kix,In.tiv,↓tbvT,In.tbv,get_cons,get_nil,reduceIte,Nat.reduceEqDiff,Int.reduceToNat,Int.reduceAdd,Int.reduceSub,Int.reduceLE,Int.reduceLT,Int.reduceEq,ne_eq,Bool.false_eq_true,not_true_eq_false,not_false_eq_true,true_iff,false_iff,iff_true,iff_false,false_implies,implies_true,decT,decide_true,decide_false,Bool.decide_eq_true,ap2,pb2,FI_3,FI_8,FI_9,FI_10,FB_10,FI_30,FB_30,FI_3g,FI_8m,Int.toNat_natCast,Int.toNat_zero,FI_60,FI_62,qNxt_inv,qNxt_mu,qNxt,o1,othT,bW,gW,fM,lW,ap3,pb3,pb4,ints,mayV,i64s,i64b,kW,two,b2,lmap,lapp,bFo,cap64,fnO,ap60,ap61,oNo,oOrd,kU,lH,gH,bH,fH,nxtH,nxt0,oNxt,a0,a1,a2,a3,a4,a5,a6,a7,a8] at hf hi ⊢
 all_goals
  (repeat' (with_reducible apply And.intro))<;>first
  | omega
  | assumption
  | (unfold inM;omega)
  | (clear hin hF ha;grind)
theorem qNxt_o4:qNxt_ob 4 qNxt_L4:=by
 intro kv iv0 bv0 hin hF iv bv ha hi
 unfold qNxt_L4
 refine List.forall_mem_cons.2 ⟨?_,List.forall_mem_cons.2 ⟨?_,List.forall_mem_cons.2 ⟨?_,List.forall_mem_cons.2 ⟨?_,List.forall_mem_cons.2 ⟨?_,List.forall_mem_nil _⟩⟩⟩⟩⟩
 all_goals
  intro δ hf
 all_goals
  obtain ⟨b1,b2,b5,b6,b4⟩:=qNxt_b hin
 all_goals
  have a0:=ha.1 0 (by omega)
  have a1:=ha.1 1 (by omega)
  have a2:=ha.1 2 (by omega)
  have a3:=ha.1 3 (by omega)
  have a4:=ha.1 4 (by omega)
  have a5:=ha.1 5 (by omega)
  have a6:=ha.1 6 (by omega)
  have a7:=ha.1 7 (by omega)
  have a8:=ha.1 8 (by omega)
 all_goals
  simp only [FT,TP,SB.tp,SI.tv,sta,IB.eval,and_true,true_and,ObsT,Ob.Tv,rowT,kix,In.tiv,↓tbvT,In.tbv,get_cons,get_nil,reduceIte,Nat.reduceEqDiff,Int.reduceToNat,Int.reduceAdd,Int.reduceSub,Int.reduceLE,Int.reduceLT,Int.reduceEq,ne_eq,Bool.false_eq_true,not_true_eq_false,not_false_eq_true,true_iff,false_iff,iff_true,iff_false,false_implies,implies_true,decT,decide_true,decide_false,Bool.decide_eq_true,ap2,pb2,FI_3,FI_8,FI_9,FI_10,FB_10,FI_30,FB_30,FI_3g,FI_8m,Int.toNat_natCast,Int.toNat_zero,FI_60,FI_62,qNxt_inv,qNxt_mu,qNxt,o1,othT,bW,gW,fM,lW,ap3,pb3,pb4,ints,mayV,i64s,i64b,kW,two,b2,lmap,lapp,bFo,cap64,fnO,ap60,ap61,oNo,oOrd,kU,lH,gH,bH,fH,nxtH,nxt0,oNxt,a0,a1,a2,a3,a4,a5,a6,a7,a8] at hf hi ⊢
 all_goals
  obtain ⟨g0,g1,g2,g3,g4,g5,g6⟩:=hi
 all_goals
  have hR:rgtW (iv0 0) (iv0 1):=by first | assumption | exact hf.1 | exact hf.2.1 | exact hf.2.2.1 | exact hf.2.2.2.1 | exact hf.2.2.2.2.1 | exact hf.2.2.2.2.2.1 | exact hf.2.2.2.2.2.2.1 | exact hf.2.2.2.2.2.2.2.1 | exact hf.2.2.2.2.2.2.2.2.1 | exact hf.2.2.2.2.2.2.2.2.2.1 | exact hf.2.2.2.2.2.2.2.2.2.2.1 | exact hf.2.2.2.2.2.2.2.2.2.2.2.1 | exact hf.2.2.2.2.2.2.2.2.2.2.2.2.1 | exact hf.2.2.2.2.2.2.2.2.2.2.2.2.2.1 | exact hf.2.2.2.2.2.2.2.2.2.2.2.2.2.2.1 | exact hf.2.2.2.2.2.2.2.2.2.2.2.2.2.2.2.1
 all_goals
  have hRn:=hR.1
 all_goals
  obtain ⟨w0,w1,w2⟩:=srt_at (c:=iv0 0) (n:=iv0 1) (lim:=iv0 4) (by omega) (k:=(iv 39).toNat) (by omega)
 all_goals
  have w22:=w2 2 (by omega)
 all_goals
  have w3:=rgt_mode hR w0 w1
 all_goals
  rw [← w22] at w3
 all_goals
  have g7:=fun hj=>g2 (iv 46).toNat hj
 all_goals
  (repeat' (with_reducible apply And.intro))<;>first
  | omega
  | assumption
  | (unfold inM;omega)
  | (exact pasA_0)
  | (exact fitA_suc g6 g4 (by clear hin hF ha;grind))
  | (exact noN_succ g3 g0 (may_nofit w22 g4 (by omega) (by clear hin hF ha;grind)))
  | (rw [show iv0 5=iv 46 by omega];exact g6)
  | (clear hin hF ha;grind)
theorem qNxt_o5:qNxt_ob 5 qNxt_L5:=by
 intro kv iv0 bv0 hin hF iv bv ha hi
 unfold qNxt_L5
 refine List.forall_mem_cons.2 ⟨?_,List.forall_mem_cons.2 ⟨?_,List.forall_mem_cons.2 ⟨?_,List.forall_mem_cons.2 ⟨?_,List.forall_mem_cons.2 ⟨?_,List.forall_mem_nil _⟩⟩⟩⟩⟩
 all_goals
  intro δ hf
 all_goals
  obtain ⟨b1,b2,b5,b6,b4⟩:=qNxt_b hin
 all_goals
  have a0:=ha.1 0 (by omega)
  have a1:=ha.1 1 (by omega)
  have a2:=ha.1 2 (by omega)
  have a3:=ha.1 3 (by omega)
  have a4:=ha.1 4 (by omega)
  have a5:=ha.1 5 (by omega)
  have a6:=ha.1 6 (by omega)
  have a7:=ha.1 7 (by omega)
  have a8:=ha.1 8 (by omega)
 all_goals
  simp only [FT,TP,SB.tp,SI.tv,sta,IB.eval,and_true,true_and,ObsT,Ob.Tv,rowT,kix,In.tiv,↓tbvT,In.tbv,get_cons,get_nil,reduceIte,Nat.reduceEqDiff,Int.reduceToNat,Int.reduceAdd,Int.reduceSub,Int.reduceLE,Int.reduceLT,Int.reduceEq,ne_eq,Bool.false_eq_true,not_true_eq_false,not_false_eq_true,true_iff,false_iff,iff_true,iff_false,false_implies,implies_true,decT,decide_true,decide_false,Bool.decide_eq_true,ap2,pb2,FI_3,FI_8,FI_9,FI_10,FB_10,FI_30,FB_30,FI_3g,FI_8m,Int.toNat_natCast,Int.toNat_zero,FI_60,FI_62,qNxt_inv,qNxt_mu,qNxt,o1,othT,bW,gW,fM,lW,ap3,pb3,pb4,ints,mayV,i64s,i64b,kW,two,b2,lmap,lapp,bFo,cap64,fnO,ap60,ap61,oNo,oOrd,kU,lH,gH,bH,fH,nxtH,nxt0,oNxt,a0,a1,a2,a3,a4,a5,a6,a7,a8] at hf hi ⊢
 all_goals
  obtain ⟨g0,g1,g2,g3,g4,g5,g6,g7⟩:=hi
 all_goals
  have hR:rgtW (iv0 0) (iv0 1):=by first | assumption | exact hf.1 | exact hf.2.1 | exact hf.2.2.1 | exact hf.2.2.2.1 | exact hf.2.2.2.2.1 | exact hf.2.2.2.2.2.1 | exact hf.2.2.2.2.2.2.1 | exact hf.2.2.2.2.2.2.2.1 | exact hf.2.2.2.2.2.2.2.2.1 | exact hf.2.2.2.2.2.2.2.2.2.1 | exact hf.2.2.2.2.2.2.2.2.2.2.1 | exact hf.2.2.2.2.2.2.2.2.2.2.2.1 | exact hf.2.2.2.2.2.2.2.2.2.2.2.2.1 | exact hf.2.2.2.2.2.2.2.2.2.2.2.2.2.1 | exact hf.2.2.2.2.2.2.2.2.2.2.2.2.2.2.1 | exact hf.2.2.2.2.2.2.2.2.2.2.2.2.2.2.2.1
 all_goals
  have hRn:=hR.1
 all_goals
  obtain ⟨w0,w1,w2⟩:=srt_at (c:=iv0 0) (n:=iv0 1) (lim:=iv0 4) (by omega) (k:=(iv 39).toNat) (by omega)
 all_goals
  have w22:=w2 2 (by omega)
 all_goals
  have w3:=rgt_mode hR w0 w1
 all_goals
  rw [← w22] at w3
 all_goals
  have g8:=fun hj=>rgt_mode hR (j:=iv 50) g4 hj
 all_goals
  have gN:iv 50=fl (srtW (iv0 0) (iv0 1) (iv0 4)) (iv 39).toNat 5→nxtW (iv0 0) (iv0 1) (iv0 4) (iv0 8) (iv0 5)=fl (srtW (iv0 0) (iv0 1) (iv0 4)) (iv 39).toNat 5:=fun e=>nxt_some hR (by omega) (by omega) g2 g0 g1 g3 (may_of w22 g6 (by rw [← e];exact g7))
 all_goals
  (repeat' (with_reducible apply And.intro))<;>first
  | omega
  | assumption
  | (unfold inM;omega)
  | (exact gN (by omega))
  | (rw [gN (by omega)];exact w1)
  | (rw [gN (by omega)];intro _ h;exact h w0)
  | (exact pasA_succ g7 g4 (by clear hin hF ha;grind))
  | (exact noN_succ g3 g0 (may_nopas w22 g4 (by omega) (by omega) (by clear hin hF ha;grind)))
  | (clear hin hF ha;grind)
theorem qNxt_c:LsC ((tm0 qNxt Try.f66 (Try.f66.body.getD .skip))::[qNxt_T1,qNxt_T2,qNxt_T3,qNxt_T4,qNxt_T5]) qNxt.os [qNxt_L0,qNxt_L1,qNxt_L2,qNxt_L3,qNxt_L4,qNxt_L5]:=by
 unfold qNxt_L0 qNxt_L1 qNxt_L2 qNxt_L3 qNxt_L4 qNxt_L5
 exact ⟨List.forall_mem_cons.2 ⟨⟨⟨_,rfl,rfl⟩,by kernel_rfl⟩,List.forall_mem_nil _⟩,List.forall_mem_cons.2 ⟨⟨⟨_,rfl,rfl⟩,by kernel_rfl⟩,List.forall_mem_cons.2 ⟨⟨⟨_,rfl,rfl⟩,by kernel_rfl⟩,List.forall_mem_cons.2 ⟨⟨⟨_,rfl,rfl⟩,by kernel_rfl⟩,List.forall_mem_cons.2 ⟨⟨⟨_,rfl,rfl⟩,by kernel_rfl⟩,List.forall_mem_cons.2 ⟨⟨⟨_,rfl,rfl⟩,by kernel_rfl⟩,List.forall_mem_cons.2 ⟨⟨⟨_,rfl,rfl⟩,by kernel_rfl⟩,List.forall_mem_cons.2 ⟨⟨⟨_,rfl,rfl⟩,by kernel_rfl⟩,List.forall_mem_cons.2 ⟨⟨⟨_,rfl,rfl⟩,by kernel_rfl⟩,List.forall_mem_nil _⟩⟩⟩⟩⟩⟩⟩⟩,List.forall_mem_cons.2 ⟨⟨⟨_,rfl,rfl⟩,by kernel_rfl⟩,List.forall_mem_cons.2 ⟨⟨⟨_,rfl,rfl⟩,by kernel_rfl⟩,List.forall_mem_nil _⟩⟩,List.forall_mem_cons.2 ⟨⟨⟨_,rfl,rfl⟩,by kernel_rfl⟩,List.forall_mem_nil _⟩,List.forall_mem_cons.2 ⟨⟨⟨_,rfl,rfl⟩,by kernel_rfl⟩,List.forall_mem_cons.2 ⟨⟨⟨_,rfl,rfl⟩,by kernel_rfl⟩,List.forall_mem_cons.2 ⟨⟨⟨_,rfl,rfl⟩,by kernel_rfl⟩,List.forall_mem_cons.2 ⟨trivial,List.forall_mem_cons.2 ⟨trivial,List.forall_mem_nil _⟩⟩⟩⟩⟩,List.forall_mem_cons.2 ⟨⟨⟨_,rfl,rfl⟩,by kernel_rfl⟩,List.forall_mem_cons.2 ⟨⟨⟨_,rfl,rfl⟩,by kernel_rfl⟩,List.forall_mem_cons.2 ⟨⟨⟨_,rfl,rfl⟩,by kernel_rfl⟩,List.forall_mem_cons.2 ⟨trivial,List.forall_mem_cons.2 ⟨⟨⟨_,rfl,rfl⟩,by kernel_rfl⟩,List.forall_mem_nil _⟩⟩⟩⟩⟩,trivial⟩
theorem qNxt_ok:qNxt.Ok Try.prog FI FB:=
 Con.of_plain (body:=Try.f66.body.getD .skip) pok fiok (EntsFor.cons qOrd_ok (EntsFor.cons wFits_ok EntsFor.nil)) qNxt Try.func66 (by kernel_rfl) 9 [qNxt_T1,qNxt_T2,qNxt_T3,qNxt_T4,qNxt_T5] (by kernel_rfl) [qNxt_L0,qNxt_L1,qNxt_L2,qNxt_L3,qNxt_L4,qNxt_L5] ⟨qNxt_h0,qNxt_h1,qNxt_h2,qNxt_h3,qNxt_h4,qNxt_h5,trivial⟩ qNxt_c
  qNxt_inv qNxt_mu (fun _ _ _=>trivial) fun kv iv0 bv0 hin hF k l iv bv hk ha hi=>match k,hk,hi with
  | 0,hk,hi=>by
    cases hk
    exact qNxt_o0 kv iv0 bv0 hin hF iv bv ha hi
  | 1,hk,hi=>by
    cases hk
    exact qNxt_o1 kv iv0 bv0 hin hF iv bv ha hi
  | 2,hk,hi=>by
    cases hk
    exact qNxt_o2 kv iv0 bv0 hin hF iv bv ha hi
  | 3,hk,hi=>by
    cases hk
    exact qNxt_o3 kv iv0 bv0 hin hF iv bv ha hi
  | 4,hk,hi=>by
    cases hk
    exact qNxt_o4 kv iv0 bv0 hin hF iv bv ha hi
  | 5,hk,hi=>by
    cases hk
    exact qNxt_o5 kv iv0 bv0 hin hF iv bv ha hi
  | k+6,hk,_=>by simp at hk
end
end Go.Sx.Mhw
