/- A symbolic executor: the other operations, and all of them together. -/
import Derived.Test.YtfgdpkceoadgjaaSxF
namespace Go.Sx
set_option linter.unusedSectionVars false
set_option linter.unusedVariables false
set_option linter.unusedSimpArgs false
open Go.RowKit
section
variable {cc:Cc} {C:Ct} {hc:Nat→Option Obj} {w0:World} {ρ ρ':Dyn} {H:Hp} {w:World}
theorem OpR.ok_congr {s s':Sem Next} {r:OpR} (h:r.Ok cc C hc w0 ρ H w s') (e:s.run cc.P w=s'.run cc.P w):r.Ok cc C hc w0 ρ H w s:=by
 cases r<;>simp only [OpR.Ok] at h ⊢<;>first | trivial | (rw [e];exact h) | exact h
noncomputable def opField (cc:Cc) (H:Hp) (t:TypeId) (x:SV) (f:Nat):OpR:=
 match cc.P.underlying t,x with
 | some (.struct fs),.pt r o=>match lnth fs.toList f with
   | some fd=>match aggOf cc.P fd.type with
     | some (_,n)=>bif Nat.beq n 0 then .bad 30 else .val (.pt r (SI.addc o (.ofNat fd.offset))) H
     | none=>.bad 31
   | none=>.bad 32
 | _,_=>.bad 33
theorem opField_ok (h:HpRel C hc w0 ρ H w) {t:TypeId} {x:SV} {u:Value} {f:Nat} (hx:x.Is C.σ ρ u):(opField cc H t x f).Ok cc C hc w0 ρ H w (do pure (.value (← Instr.fieldAt t u f))):=by
 unfold opField
 split
 ·rename_i fs r o hu
  split
  ·rename_i fd hf
   split
   ·rename_i g n ha
    cases hb:Nat.beq n 0 with
    | true=>trivial
    | false=>
      obtain ⟨_,h2,_⟩:=aggOf_ok ha w
      have hn:n≠0:=fun e=>by subst e;simp at hb
      simp only [SV.Is] at hx
      obtain ⟨b,k,e1,e2,rfl⟩:=hx
      rw [lnth_eq] at hf
      have hf':fs[f]? = some fd:=by simpa using hf
      refine OpR.ok_pure h (u:=.pointer (some ⟨b,k+fd.offset,none⟩)) ?_ ?_
      ·simp [Instr.fieldAt,underlying,hu,hf',Instr.sureAddr,fieldPlace,h2,hn,addr_add]
      ·simp only [SV.Is]
       exact ⟨b,k+fd.offset,e1,by rw [SI.addc_den e2];rfl,rfl⟩
   ·trivial
  ·trivial
 ·trivial
noncomputable def opGetField (cc:Cc) (H:Hp) (t:TypeId) (x:SV) (f:Nat):OpR:=
 match cc.P.underlying t,x with
 | some (.struct fs),.ag l=>match lnth fs.toList f with
   | some fd=>match partOf cc.P fd.type l fd.offset with
     | some z=>.val z H
     | none=>.bad 34
   | none=>.bad 35
 | _,_=>.bad 36
theorem opGetField_ok (h:HpRel C hc w0 ρ H w) {t:TypeId} {x:SV} {u:Value} {f:Nat} (hx:x.Is C.σ ρ u):(opGetField cc H t x f).Ok cc C hc w0 ρ H w (do pure (.value (← Instr.field t u f))):=by
 unfold opGetField
 split
 ·rename_i fs l hu
  split
  ·rename_i fd hf
   split
   ·rename_i z hz
    simp only [SV.Is] at hx
    obtain ⟨us,e1,rfl⟩:=hx
    rw [lnth_eq] at hf
    have hf':fs[f]? = some fd:=by simpa using hf
    obtain ⟨v,e2,e3⟩:=partOf_ok e1 hz w
    refine OpR.ok_pure h (u:=v) ?_ e3
    simp [Instr.field,underlying,hu,hf',asAgg,e2]
   ·trivial
  ·trivial
 ·trivial
noncomputable def need (cc:Cc) (H:Hp) (p:SB) (why:Nat) (r:OpR):OpR:=
 match dec (bdOf cc H) H.facts p with
 | .yes true=>r
 | .yes false=>.bad why
 | .ask q=>.ask q
theorem need_ok (hcc:cc.Ok C) (h:HpRel C hc w0 ρ H w) {p:SB} {b:Bool} {why:Nat} {r:OpR} {s:Sem Next} (hp:p.den C.σ ρ=some b) (hr:b=true→r.Ok cc C hc w0 ρ H w s):(need cc H p why r).Ok cc C hc w0 ρ H w s:=by
 unfold need
 split
 ·rename_i e;exact hr (dec_ok (bdOf_ok hcc h) h.facts hp e).symm
 ·trivial
 ·rename_i q e;exact ask_den (bdOf_ok hcc h) h.facts hp e
noncomputable def opIndexAddr (cc:Cc) (H:Hp) (t:TypeId) (x ix:SV):OpR:=
 match cc.P.underlying t,x,ix with
 | some (.array n e),.pt r o,.it _ i=>match aggOf cc.P e with
   | some (_,sz)=>need cc H (.le (.c 0) i) 40 (need cc H (.lt i (.c (.ofNat n))) 41 (.val (.pt r (SI.add o (SI.mul i (.c (.ofNat sz))))) H))
   | none=>.bad 42
 | some (.slice e),.sl r o l _,.it _ i=>match aggOf cc.P e with
   | some (_,sz)=>need cc H (.le (.c 0) i) 43 (need cc H (.lt i l) 44 (.val (.pt r (SI.add o (SI.mul i (.c (.ofNat sz))))) H))
   | none=>.bad 45
 | _,_,_=>.bad 46
theorem idx_den {o i:SI} {k:Nat} {x:Int} {sz:Nat} (ho:o.den C.σ ρ=some (Int.ofNat k)) (hi:i.den C.σ ρ=some x) (hx:0≤x) :
  (SI.add o (SI.mul i (.c (.ofNat sz)))).den C.σ ρ=some (Int.ofNat (k+x.toNat * sz)):=by
 rw [SI.add_den ho (SI.mul_den hi rfl)]
 congr 1
 obtain ⟨n,rfl⟩:∃ n:Nat,x=n:=⟨x.toNat,by omega⟩
 simp
theorem le_den0 {i:SI} {x:Int} (hi:i.den C.σ ρ=some x):(SB.le (.c 0) i).den C.σ ρ=some (decide (0≤x)):=by simp [SB.den,SI.den,hi]
theorem opIndexAddr_ok (hcc:cc.Ok C) (h:HpRel C hc w0 ρ H w) {t:TypeId} {x ix:SV} {u v:Value} (hx:x.Is C.σ ρ u) (hi:ix.Is C.σ ρ v):(opIndexAddr cc H t x ix).Ok cc C hc w0 ρ H w (do pure (.value (← Instr.indexAt t u v))):=by
 unfold opIndexAddr
 split
 ·rename_i n e r o k i hu
  split
  ·rename_i g sz ha
   simp only [SV.Is] at hx hi
   obtain ⟨b,q,e1,e2,rfl⟩:=hx
   obtain ⟨y,e3,rfl⟩:=hi
   obtain ⟨_,h2,_⟩:=aggOf_ok ha w
   refine need_ok hcc h (le_den0 e3) fun h0=>?_
   refine need_ok hcc h (b:=decide (y < n)) (by simp [SB.den,SI.den,e3]) fun h1=>?_
   have h0':0≤y:=by simpa using h0
   have h1':y < n:=by simpa using h1
   refine OpR.ok_pure h (u:=.pointer (some ⟨b,q+y.toNat * sz,none⟩)) ?_ ?_
   ·simp [Instr.indexAt,asIntOf,underlying,hu,Instr.sureAddr,h0',h1',h2,addr_add]
   ·simp only [SV.Is];exact ⟨b,_,e1,idx_den e2 e3 h0',rfl⟩
  ·trivial
 ·rename_i e r o l c k i hu
  split
  ·rename_i g sz ha
   simp only [SV.Is] at hx hi
   obtain ⟨b,q,len,cap,e1,e2,e2l,e2c,rfl⟩:=hx
   obtain ⟨y,e3,rfl⟩:=hi
   obtain ⟨_,h2,_⟩:=aggOf_ok ha w
   refine need_ok hcc h (le_den0 e3) fun h0=>?_
   refine need_ok hcc h (b:=decide (y < Int.ofNat len)) (by simp [SB.den,e3,e2l]) fun h1=>?_
   have h0':0≤y:=by simpa using h0
   have h1':y < len:=by simpa using h1
   refine OpR.ok_pure h (u:=.pointer (some ⟨b,q+y.toNat * sz,none⟩)) ?_ ?_
   ·simp [Instr.indexAt,asIntOf,underlying,hu,h0',h1',h2,addr_add]
   ·simp only [SV.Is];exact ⟨b,_,e1,idx_den e2 e3 h0',rfl⟩
  ·trivial
 ·trivial
noncomputable def pickS (cc:Cc) (H:Hp) (e sz:Nat) (l:List SV) (i:SI) (m':Nat) (ih:Nat→OpR) (j:Nat):OpR:=
 match m' with
 | 0=>match partOf cc.P e l (Nat.mul j sz) with | some z=>.val z H | none=>.bad 51
 | _=>match dec (bdOf cc H) H.facts (.eq i (.c (.ofNat j))) with
   | .yes true=>match partOf cc.P e l (Nat.mul j sz) with | some z=>.val z H | none=>.bad 52
   | .yes false=>ih (Nat.succ j)
   | .ask q=>.ask q
noncomputable def pickAt (cc:Cc) (H:Hp) (e sz:Nat) (l:List SV) (i:SI) (m:Nat):Nat→OpR:=
 Nat.rec (motive:=fun _=>Nat→OpR) (fun _=>.bad 50) (fun m' ih=>pickS cc H e sz l i m' ih) m
def byteAt (s:ByteArray) (i:Int):Option UInt8:=match i with | .ofNat n=>s[n]? | .negSucc _=>none
noncomputable def opIndex (cc:Cc) (H:Hp) (t:TypeId) (x ix:SV):OpR:=
 match cc.P.underlying t,x,ix with
 | some .string,.st (.c s),.it _ (.c i)=>match byteAt s i with
   | some b=>.val (.it .u8 (.c (.ofNat b.toNat))) H
   | none=>.bad 57
 | some (.array n e),.ag l,.it _ i=>match aggOf cc.P e with
   | some (_,sz)=>need cc H (.le (.c 0) i) 53 (need cc H (.lt i (.c (.ofNat n))) 54 (pickAt cc H e sz l i n 0))
   | none=>.bad 55
 | _,_,_=>.bad 56
theorem opIndex_ok (hcc:cc.Ok C) (h:HpRel C hc w0 ρ H w) {t:TypeId} {x ix:SV} {u v:Value} (hx:x.Is C.σ ρ u) (hi:ix.Is C.σ ρ v):(opIndex cc H t x ix).Ok cc C hc w0 ρ H w (do pure (.value (← Instr.index t u v))):=by
 unfold opIndex
 split
 ·rename_i s k i hu
  split
  ·rename_i b hb
   simp only [SV.Is,SS.den] at hx hi
   subst hx
   obtain ⟨y,e3,rfl⟩:=hi
   simp only [SI.den,Option.some.injEq] at e3
   subst e3
   refine OpR.ok_pure h (u:=.int .u8 b.toNat) ?_ (by simp only [SV.Is];exact ⟨_,rfl,rfl⟩)
   cases i with
   | ofNat n=>
     have hb':s[n]? = some b:=hb
     simp [Instr.index,asIntOf,underlying,hu,hb']
   | negSucc n=>cases hb
  ·trivial
 ·rename_i n e l k i hu
  split
  ·rename_i g sz ha
   simp only [SV.Is] at hx hi
   obtain ⟨us,e1,rfl⟩:=hx
   obtain ⟨y,e3,rfl⟩:=hi
   obtain ⟨_,h2,_⟩:=aggOf_ok ha w
   refine need_ok hcc h (le_den0 e3) fun h0=>?_
   refine need_ok hcc h (b:=decide (y < n)) (by simp [SB.den,SI.den,e3]) fun h1=>?_
   have h0':0≤y:=by simpa using h0
   have h1':y < n:=by simpa using h1
   have done:∀ j:Nat,y=j→∀ z,partOf cc.P e l (Nat.mul j sz)=some z→(OpR.val z H).Ok cc C hc w0 ρ H w (do pure (.value (← Instr.index t (.agg us.toArray) (.int k y)))):=by
    intro j hj z hz
    obtain ⟨v,e4,e5⟩:=partOf_ok e1 hz w
    have e4':(part e us.toArray (j * sz)).run cc.P w=.ok v w:=e4
    refine OpR.ok_pure h (u:=v) ?_ e5
    subst hj
    have hjn:j < n:=by omega
    simp [Instr.index,asIntOf,underlying,hu,hjn,h2,e4']
   have key:∀ (m j:Nat),(j:Int)≤y→y < (j:Int)+m→(pickAt cc H e sz l i m j).Ok cc C hc w0 ρ H w (do pure (.value (← Instr.index t (.agg us.toArray) (.int k y)))):=by
    intro m
    induction m with
    | zero=>intro j h3 h4;omega
    | succ m ih=>
      intro j h3 h4
      show OpR.Ok cc C hc w0 ρ H w _ (pickS cc H e sz l i m (pickAt cc H e sz l i m) j)
      have hd:(SB.eq i (.c (.ofNat j))).den C.σ ρ=some (decide (y=j)):=by simp [SB.den,SI.den,e3]
      cases m with
      | zero=>
        simp only [pickS]
        split
        ·rename_i z hz;exact done j (by omega) z hz
        ·trivial
      | succ m=>
        simp only [pickS]
        split
        ·rename_i he
         have:=dec_ok (bdOf_ok hcc h) h.facts hd he
         have hy:y=j:=by simpa using this.symm
         split
         ·rename_i z hz;exact done j hy z hz
         ·trivial
        ·rename_i he
         have:=dec_ok (bdOf_ok hcc h) h.facts hd he
         have hy:¬ y=j:=by simpa using this.symm
         exact ih (j+1) (by omega) (by omega)
        ·rename_i q he
         exact ask_den (bdOf_ok hcc h) h.facts hd he
   exact key n 0 (by omega) (by omega)
  ·trivial
 ·trivial
def bndE (x:Option SV) (d:SI):Option SI:=
 match x with
 | none=>some d
 | some (.it _ e)=>some e
 | some _=>none
noncomputable def bndT (cc:Cc) (H:Hp) (x:Option SV) (e y:SI) (r:OpR):OpR:=
 match x with
 | none=>r
 | some _=>need cc H (.le (.c 0) e) 60 (need cc H (.le e y) 61 r)
noncomputable def slc (cc:Cc) (H:Hp) (r:SR) (o l h m:SI) (sz:Nat):OpR:=
 match l with
 | .c 0=>.val (.sl r o h m) H
 | l=>match dec (bdOf cc H) H.facts (.eq m l) with
   | .yes true=>.val (.sl r o (SI.sub h l) (SI.sub m l)) H
   | .yes false=>.val (.sl r (SI.add o (SI.mul l (.c (.ofNat sz)))) (SI.sub h l) (SI.sub m l)) H
   | .ask _=>match dec (bdOf cc H) H.facts (.eq h l) with
     | .yes true=>.val (.sl r (SI.add o (SI.mul (SI.mul l (.c (.ofNat sz))) (.op .imin (SI.sub m l) (.c 1)))) (.c 0) (SI.sub m l)) H
     | .yes false=>.val (.sl r (SI.add o (SI.mul l (.c (.ofNat sz)))) (SI.sub h l) (SI.sub m l)) H
     | .ask q=>.ask q
noncomputable def opSlice (cc:Cc) (H:Hp) (t:TypeId) (x:SV) (lo hi mx:Option SV):OpR:=
 match cc.P.underlying t,x with
 | some (.array n e),.pt r o=>match aggOf cc.P e,bndE mx (.c (.ofNat n)),bndE hi (.c (.ofNat n)),bndE lo (.c 0) with
   | some (_,sz),some m,some h,some l=>match hi,mx with
     | none,some _=>.bad 62
     | _,_=>bndT cc H mx m (.c (.ofNat n)) (bndT cc H hi h m (bndT cc H lo l h (slc cc H r o l h m sz)))
   | _,_,_,_=>.bad 63
 | some (.slice e),.sl r o ln cp=>match aggOf cc.P e,bndE mx cp,bndE hi ln,bndE lo (.c 0) with
   | some (_,sz),some m,some h,some l=>match hi,mx with
     | none,some _=>.bad 64
     | _,_=>bndT cc H mx m cp (bndT cc H hi h m (bndT cc H lo l h (need cc H (.le h m) 65 (slc cc H r o l h m sz))))
   | _,_,_,_=>.bad 66
 | some (.slice e),.sn=>match aggOf cc.P e,bndE mx (.c 0),bndE hi (.c 0),bndE lo (.c 0) with
   | some _,some m,some h,some l=>match hi,mx with
     | none,some _=>.bad 67
     | _,_=>bndT cc H mx m (.c 0) (bndT cc H hi h m (bndT cc H lo l h (.val .sn H)))
   | _,_,_,_=>.bad 68
 | _,_=>.bad 69
theorem bndE_ok {x:Option SV} {d:SI} {e:SI} {u:Option Value} {dv:Int} (hx:match x,u with | none,none=>True | some z,some v=>z.Is C.σ ρ v | _,_=>False) (hd:d.den C.σ ρ=some dv) (h:bndE x d=some e) :
  ∃ y,e.den C.σ ρ=some y∧(match u with | none=>y=dv | some v=>∃ k,v=.int k y):=by
 unfold bndE at h
 split at h
 ·cases h
  cases u with
  | none=>exact ⟨dv,hd,rfl⟩
  | some v=>exact hx.elim
 ·cases h
  cases u with
  | none=>exact hx.elim
  | some v=>
    simp only [SV.Is] at hx
    obtain ⟨y,e1,rfl⟩:=hx
    exact ⟨y,e1,_,rfl⟩
 ·cases h
theorem bndT_ok (hcc:cc.Ok C) (h:HpRel C hc w0 ρ H w) {x:Option SV} {e y:SI} {r:OpR} {s:Sem Next} {a b:Int} (he:e.den C.σ ρ=some a) (hy:y.den C.σ ρ=some b) (hr:(x=none∨(0≤a∧a≤b))→r.Ok cc C hc w0 ρ H w s) :
  (bndT cc H x e y r).Ok cc C hc w0 ρ H w s:=by
 unfold bndT
 split
 ·exact hr (.inl rfl)
 ·refine need_ok hcc h (le_den0 he) fun h0=>?_
  refine need_ok hcc h (b:=decide (a≤b)) (by simp [SB.den,he,hy]) fun h1=>?_
  exact hr (.inr ⟨by simpa using h0,by simpa using h1⟩)
theorem run_sliceBound {k:IntKind} {i:Int} {y:Nat} {code:BoundsCode} (h:0≤i∧i≤y) (P:Program) (w:World):(Instr.sliceBound (.int k i) y code).run P w=.ok i.toNat w:=by
 simp [Instr.sliceBound,asIntOf,h.1,h.2]
theorem run_bounds {isS:Bool} {len cap:Nat} {lo hi mx:Option Value} {l h m:Int} (hm:match mx with | none=>m=cap | some v=>(∃ k,v=.int k m)∧0≤m∧m≤cap)
  (hh:match hi with | none=>h=len∧mx=none | some v=>(∃ k,v=.int k h)∧0≤h∧h≤m) (hl:match lo with | none=>l=0 | some v=>(∃ k,v=.int k l)∧0≤l∧l≤h) (hh0:0≤h) (P:Program) (w:World) :
  (Instr.sliceBounds isS len cap lo hi mx).run P w=.ok (l.toNat,h.toNat,m.toNat) w:=by
 cases mx with
 | none=>
   dsimp only at hm
   subst hm
   cases hi with
   | none=>
     obtain ⟨rfl,_⟩:=hh
     cases lo with
     | none=>dsimp only at hl;subst hl;simp [Instr.sliceBounds]
     | some v=>obtain ⟨⟨k,rfl⟩,h1,h2⟩:=hl;simp [Instr.sliceBounds,run_sliceBound ⟨h1,h2⟩]
   | some v=>
     obtain ⟨⟨k,rfl⟩,h1,h2⟩:=hh
     cases lo with
     | none=>dsimp only at hl;subst hl;simp [Instr.sliceBounds,run_sliceBound ⟨h1,h2⟩]
     | some v=>obtain ⟨⟨k',rfl⟩,h3,h4⟩:=hl;simp [Instr.sliceBounds,run_sliceBound ⟨h1,h2⟩,run_sliceBound (y:=h.toNat) ⟨h3,by omega⟩]
 | some v=>
   obtain ⟨⟨k,rfl⟩,h1,h2⟩:=hm
   cases hi with
   | none=>obtain ⟨_,h3⟩:=hh;cases h3
   | some v=>
     obtain ⟨⟨k',rfl⟩,h3,h4⟩:=hh
     cases lo with
     | none=>dsimp only at hl;subst hl;simp [Instr.sliceBounds,run_sliceBound ⟨h1,h2⟩,run_sliceBound (y:=m.toNat) ⟨h3,by omega⟩]
     | some v=>obtain ⟨⟨k'',rfl⟩,h5,h6⟩:=hl;simp [Instr.sliceBounds,run_sliceBound ⟨h1,h2⟩,run_sliceBound (y:=m.toNat) ⟨h3,by omega⟩,run_sliceBound (y:=h.toNat) ⟨h5,by omega⟩]
theorem slc_ok (hcc:cc.Ok C) (h:HpRel C hc w0 ρ H w) {r:SR} {o l hh m:SI} {sz b k:Nat} {x y z:Int} (hr:r.den C.σ ρ=some b) (ho:o.den C.σ ρ=some (Int.ofNat k)) (hl:l.den C.σ ρ=some x) (hhh:hh.den C.σ ρ=some y) (hm:m.den C.σ ρ=some z)
  (h0:0≤x) (h1:x≤y) (h2:y≤z) {s:Sem Value} (hs:s.run cc.P w=.ok (.slice (some (if z.toNat=x.toNat then ⟨b,k,none⟩ else (⟨b,k,none⟩:Addr).add (x.toNat * sz))) (y.toNat - x.toNat) (z.toNat - x.toNat)) w) :
  (slc cc H r o l hh m sz).Ok cc C hc w0 ρ H w (do pure (.value (← s))):=by
 have hy:y=Int.ofNat y.toNat:=by simp;omega
 have hz:z=Int.ofNat z.toNat:=by simp;omega
 unfold slc
 split
 ·simp only [SI.den,Option.some.injEq] at hl
  subst hl
  refine OpR.ok_pure h hs ?_
  simp only [SV.Is]
  refine ⟨b,k,y.toNat,z.toNat,hr,ho,by rw [hhh,← hy],by rw [hm,← hz],?_⟩
  simp [addr_add]
 ·have hd:(SB.eq m l).den C.σ ρ=some (decide (z=x)):=by simp [SB.den,hm,hl]
  have e1:(SI.sub hh l).den C.σ ρ=some (Int.ofNat (y.toNat - x.toNat)):=by rw [SI.sub_den hhh hl];congr 1;simp;omega
  have e2:(SI.sub m l).den C.σ ρ=some (Int.ofNat (z.toNat - x.toNat)):=by rw [SI.sub_den hm hl];congr 1;simp;omega
  split
  ·rename_i e
   have:=dec_ok (bdOf_ok hcc h) h.facts hd e
   have hzx:z=x:=by simpa using this.symm
   refine OpR.ok_pure h hs ?_
   simp only [SV.Is]
   exact ⟨b,k,_,_,hr,ho,e1,e2,by simp [hzx]⟩
  ·rename_i e
   have:=dec_ok (bdOf_ok hcc h) h.facts hd e
   have hzx:¬ z=x:=by simpa using this.symm
   refine OpR.ok_pure h hs ?_
   simp only [SV.Is]
   refine ⟨b,k+x.toNat * sz,_,_,hr,idx_den ho hl h0,e1,e2,?_⟩
   rw [if_neg (by omega),addr_add]
  ·have hd2:(SB.eq hh l).den C.σ ρ=some (decide (y=x)):=by simp [SB.den,hhh,hl]
   split
   ·rename_i e
    have:=dec_ok (bdOf_ok hcc h) h.facts hd2 e
    have hyx:y=x:=by simpa using this.symm
    refine OpR.ok_pure h hs ?_
    simp only [SV.Is]
    have e3:(SI.mul l (.c (.ofNat sz))).den C.σ ρ=some (x * Int.ofNat sz):=SI.mul_den hl rfl
    have e4:(SI.op .imin (SI.sub m l) (.c 1)).den C.σ ρ=some (IB.imin.eval (Int.ofNat (z.toNat - x.toNat)) 1):=by simp [SI.den,e2]
    have e5:=SI.add_den ho (SI.mul_den e3 e4)
    refine ⟨b,(if z.toNat=x.toNat then k else k+x.toNat * sz),0,_,hr,?_,rfl,e2,?_⟩
    ·rw [e5];congr 1
     have hx':x=Int.ofNat x.toNat:=by simp;omega
     by_cases hc:z.toNat=x.toNat
     ·rw [if_pos hc]
      have:z.toNat - x.toNat=0:=by omega
      rw [this]
      show Int.ofNat k+x * Int.ofNat sz * (if (1:Int) < Int.ofNat 0 then 1 else Int.ofNat 0)=Int.ofNat k
      simp
     ·rw [if_neg hc]
      have h1:IB.imin.eval (Int.ofNat (z.toNat - x.toNat)) 1=1:=by
       show (if (1:Int) < Int.ofNat (z.toNat - x.toNat) then (1:Int) else Int.ofNat (z.toNat - x.toNat))=1
       split
       ·rfl
       ·rename_i hn
        have:(Int.ofNat (z.toNat - x.toNat))=((z.toNat - x.toNat:Nat):Int):=rfl
        omega
      rw [h1,Int.mul_one]
      show (k:Int)+x * (sz:Int)=((k+x.toNat * sz:Nat):Int)
      rw [Int.natCast_add,Int.natCast_mul,Int.toNat_of_nonneg h0]
    ·have:y.toNat - x.toNat=0:=by omega
     rw [this]
     by_cases hc:z.toNat=x.toNat
     ·rw [if_pos hc,if_pos hc]
     ·rw [if_neg hc,if_neg hc,addr_add]
   ·rename_i e
    have:=dec_ok (bdOf_ok hcc h) h.facts hd2 e
    have hyx:¬ y=x:=by simpa using this.symm
    refine OpR.ok_pure h hs ?_
    simp only [SV.Is]
    refine ⟨b,k+x.toNat * sz,_,_,hr,idx_den ho hl h0,e1,e2,?_⟩
    rw [if_neg (by omega),addr_add]
   ·rename_i q e
    exact ask_den (bdOf_ok hcc h) h.facts hd2 e
def OIs (σ:Sta) (ρ:Dyn) (x:Option SV) (u:Option Value):Prop:=match x,u with | none,none=>True | some z,some v=>z.Is σ ρ v | _,_=>False
theorem opSlice_ok (hcc:cc.Ok C) (h:HpRel C hc w0 ρ H w) {t:TypeId} {x:SV} {u:Value} {lo hi mx:Option SV} {ul uh um:Option Value} (hx:x.Is C.σ ρ u) (hlo:OIs C.σ ρ lo ul) (hhi:OIs C.σ ρ hi uh) (hmx:OIs C.σ ρ mx um) :
  (opSlice cc H t x lo hi mx).Ok cc C hc w0 ρ H w (do pure (.value (← Instr.sliceAt t u ul uh um))):=by
 have none_iff:∀ {x:Option SV} {v:Option Value},OIs C.σ ρ x v→(x=none→v=none)∧(v=none→x=none):=by
  intro x v hxv
  cases x<;>cases v<;>first | exact ⟨fun _=>rfl,fun _=>rfl⟩ | exact hxv.elim | exact ⟨(fun e=>by cases e),(fun e=>by cases e)⟩
 have main:∀ (isS:Bool) (len cap:Nat) (cp ln m hh l:SI),cp.den C.σ ρ=some (Int.ofNat cap)→ln.den C.σ ρ=some (Int.ofNat len)→bndE mx cp=some m→bndE hi ln=some hh→bndE lo (.c 0)=some l→
   (hi=none→mx=none)→∀ (r:OpR) (s:Sem Next),(∀ a b c:Int,m.den C.σ ρ=some c→hh.den C.σ ρ=some b→l.den C.σ ρ=some a→0≤a→a≤b→0≤b→(hi=none→b=len)→(hi≠none→b≤c)→(c≤cap)→(mx=none→c=cap)→
    (Instr.sliceBounds isS len cap ul uh um).run cc.P w=.ok (a.toNat,b.toNat,c.toNat) w→r.Ok cc C hc w0 ρ H w s)→
   (bndT cc H mx m cp (bndT cc H hi hh m (bndT cc H lo l hh r))).Ok cc C hc w0 ρ H w s:=by
  intro isS len cap cp ln m hh l hcp hln hm hhh hl hnone r s hr
  obtain ⟨c,c1,c2⟩:=bndE_ok hmx hcp hm
  obtain ⟨b,b1,b2⟩:=bndE_ok hhi hln hhh
  obtain ⟨a,a1,a2⟩:=bndE_ok (dv:=0) hlo rfl hl
  refine bndT_ok hcc h c1 hcp fun k1=>?_
  refine bndT_ok hcc h b1 c1 fun k2=>?_
  refine bndT_ok hcc h a1 b1 fun k3=>?_
  have hb0:0≤b:=by
   cases uh with
   | none=>dsimp only at b2;subst b2;simp
   | some v=>rcases k2 with k2 | k2
             ·have:=(none_iff hhi).1 k2;cases this
             ·exact k2.1
  have hcc':c≤cap:=by
   cases um with
   | none=>dsimp only at c2;subst c2;simp
   | some v=>rcases k1 with k1 | k1
             ·have:=(none_iff hmx).1 k1;cases this
             ·exact k1.2
  have ha:0≤a∧a≤b:=by
   cases ul with
   | none=>dsimp only at a2;subst a2;exact ⟨Int.le_refl _,hb0⟩
   | some v=>rcases k3 with k3 | k3
             ·have:=(none_iff hlo).1 k3;cases this
             ·exact k3
  refine hr a b c c1 b1 a1 ha.1 ha.2 hb0 ?_ ?_ hcc' ?_ ?_
  ·intro e
   have:=(none_iff hhi).1 e;subst this
   exact b2
  ·intro e
   rcases k2 with k2 | k2
   ·exact absurd k2 e
   ·exact k2.2
  ·intro e
   have:=(none_iff hmx).1 e;subst this
   exact c2
  ·refine run_bounds ?_ ?_ ?_ hb0 cc.P w
   ·cases um with
    | none=>exact c2
    | some v=>rcases k1 with k1 | k1
              ·have:=(none_iff hmx).1 k1;cases this
              ·exact ⟨c2,k1⟩
   ·cases uh with
    | none=>exact ⟨b2,(none_iff hmx).1 (hnone ((none_iff hhi).2 rfl))⟩
    | some v=>rcases k2 with k2 | k2
              ·have:=(none_iff hhi).1 k2;cases this
              ·exact ⟨b2,k2⟩
   ·cases ul with
    | none=>exact a2
    | some v=>rcases k3 with k3 | k3
              ·have:=(none_iff hlo).1 k3;cases this
              ·exact ⟨a2,k3⟩
 unfold opSlice
 split
 ·rename_i n e r o hu
  split
  ·rename_i g sz m hh l ha hm hhh hl
   simp only [SV.Is] at hx
   obtain ⟨b,k,e1,e2,rfl⟩:=hx
   obtain ⟨_,h2,_⟩:=aggOf_ok ha w
   split
   ·trivial
   ·rename_i hno
    refine main false n n (.c (.ofNat n)) (.c (.ofNat n)) m hh l rfl rfl hm hhh hl (fun eh=>?_) _ _ ?_
    ·cases mx with
     | none=>rfl
     | some v=>exact (hno v eh rfl).elim
    ·intro x y z hz hy hx' h0 h1 h3 h4 h5 h6 h7 hrun
     have hyz:y≤z:=by
      by_cases e:hi=none
      ·have:=h4 e
       have hmn:mx=none:=by
        cases mx with
        | none=>rfl
        | some v=>exact (hno v e rfl).elim
       have:=h7 hmn;omega
      ·exact h5 e
     exact slc_ok hcc h e1 e2 hx' hy hz h0 h1 hyz (by
      simp [Instr.sliceAt,underlying,hu,Instr.sureAddr,hrun,h2])
  ·trivial
 ·rename_i e r o ln cp hu
  split
  ·rename_i g sz m hh l ha hm hhh hl
   simp only [SV.Is] at hx
   obtain ⟨b,k,len,cap,e1,e2,e3,e4,rfl⟩:=hx
   obtain ⟨_,h2,_⟩:=aggOf_ok ha w
   split
   ·trivial
   ·rename_i hno
    refine main true len cap cp ln m hh l e4 e3 hm hhh hl (fun eh=>?_) _ _ ?_
    ·cases mx with
     | none=>rfl
     | some v=>exact (hno v eh rfl).elim
    ·intro x y z hz hy hx' h0 h1 h3 h4 h5 h6 h7 hrun
     refine need_ok hcc h (b:=decide (y≤z)) (by simp [SB.den,hy,hz]) fun h8=>?_
     have hyz:y≤z:=by simpa using h8
     exact slc_ok hcc h e1 e2 hx' hy hz h0 h1 hyz (by
      simp only [Instr.sliceAt,underlying,hu,Instr.slice,Sem.run_bind,run_program,Result.andThen_ok,Sem.run_pure,hrun,h2,Option.map_some]
      split<;>rfl)
  ·trivial
 ·rename_i e hu
  split
  ·rename_i g m hh l ha hm hhh hl
   simp only [SV.Is] at hx
   subst hx
   obtain ⟨_,h2,_⟩:=aggOf_ok ha w
   split
   ·trivial
   ·rename_i hno
    refine main true 0 0 (.c 0) (.c 0) m hh l rfl rfl hm hhh hl (fun eh=>?_) _ _ ?_
    ·cases mx with
     | none=>rfl
     | some v=>exact (hno v eh rfl).elim
    ·intro x y z hz hy hx' h0 h1 h3 h4 h5 h6 h7 hrun
     have hz0:z≤0:=by simpa using h6
     have hyz:y≤0:=by
      by_cases e:hi=none
      ·have:=h4 e;omega
      ·have:=h5 e;omega
     have ex:x=0:=by omega
     have ey:y=0:=by omega
     have ez:z.toNat=0:=by omega
     subst ex;subst ey
     refine OpR.ok_pure h (u:=.slice none 0 0) ?_ (by simp [SV.Is])
     simp only [Instr.sliceAt,underlying,hu,Instr.slice,Sem.run_bind,run_program,Result.andThen_ok,Sem.run_pure,hrun,h2,Option.map_none]
     simp [ez]
  ·trivial
 ·trivial
end
end Go.Sx
