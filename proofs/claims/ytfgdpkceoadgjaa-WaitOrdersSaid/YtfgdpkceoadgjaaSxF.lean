/- A symbolic executor: one operation. -/
import Derived.Test.YtfgdpkceoadgjaaSxE
namespace Go.Sx
set_option linter.unusedSectionVars false
set_option linter.unusedVariables false
set_option linter.unusedSimpArgs false
open Go.RowKit
inductive OpR where
 | val (z:SV) (H:Hp)
 | enter (f:FuncId) (args:List SV)
 | round (id:Nat) (args:List SV)
 | ask (p:SB)
 | bad (why:Nat)
section
variable {cc:Cc} {C:Ct} {hc:Nat→Option Obj} {w0:World} {ρ ρ':Dyn} {H:Hp} {w:World}
def OpR.Ok (cc:Cc) (C:Ct) (hc:Nat→Option Obj) (w0:World) (ρ:Dyn) (H:Hp) (w:World) (s:Sem Next):OpR→Prop
 | .val z H'=>∃ ρ' n u w',Tn ρ H w ρ' H' w'∧s.run cc.P w=.ok n w'∧(n=.value u∨(n=.skip∧u=undef))∧z.Is C.σ ρ' u∧HpRel C hc w0 ρ' H' w'
 | .enter f args=>∃ us,s.run cc.P w=.ok (.enter f us.toArray) w∧SV.IsL C.σ ρ args us∧∃ fn c,cc.P.funcs[f]? = some fn∧fn.body=some c
 | .round id args=>∃ b us,ρ.bl id=some b∧s.run cc.P w=(Instr.yield b us.toArray).run cc.P w∧SV.IsL C.σ ρ args us
 | .ask p=>∃ b,p.den C.σ ρ=some b
 | .bad _=>True
theorem OpR.ok_pure (h:HpRel C hc w0 ρ H w) {s:Sem Value} {z:SV} {u:Value} (hr:s.run cc.P w=.ok u w) (hz:z.Is C.σ ρ u) :
  (OpR.val z H).Ok cc C hc w0 ρ H w (do pure (.value (← s))):=
 ⟨ρ,.value u,u,w,Tn.refl ρ H w,by simp [hr],.inl rfl,hz,h⟩
noncomputable def ev (T:List (Nat×SV)) (x:Operand):SV:=
 match x with
 | .tmp t=>match get T t with | some z=>z | none=>.any
 | .const v=>ofVal v
 | .global g=>.pt (.g g) (.c 0)
 | .func f=>.fn f [] []
noncomputable def evs (T:List (Nat×SV)) (xs:Array Operand):List SV:=lmap (ev T) xs.toList
def EvOk (C:Ct) (ρ:Dyn) (T:List (Nat×SV)) (e:Operand→Value):Prop:=∀ x,(ev T x).Is C.σ ρ (e x)
theorem evs_is {T:List (Nat×SV)} {e:Operand→Value} (h:EvOk C ρ T e) (xs:Array Operand):SV.IsL C.σ ρ (evs T xs) (xs.map e).toList:=by
 unfold evs
 rw [lmap_eq,Array.toList_map]
 generalize xs.toList=l
 induction l with
 | nil=>simp [SV.isL_nil]
 | cons a l ih=>exact SV.isL_cons.2 ⟨e a,l.map e,rfl,h a,ih⟩
theorem evOk_of {nt:Nat} {T:List (Nat×SV)} {a:Act} (h:TmRel C.σ ρ nt T a.tmps):EvOk C ρ T a.eval:=by
 intro x
 cases x with
 | tmp t=>
   simp only [ev,Act.eval]
   cases hg:get T t with
   | none=>simp [SV.Is]
   | some z=>exact h.get t z hg
 | const v=>exact ofVal_is v
 | global g=>simp only [ev,Act.eval,SV.Is];exact ⟨g,0,rfl,rfl,rfl⟩
 | func f=>simp only [ev,Act.eval,SV.Is,SV.IsL];exact ⟨[],[],rfl,rfl,rfl⟩
noncomputable def nrm (cc:Cc) (H:Hp) (p:SB):SB:=match dec (bdOf cc H) H.facts p with | .yes b=>.c b | .ask _=>p
theorem nrm_den (hcc:cc.Ok C) (h:HpRel C hc w0 ρ H w) {p:SB} {b:Bool} (hp:p.den C.σ ρ=some b):(nrm cc H p).den C.σ ρ=some b:=by
 unfold nrm
 split
 ·rename_i b' e
  rw [dec_ok (bdOf_ok hcc h) h.facts hp e];rfl
 ·exact hp
noncomputable def newV (H:Hp) (t:TypeId) (x:SV):OpR:=
 match x.cells with
 | some cs=>.val (.pt (.n H.nb) (.c 0)) (H.alloc (.cells cs t))
 | none=>.bad 1
theorem newV_ok (h:HpRel C hc w0 ρ H w) {t:TypeId} {x:SV} {u:Value} (hx:x.Is C.σ ρ u) :
  (newV H t x).Ok cc C hc w0 ρ H w (do pure (.value (← (do pure (.pointer (some (← newVar t u)))) ))):=by
 unfold newV
 split
 ·rename_i cs hcs
  have hle:=h.le_alloc w.heap.size
  refine ⟨ρ.setBl H.nb w.heap.size,.value (.pointer (some ⟨w.heap.size,0,none⟩)),.pointer (some ⟨w.heap.size,0,none⟩),w.alloc (.cells u.cells t),Tn.of_alloc ρ H w _ _,?_,.inl rfl,?_,?_⟩
  ·simp [newVar,newRow]
  ·simp only [SV.Is,SR.den];exact ⟨_,0,Dyn.setBl_same _ _ _,rfl,rfl⟩
  ·exact h.alloc' ⟨u.cells.toList,SV.isL_mono hle _ _ (SV.cells_is hx hcs),by simp⟩
 ·trivial
noncomputable def opAlloc (cc:Cc) (H:Hp) (t:TypeId):OpR:=
 match cc.P.info? t with
 | some i=>match i.zero with
   | some z=>newV H t (ofVal z)
   | none=>.bad 2
 | none=>.bad 3
theorem opAlloc_ok (h:HpRel C hc w0 ρ H w) (t:TypeId):(opAlloc cc H t).Ok cc C hc w0 ρ H w (do pure (.value (← Instr.alloc t true (.tuple #[])))):=by
 unfold opAlloc
 split
 ·rename_i i hi
  split
  ·rename_i z hz
   have:=newV_ok (cc:=cc) h (t:=t) (ofVal_is (σ:=C.σ) (ρ:=ρ) z)
   generalize newV H t (ofVal z)=r at this ⊢
   have hrun:(do pure (Next.value (← Instr.alloc t true (.tuple #[]))):Sem Next).run cc.P w=(do pure (Next.value (← (do pure (.pointer (some (← newVar t z))):Sem Value))):Sem Next).run cc.P w:=by
    simp [Instr.alloc,zeroValue,typeInfo,hi,hz]
   cases r<;>simp only [OpR.Ok] at this ⊢<;>first | exact this | (rw [hrun];exact this)
  ·trivial
 ·trivial
noncomputable def symInt (cc:Cc) (H:Hp) (op:BinOp) (k:IntKind) (a:SI) (k':IntKind) (b:SI):OpR:=
 match op with
 | .shl=>match dec (bdOf cc H) H.facts (.lt b (.c 0)) with
   | .yes false=>.val (.it k (SI.bop (.shl k) a b)) H
   | .yes true=>.bad 10
   | .ask p=>.ask p
 | .shr=>match dec (bdOf cc H) H.facts (.lt b (.c 0)) with
   | .yes false=>.val (.it k (SI.bop (.shr k) a b)) H
   | .yes true=>.bad 11
   | .ask p=>.ask p
 | op=>bif keq k k' then
   match op with
   | .add=>.val (.it k (SI.wr (bdOf cc H) k (SI.add a b))) H
   | .sub=>.val (.it k (SI.wr (bdOf cc H) k (SI.sub a b))) H
   | .mul=>.val (.it k (SI.wr (bdOf cc H) k (SI.mul a b))) H
   | .quo=>match dec (bdOf cc H) H.facts (.eq b (.c 0)) with
     | .yes false=>.val (.it k (SI.wr (bdOf cc H) k (SI.bop .tdiv a b))) H
     | .yes true=>.bad 12
     | .ask p=>.ask p
   | .rem=>match dec (bdOf cc H) H.facts (.eq b (.c 0)) with
     | .yes false=>.val (.it k (SI.bop .tmod a b)) H
     | .yes true=>.bad 13
     | .ask p=>.ask p
   | .and=>.val (.it k (SI.bop (.band k) a b)) H
   | .or=>.val (.it k (SI.bop (.bor k) a b)) H
   | .xor=>.val (.it k (SI.bop (.bxor k) a b)) H
   | .andNot=>.val (.it k (SI.bop (.bandn k) a b)) H
   | .eql=>.val (.bo (nrm cc H (.eq a b))) H
   | .neq=>.val (.bo (nrm cc H (.not (.eq a b)))) H
   | .lss=>.val (.bo (nrm cc H (.lt a b))) H
   | .leq=>.val (.bo (nrm cc H (.le a b))) H
   | .gtr=>.val (.bo (nrm cc H (.lt b a))) H
   | .geq=>.val (.bo (nrm cc H (.le b a))) H
   | _=>.bad 14
 else .bad 15
theorem symInt_ok (hcc:cc.Ok C) (h:HpRel C hc w0 ρ H w) {op:BinOp} {k k':IntKind} {a b:SI} {x y:Int} (t:TypeId) (ha:a.den C.σ ρ=some x) (hb:b.den C.σ ρ=some y) :
  (symInt cc H op k a k' b).Ok cc C hc w0 ρ H w (do pure (.value (← binOp op t (.int k x) (.int k' y)))):=by
 have cmp:∀ p c,p.den C.σ ρ=some c→∀ s:Sem Value,s.run cc.P w=.ok (.bool c) w→(OpR.val (.bo (nrm cc H p)) H).Ok cc C hc w0 ρ H w (do pure (.value (← s))):=fun p c hp s hs=>
  OpR.ok_pure h hs (by simp only [SV.Is];exact ⟨c,nrm_den hcc h hp,rfl⟩)
 have int:∀ k (e:SI) c,e.den C.σ ρ=some c→∀ s:Sem Value,s.run cc.P w=.ok (.int k c) w→(OpR.val (.it k e) H).Ok cc C hc w0 ρ H w (do pure (.value (← s))):=fun k e c hp s hs=>
  OpR.ok_pure h hs (by simp only [SV.Is];exact ⟨c,hp,rfl⟩)
 have hlt:(SB.lt b (.c 0)).den C.σ ρ=some (decide (y < 0)):=by simp [SB.den,hb,SI.den]
 have heq:(SB.eq b (.c 0)).den C.σ ρ=some (decide (y=0)):=by simp [SB.den,hb,SI.den]
 unfold symInt
 split
 ·split
  ·rename_i e
   have:=dec_ok (bdOf_ok hcc h) h.facts hlt e
   have hy:¬ y < 0:=by simpa using this.symm
   exact int k _ _ (SI.bop_den (f:=.shl k) ha hb) _ (by simp [binOp,Op.shift,hy,IB.eval])
  ·trivial
  ·rename_i p e
   exact ask_den (bdOf_ok hcc h) h.facts hlt e
 ·split
  ·rename_i e
   have:=dec_ok (bdOf_ok hcc h) h.facts hlt e
   have hy:¬ y < 0:=by simpa using this.symm
   exact int k _ _ (SI.bop_den (f:=.shr k) ha hb) _ (by simp [binOp,Op.shift,hy,IB.eval])
  ·trivial
  ·rename_i p e
   exact ask_den (bdOf_ok hcc h) h.facts hlt e
 ·rename_i hn1 hn2
  cases hk:keq k k' with
  | false=>trivial
  | true=>
    have:=keq_eq hk;subst this
    simp only [cond_true]
    split
    ·exact int k _ _ (SI.wr_den (bdOf_ok hcc h) (SI.add_den ha hb)) _ (by simp [binOp,Op.intArith])
    ·exact int k _ _ (SI.wr_den (bdOf_ok hcc h) (SI.sub_den ha hb)) _ (by simp [binOp,Op.intArith])
    ·exact int k _ _ (SI.wr_den (bdOf_ok hcc h) (SI.mul_den ha hb)) _ (by simp [binOp,Op.intArith])
    ·split
     ·rename_i e
      have:=dec_ok (bdOf_ok hcc h) h.facts heq e
      have hy:¬ y=0:=by simpa using this.symm
      exact int k _ _ (SI.wr_den (bdOf_ok hcc h) (SI.bop_den (f:=.tdiv) ha hb)) _ (by simp [binOp,Op.intDiv,hy,IB.eval])
     ·trivial
     ·rename_i p e
      exact ask_den (bdOf_ok hcc h) h.facts heq e
    ·split
     ·rename_i e
      have:=dec_ok (bdOf_ok hcc h) h.facts heq e
      have hy:¬ y=0:=by simpa using this.symm
      exact int k _ _ (SI.bop_den (f:=.tmod) ha hb) _ (by simp [binOp,Op.intDiv,hy,IB.eval])
     ·trivial
     ·rename_i p e
      exact ask_den (bdOf_ok hcc h) h.facts heq e
    ·exact int k _ _ (SI.bop_den (f:=.band k) ha hb) _ (by simp [binOp,Op.intBits,IB.eval])
    ·exact int k _ _ (SI.bop_den (f:=.bor k) ha hb) _ (by simp [binOp,Op.intBits,IB.eval])
    ·exact int k _ _ (SI.bop_den (f:=.bxor k) ha hb) _ (by simp [binOp,Op.intBits,IB.eval])
    ·exact int k _ _ (SI.bop_den (f:=.bandn k) ha hb) _ (by simp [binOp,Op.intBits,IB.eval])
    ·exact cmp _ (decide (x=y)) (by simp [SB.den,ha,hb]) _ (by simp [binOp,Op.intCmp];rfl)
    ·exact cmp _ (!decide (x=y)) (by simp [SB.den,ha,hb]) _ (by simp [binOp,Op.intCmp];rfl)
    ·exact cmp _ _ (by simp [SB.den,ha,hb];rfl) _ (by simp [binOp,Op.intCmp])
    ·exact cmp _ _ (by simp [SB.den,ha,hb];rfl) _ (by simp [binOp,Op.intCmp])
    ·exact cmp _ _ (by simp [SB.den,ha,hb];rfl) _ (by simp [binOp,Op.intCmp])
    ·exact cmp _ _ (by simp [SB.den,ha,hb];rfl) _ (by simp [binOp,Op.intCmp])
    ·trivial
noncomputable def symBin (cc:Cc) (H:Hp) (op:BinOp) (t:TypeId) (x y:SV):OpR:=
 match x,y with
 | .it k a,.it k' b=>symInt cc H op k a k' b
 | .st a,.st b=>match op with
   | .eql=>.val (.bo (nrm cc H (.seq a b))) H
   | .neq=>.val (.bo (nrm cc H (.not (.seq a b)))) H
   | _=>.bad 20
 | .bo p,.bo q=>match op,eqv cc 9 t (.bo p) (.bo q) with
   | .eql,some r=>.val (.bo (nrm cc H r)) H
   | .neq,some r=>.val (.bo (nrm cc H (.not r))) H
   | _,_=>.bad 21
 | .ag xs,.ag ys=>bif lmem cc.eqt t then (match op,eqv cc 9 t (.ag xs) (.ag ys) with
   | .eql,some r=>.val (.bo (nrm cc H r)) H
   | .neq,some r=>.val (.bo (nrm cc H (.not r))) H
   | _,_=>.bad 22) else .bad 23
 | .pn,.pn | .pn,.pt _ _ | .pt _ _,.pn | .sn,.sn | .sn,.sl _ _ _ _ | .sl _ _ _ _,.sn | .mn,.mn | .mn,.mp _ | .mp _,.mn | .fz,.fz | .fz,.fn _ _ _ | .fn _ _ _,.fz=>
   match op,eqv cc 9 t x y with
   | .eql,some r=>.val (.bo (nrm cc H r)) H
   | .neq,some r=>.val (.bo (nrm cc H (.not r))) H
   | _,_=>.bad 24
 | _,_=>.bad 25
theorem eqGuard_plain {op:BinOp} {t:TypeId} {x y:Operand} {u v:Value} (hu:∀ cs,u≠.agg cs) (hn:u≠.nilIface):eqGuard op t x y u v=pure ():=by
 cases op<;>cases u<;>first | rfl | (exact absurd rfl hn) | (exact absurd rfl (hu _))
theorem symBin_ok (hcc:cc.Ok C) (h:HpRel C hc w0 ρ H w) {op:BinOp} {x y:SV} {u v:Value} (t:TypeId) (ox oy:Operand) (hx:x.Is C.σ ρ u) (hy:y.Is C.σ ρ v) :
  (symBin cc H op t x y).Ok cc C hc w0 ρ H w (do pure (.value (← (do eqGuard op t ox oy u v;binOp op t u v)))):=by
 have cmp:∀ p c,p.den C.σ ρ=some c→∀ s:Sem Value,s.run cc.P w=.ok (.bool c) w→(OpR.val (.bo (nrm cc H p)) H).Ok cc C hc w0 ρ H w (do pure (.value (← s))):=fun p c hp s hs=>
  OpR.ok_pure h hs (by simp only [SV.Is];exact ⟨c,nrm_den hcc h hp,rfl⟩)
 have viaEq:∀ r,eqv cc 9 t x y=some r→∃ b,r.den C.σ ρ=some b∧(Op.equal t u v).run cc.P w=.ok b w:=fun r hr=>eqv_ok hcc w 9 10000 (by omega) t x y r u v hr hx hy
 have two:∀ r,eqv cc 9 t x y=some r→(eqGuard op t ox oy u v).run cc.P w=.ok () w→(∀ op',op'=BinOp.eql∨op'=.neq→binOp op' t u v=(match op' with
   | .eql=>do pure (.bool (← Op.equal t u v))
   | _=>do pure (.bool (!(← Op.equal t u v)))))→
   (match op,some r with
    | .eql,some r=>OpR.val (.bo (nrm cc H r)) H
    | .neq,some r=>.val (.bo (nrm cc H (.not r))) H
    | _,_=>.bad 24).Ok cc C hc w0 ρ H w (do pure (.value (← (do eqGuard op t ox oy u v;binOp op t u v)))):=by
  intro r hr hg hb
  obtain ⟨b,e1,e2⟩:=viaEq r hr
  split
  ·rename_i r' _ _ he;cases he
   refine cmp _ b e1 _ ?_
   simp only [Sem.run_bind,hg,Result.andThen_ok,hb .eql (.inl rfl),e2,Sem.run_pure]
  ·rename_i r' _ _ he;cases he
   refine cmp _ (!b) (by simp [SB.den,e1]) _ ?_
   simp only [Sem.run_bind,hg,Result.andThen_ok,hb .neq (.inr rfl),e2,Sem.run_pure]
  ·trivial
 unfold symBin
 split
 ·rename_i k a k' b
  simp only [SV.Is] at hx hy
  obtain ⟨x',ha,rfl⟩:=hx
  obtain ⟨y',hb,rfl⟩:=hy
  have:=symInt_ok hcc h (op:=op) (k:=k) (k':=k') t ha hb
  have hr:∀ s:Next→Prop,True:=fun _=>trivial
  have hg:eqGuard op t ox oy (.int k x') (.int k' y')=pure ():=eqGuard_plain (by simp) (by simp)
  have he:(do pure (Next.value (← (do eqGuard op t ox oy (.int k x') (.int k' y');binOp op t (.int k x') (.int k' y')))):Sem Next)=(do pure (Next.value (← binOp op t (.int k x') (.int k' y')))):=by
   rw [hg];rfl
  rw [he];exact this
 ·rename_i a b
  simp only [SV.Is] at hx hy
  subst hx;subst hy
  have hg:(eqGuard op t ox oy (.string (a.den C.σ)) (.string (b.den C.σ))).run cc.P w=.ok () w:=by rw [eqGuard_plain (by simp) (by simp)];rfl
  split
  ·exact cmp _ ((a.den C.σ).toList == (b.den C.σ).toList) rfl _ (by simp [hg,binOp,Op.stringOp])
  ·exact cmp _ (!((a.den C.σ).toList == (b.den C.σ).toList)) rfl _ (by simp [hg,binOp,Op.stringOp])
  ·trivial
 ·rename_i p q
  cases he:eqv cc 9 t (.bo p) (.bo q) with
  | none=>split<;>first | trivial | (rename_i e;cases e)
  | some r=>
    have hx':=hx;have hy':=hy
    simp only [SV.Is] at hx' hy'
    obtain ⟨x',ha,rfl⟩:=hx'
    obtain ⟨y',hb,rfl⟩:=hy'
    have:=two r he (by rw [eqGuard_plain (by simp) (by simp)];rfl) (fun op' ho=>by rcases ho with rfl | rfl<;>rfl)
    cases op<;>first | exact this | trivial
 ·rename_i xs ys
  cases hm:lmem cc.eqt t with
  | false=>trivial
  | true=>
    obtain ⟨_,q2,_⟩:=hcc.eqt t (lmem_iff.1 hm)
    simp only [cond_true]
    cases he:eqv cc 9 t (.ag xs) (.ag ys) with
    | none=>split<;>first | trivial | (rename_i e;cases e)
    | some r=>
      have hx':=hx;have hy':=hy
      simp only [SV.Is] at hx' hy'
      obtain ⟨us,ha,rfl⟩:=hx'
      obtain ⟨vs,hb,rfl⟩:=hy'
      have:=two r he (run_eqGuard_agg w op t ox oy _ _ q2) (fun op' ho=>by rcases ho with rfl | rfl<;>rfl)
      cases op<;>first | exact this | trivial
 all_goals first
  | trivial
  | (cases he:eqv cc 9 t _ _ with
   | none=>split<;>first | trivial | (rename_i e;cases e)
   | some r=>
     have hx':=hx;have hy':=hy
     simp only [SV.Is] at hx' hy'
     have:=two r he (by
      first
       | (subst hx';rw [eqGuard_plain (by simp) (by simp)];rfl)
       | (obtain ⟨_,_,_,_,rfl⟩:=hx';rw [eqGuard_plain (by simp) (by simp)];rfl)
       | (obtain ⟨_,_,_,_,_,_,_,_,rfl⟩:=hx';rw [eqGuard_plain (by simp) (by simp)];rfl)
       | (obtain ⟨_,_,rfl⟩:=hx';rw [eqGuard_plain (by simp) (by simp)];rfl)) (fun op' ho=>by
      (first | subst hx' | (obtain ⟨_,_,_,_,rfl⟩:=hx') | (obtain ⟨_,_,_,_,_,_,_,_,rfl⟩:=hx') | (obtain ⟨_,_,rfl⟩:=hx'))
      (first | subst hy' | (obtain ⟨_,_,_,_,rfl⟩:=hy') | (obtain ⟨_,_,_,_,_,_,_,_,rfl⟩:=hy') | (obtain ⟨_,_,rfl⟩:=hy'))
      rcases ho with rfl | rfl<;>rfl)
     cases op<;>first | exact this | trivial)
end
end Go.Sx
