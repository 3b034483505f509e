/- A symbolic executor: runs, and the tree of a run. -/
import Derived.Test.YtfgdpkceoadgjaaSxK
namespace Go.Sx
set_option linter.unusedSectionVars false
set_option linter.unusedVariables false
set_option linter.unusedSimpArgs false
open Go.RowKit
inductive Tr where
 | leaf (z:SV) (H:Hp)
 | cut (f:Fr) (fs:List Fr) (H:Hp)
 | fork (p:SB) (t e:Tr)
 | bad (why:Nat) (f:Fr) (fs:List Fr) (H:Hp)
noncomputable def exS (cc:Cc) (E:Ents) (draw:Nat→List (Nat×SV)→Hp→Array Oper→Dr) (stop:Fr→List Fr→Bool) (ih:Fr→List Fr→Hp→Tr) (f:Fr) (fs:List Fr) (H:Hp):Tr:=
 match stp cc E draw f fs H with
 | .go f' fs' H'=>bif stop f fs then .cut f' fs' H' else ih f' fs' H'
 | .par x l=>List.rec (motive:=fun _=>Tr) (ih x.1 x.2.1 x.2.2) (fun y _ r=>.fork (.c true) (ih y.1 y.2.1 y.2.2) r) l
 | .done z H'=>.leaf z H'
 | .ask p=>.fork p (ih f fs (H.learn p true)) (ih f fs (H.learn p false))
 | .bad n=>.bad n f fs H
noncomputable def ex (cc:Cc) (E:Ents) (draw:Nat→List (Nat×SV)→Hp→Array Oper→Dr) (stop:Fr→List Fr→Bool) (n:Nat):Fr→List Fr→Hp→Tr:=
 Nat.rec (motive:=fun _=>Fr→List Fr→Hp→Tr) (fun f fs H=>.bad 0 f fs H) (fun _ ih=>exS cc E draw stop ih) n
def Tr.All (C:Ct) (hc:Nat→Option Obj) (w0:World) (Q:SV→Hp→Prop) (K:Fr→List Fr→Hp→Prop):Tr→Prop
 | .leaf z H=>Q z H
 | .cut f fs H=>K f fs H
 | .fork _ t e=>t.All C hc w0 Q K∧e.All C hc w0 Q K
 | .bad _ _ _ H=>∀ ρ w,HpRel C hc w0 ρ H w→False
section
variable {cc:Cc} {C:Ct} {E:Ents} {draw:Nat→List (Nat×SV)→Hp→Array Oper→Dr} {hc:Nat→Option Obj} {w0:World} {cs:List Frame} {ρ ρ':Dyn} {f:Fr} {fs:List Fr} {H:Hp} {w:World}
def Fin (P:Program) (m:Machine) (cs:List Frame) (bot:FuncId×Bool) (R:Value→World→Prop):Prop:=∃ u w',Ends P m cs bot.1 bot.2 u w'∧R u w'
theorem Fin.of_steps {P:Program} {m m₁:Machine} {cs:List Frame} {bot:FuncId×Bool} {R:Value→World→Prop} (h:Steps P m m₁) (k:Fin P m₁ cs bot R):Fin P m cs bot R:=
 let ⟨u,w',h1,h2⟩:=k;⟨u,w',h1.of_steps h,h2⟩
theorem ex_ok (hcc:cc.Ok C) (hE:EntsOk cc C E) (hd:DrOk cc C draw) {stop:Fr→List Fr→Bool} {R:Value→World→Prop} {Q:SV→Hp→Prop} {K:Fr→List Fr→Hp→Prop} {ρ0:Dyn} {H0:Hp} {W0:World} {bot:FuncId×Bool}
  (hQ:∀ z H ρ u w',Q z H→z.Is C.σ ρ u→HpRel C hc w0 ρ H w'→Tn ρ0 H0 W0 ρ H w'→R u w')
  (hK:∀ f fs H ρ m,K f fs H→Sat C hc w0 cs ρ f fs H m→Tn ρ0 H0 W0 ρ H m.world→botOf f fs=bot→Fin cc.P m cs bot R) :
  ∀ (n:Nat) (f:Fr) (fs:List Fr) (H:Hp) (ρ:Dyn) (m:Machine),Sat C hc w0 cs ρ f fs H m→Tn ρ0 H0 W0 ρ H m.world→botOf f fs=bot→(ex cc E draw stop n f fs H).All C hc w0 Q K→Fin cc.P m cs bot R:=by
 intro n
 induction n with
 | zero=>
   intro f fs H ρ m hm _ _ h
   obtain ⟨fr,frs,w,rfl,_,_,hh⟩:=hm
   exact (h ρ w hh).elim
 | succ n ih=>
   intro f fs H ρ m hm ht hb h
   have hs:=stp_ok hcc hE hd hm
   have h':(exS cc E draw stop (ex cc E draw stop n) f fs H).All C hc w0 Q K:=h
   unfold exS at h'
   split at h'
   ·rename_i f' fs' H' he
    rw [he] at hs
    obtain ⟨ρ',m',h1,h2,h3,h4⟩:=hs
    refine Fin.of_steps h2 ?_
    cases hst:stop f fs with
    | true=>rw [hst] at h';exact hK f' fs' H' ρ' m' h' h3 (ht.trans h1) (h4.trans hb)
    | false=>rw [hst] at h';exact ih f' fs' H' ρ' m' h3 (ht.trans h1) (h4.trans hb) h'
   ·rename_i x l he
    rw [he] at hs
    obtain ⟨y,hy,ρ',m',h1,h2,h3,h4⟩:=hs
    have hall:∀ l:List (Fr×List Fr×Hp),Tr.All C hc w0 Q K (List.rec (motive:=fun _=>Tr) (ex cc E draw stop n x.1 x.2.1 x.2.2) (fun y _ r=>.fork (.c true) (ex cc E draw stop n y.1 y.2.1 y.2.2) r) l)→∀ y∈x::l,(ex cc E draw stop n y.1 y.2.1 y.2.2).All C hc w0 Q K:=by
     intro l
     induction l with
     | nil=>
       intro h y hy
       rcases List.mem_cons.1 hy with rfl | hy
       ·exact h
       ·cases hy
     | cons z l ih=>
       intro h y hy
       rcases List.mem_cons.1 hy with e | hy
       ·exact ih h.2 y (e ▸ List.mem_cons_self ..)
       ·rcases List.mem_cons.1 hy with e | hy
        ·rw [e];exact h.1
        ·exact ih h.2 y (List.mem_cons_of_mem _ hy)
    exact Fin.of_steps h2 (ih y.1 y.2.1 y.2.2 ρ' m' h3 (ht.trans h1) (h4.trans hb) (hall l h' y hy))
   ·rename_i z H' he
    rw [he] at hs
    obtain ⟨ρ',u,w',h1,h2,h3,h4⟩:=hs
    rw [hb] at h2
    exact ⟨u,w',h2,hQ z H' ρ' u w' h' h3 h4 (ht.trans h1)⟩
   ·rename_i p he
    rw [he] at hs
    obtain ⟨b,hp⟩:=hs
    obtain ⟨fr,frs,w,rfl,k1,k2,k3⟩:=hm
    have ht':∀ b,Tn ρ0 H0 W0 ρ (H.learn p b) w:=fun b=>
     ⟨ht.ag,⟨ht.ext.heap,ht.ext.nb,ht.ext.nd,ht.ext.nv,by obtain ⟨l,hl⟩:=ht.ext.facts;exact ⟨(p,b)::l,by show (p,b)::H.facts=_;rw [hl];rfl⟩,ht.ext.phis⟩,ht.size,ht.new,ht.same⟩
    cases b with
    | true=>exact ih f fs _ ρ _ ⟨fr,frs,w,rfl,k1,k2,k3.fact hp⟩ (ht' true) hb h'.1
    | false=>exact ih f fs _ ρ _ ⟨fr,frs,w,rfl,k1,k2,k3.fact hp⟩ (ht' false) hb h'.2
   ·obtain ⟨fr,frs,w,rfl,_,_,hh⟩:=hm
    exact (h' ρ w hh).elim
structure Wy where
 facts:List (SB×Bool)
 z:Option SV
noncomputable def Tr.ways (t:Tr):List Wy:=
 Tr.rec (motive:=fun _=>List Wy) (fun z H=>[⟨H.facts,some z⟩]) (fun _ _ H=>[⟨H.facts,none⟩]) (fun _ _ _ a b=>lapp a b) (fun _ _ _ H=>[⟨H.facts,none⟩]) t
noncomputable def Tr.whole (t:Tr):Bool:=
 Tr.rec (motive:=fun _=>Bool) (fun _ _=>true) (fun _ _ _=>false) (fun _ _ _ a b=>bif a then b else false) (fun _ _ _ _=>true) t
def Known (σ:Sta) (ρ:Dyn) (F:List (SB×Bool)):Prop:=∀ f∈F,f.1.den σ ρ=some f.2
def hp0 (B:Bd) (F:List (SB×Bool)):Hp:={ heap:=[],nb:=0,nd:=0,nv:=0,facts:=F,phis:=[0],bd:=B.v }
def dyn0:Dyn:={ bl:=fun _=>none,di:=fun _=>none,dv:=fun _=>none }
def Ct.Base (C:Ct) (w0:World):Prop:=∀ ρ U,C.phi 0 ρ U↔∀ b o,w0.heap[b]? = some o→U b o
theorem below_of (hb:C.Base w0) {ρ:Dyn} {H:Hp} {w':World} (h:HpRel C hc w0 ρ H w') (h0:0∈H.phis):Below w0.heap.size w0 w':=by
 refine ⟨h.os,h.tape,h.output,h.size,fun k hk=>?_⟩
 have:=(hb _ _).1 (h.phis 0 h0) k w0.heap[k] (Array.getElem?_eq_getElem hk)
 rw [this.1,Array.getElem?_eq_getElem hk]
end
end Go.Sx
