/- A symbolic executor: nested runs, to a given depth. -/
import Derived.Test.YtfgdpkceoadgjaaSxR
namespace Go.Sx
set_option linter.unusedSectionVars false
set_option linter.unusedVariables false
set_option linter.unusedSimpArgs false
open Go.RowKit
noncomputable def nsS (cc:Cc) (E:Ents) (draw:Nat→List (Nat×SV)→Hp→Array Oper→Dr) (ih:Fr→List Fr→Hp→Nr) (f:Fr) (fs:List Fr) (H:Hp):Nr:=
 match stp cc E draw f fs H with
 | .go f' fs' H'=>ih f' fs' H'
 | .par _ _=>.bad 322
 | .done z H'=>.done z H'
 | .ask p=>.ask p
 | .bad n=>.bad n
noncomputable def nsL (cc:Cc) (E:Ents) (draw:Nat→List (Nat×SV)→Hp→Array Oper→Dr) (n:Nat):Fr→List Fr→Hp→Nr:=
 Nat.rec (motive:=fun _=>Fr→List Fr→Hp→Nr) (fun _ _ _=>.bad 321) (fun _ ih=>nsS cc E draw ih) n
noncomputable def nstS (cc:Cc) (E:Ents) (draw:Nat→List (Nat×SV)→Hp→Array Oper→Dr) (n:Nat) (f:Fr) (H:Hp):Nr:=nsL cc E draw n f [] H
noncomputable def dw (cc:Cc) (E:Ents) (n k:Nat):Nat→List (Nat×SV)→Hp→Array Oper→Dr:=
 Nat.rec (motive:=fun _=>Nat→List (Nat×SV)→Hp→Array Oper→Dr) (fun _ _ _ _=>.bad 320) (fun _ ih=>drawS cc E (nstS cc E ih n)) k
section
variable {cc:Cc} {C:Ct} {E:Ents} {draw:Nat→List (Nat×SV)→Hp→Array Oper→Dr}
theorem nsL_ok (hcc:cc.Ok C) (hE:EntsOk cc C E) (hd:DrOk cc C draw):∀ (n:Nat) (hc:Nat→Option Obj) (w0:World) (cs:List Frame) (ρ:Dyn) (f:Fr) (fs:List Fr) (H:Hp) (m:Machine) (z:SV) (H':Hp),Sat C hc w0 cs ρ f fs H m→nsL cc E draw n f fs H=.done z H'→
  ∃ ρ' u w',Tn ρ H m.world ρ' H' w'∧Ends cc.P m cs (botOf f fs).1 (botOf f fs).2 u w'∧z.Is C.σ ρ' u∧HpRel C hc w0 ρ' H' w':=by
 intro n
 induction n with
 | zero=>intro hc w0 cs ρ f fs H m z H' _ h;cases h
 | succ n ih=>
   intro hc w0 cs ρ f fs H m z H' hm h
   have hs:=stp_ok hcc hE hd hm
   have h':nsS cc E draw (nsL cc E draw n) f fs H=.done z H':=h
   unfold nsS at h'
   split at h'
   ·rename_i f' fs' H1 he
    rw [he] at hs
    obtain ⟨ρ1,m1,h1,h2,h3,h4⟩:=hs
    obtain ⟨ρ',u,w',k1,k2,k3,k4⟩:=ih hc w0 cs ρ1 f' fs' H1 m1 z H' h3 h'
    rw [h4] at k2
    exact ⟨ρ',u,w',h1.trans k1,k2.of_steps h2,k3,k4⟩
   ·cases h'
   ·rename_i z1 H1 he
    rw [he] at hs
    cases h'
    exact hs
   ·cases h'
   ·cases h'
theorem nsL_ask (hcc:cc.Ok C) (hE:EntsOk cc C E) (hd:DrOk cc C draw):∀ (n:Nat) (hc:Nat→Option Obj) (w0:World) (cs:List Frame) (ρ:Dyn) (f:Fr) (fs:List Fr) (H:Hp) (m:Machine) (p:SB) (k:Nat),Sat C hc w0 cs ρ f fs H m→nsL cc E draw n f fs H=.ask p→k≤H.nd→p.dlo k=true→
  ∃ b,p.den C.σ ρ=some b:=by
 intro n
 induction n with
 | zero=>intro hc w0 cs ρ f fs H m p k _ h;cases h
 | succ n ih=>
   intro hc w0 cs ρ f fs H m p k hm h hk hp
   have hs:=stp_ok hcc hE hd hm
   have h':nsS cc E draw (nsL cc E draw n) f fs H=.ask p:=h
   unfold nsS at h'
   split at h'
   ·rename_i f' fs' H1 he
    rw [he] at hs
    obtain ⟨ρ1,m1,h1,h2,h3,h4⟩:=hs
    obtain ⟨b,hb⟩:=ih hc w0 cs ρ1 f' fs' H1 m1 p k h3 h' (Nat.le_trans hk h1.ext.nd) hp
    exact ⟨b,by rw [← hb];exact (SB.dlo_den (fun i hi=>h1.ag.di i (Nat.lt_of_lt_of_le hi hk)) hp).symm⟩
   ·cases h'
   ·cases h'
   ·rename_i q he
    rw [he] at hs
    cases h'
    exact hs
   ·cases h'
theorem nstS_ok (hcc:cc.Ok C) (hE:EntsOk cc C E) (hd:DrOk cc C draw) (n:Nat):NstOk cc C (nstS cc E draw n):=
 ⟨fun hc w0 cs ρ f H m z H' hm h=>nsL_ok hcc hE hd n hc w0 cs ρ f [] H m z H' hm h,fun hc w0 cs ρ f H m p hm h hp=>nsL_ask hcc hE hd n hc w0 cs ρ f [] H m p H.nd hm h (Nat.le_refl _) hp⟩
theorem dw_ok (hcc:cc.Ok C) (hE:EntsOk cc C E) (n:Nat):∀ k,DrOk cc C (dw cc E n k)
 | 0=>fun _ _ _ _ _ _ _ _ _ _ _ _ _ _ _ _ _=>trivial
 | k+1=>drawS_ok hcc hE (nstS_ok hcc hE (dw_ok hcc hE n k) n)
end
end Go.Sx
