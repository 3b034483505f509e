/- The pool: plain laws of Put and Double. -/
import Derived.Test.YtbcbpicfnfkdeaaPkV
namespace Go.Sx.Pk
set_option linter.unusedVariables false
set_option linter.unusedSimpArgs false
open Go Go.Sx
theorem putR_blit {c n d k:Int} (hn:0≤n) (hk:0≤k):putR (blitC c n d 0 k) c n d k:=⟨fun j hj=>by rw [Rw_blit,if_neg (by omega)];exact Rw.refl c j,fun j hj=>by
 rw [Rw_blit,if_pos (by omega),show (0:Int).toNat+(n.toNat+j - n.toNat)=j by omega];exact Rw.refl d j⟩
theorem putR_eq {x y c n d k:Int} (hn:0≤n) (h:putR x c n d k) (g:putR y c n d k):∀ j:Nat,(j:Int) < n+k→fl x j 0=fl y j 0∧fl x j 1=fl y j 1∧gt x j 2=gt y j 2:=fun j hj=>by
 by_cases e:(j:Int) < n
 ·exact (h.1 j e).trans (g.1 j e).symm
 ·obtain ⟨i,rfl⟩:∃ i,j=n.toNat+i:=⟨j - n.toNat,by omega⟩
  exact (h.2 i (by omega)).trans (g.2 i (by omega)).symm
theorem putAll {nodes n d k c x:Int} (ho:okN nodes n d k) (h0:0≤k) (hx:putR x c n d k) (hn:0≤n) (hk:k=flenC d):putE nodes n d=0∧putK nodes n d=k∧
  ∀ j:Nat,(j:Int) < n+putK nodes n d→fl (blitC c n d 0 (putK nodes n d)) j 0=fl x j 0∧fl (blitC c n d 0 (putK nodes n d)) j 1=fl x j 1∧gt (blitC c n d 0 (putK nodes n d)) j 2=gt x j 2:=by
 have e:putK nodes n d=k:=putK_eq h0 (by omega) ho (fun h=>by omega)
 rw [e]
 exact ⟨by unfold putE;rw [e,if_neg (by omega)],rfl,putR_eq hn (putR_blit hn h0) hx⟩
theorem putSome {nodes n d k c x:Int} (ho:okN nodes n d k) (h0:0≤k) (hx:putR x c n d k) (hn:0≤n) (hk:k < flenC d) (hm:mayAt nodes n d k.toNat≠0):putE nodes n d=mayAt nodes n d k.toNat∧putK nodes n d=k∧
  ∀ j:Nat,(j:Int) < n+putK nodes n d→fl (blitC c n d 0 (putK nodes n d)) j 0=fl x j 0∧fl (blitC c n d 0 (putK nodes n d)) j 1=fl x j 1∧gt (blitC c n d 0 (putK nodes n d)) j 2=gt x j 2:=by
 have e:putK nodes n d=k:=putK_eq h0 (by omega) ho (fun _=>hm)
 rw [e]
 exact ⟨by unfold putE;rw [e,if_pos hk],rfl,putR_eq hn (putR_blit hn h0) hx⟩
theorem dbl_rows {c n a:Int} (hn:0≤n) (ha:0≤a):∀ j:Nat,(j:Int) < n+1→fl (blitC c n c a 1) j 0=fl (setC (setC (setC c n 0 (fl c a.toNat 0)) n 1 (fl c a.toNat 1)) n 2 (gt c a.toNat 2)) j 0∧fl (blitC c n c a 1) j 1=fl (setC (setC (setC c n 0 (fl c a.toNat 0)) n 1 (fl c a.toNat 1)) n 2 (gt c a.toNat 2)) j 1∧gt (blitC c n c a 1) j 2=gt (setC (setC (setC c n 0 (fl c a.toNat 0)) n 1 (fl c a.toNat 1)) n 2 (gt c a.toNat 2)) j 2:=fun j hj=>by
 have h:Rw (blitC c n c a 1) (setC (setC (setC c n 0 (fl c a.toNat 0)) n 1 (fl c a.toNat 1)) n 2 (gt c a.toNat 2)) j j:=by
  rw [Rw_blit]
  by_cases e:(j:Int) < n
  ·rw [if_neg (by omega)];exact (Rw_old (by omega)).symm
  ·have:j=n.toNat:=by omega
   subst this
   rw [if_pos (by omega),show a.toNat+(n.toNat - n.toNat)=a.toNat by omega]
   exact (Rw_new rfl rfl rfl rfl).symm
 exact h
end Go.Sx.Pk
