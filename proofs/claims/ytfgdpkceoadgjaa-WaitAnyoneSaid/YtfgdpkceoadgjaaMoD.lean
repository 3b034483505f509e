/- Modes, holds, who waits: what is computed. -/
import Derived.Test.YtfgdpkceoadgjaaMoW
import Derived.Test.YtfgdpkceoadgjaaProg
namespace Go.Sx.Mhw
noncomputable section
set_option linter.unusedSimpArgs false
set_option linter.unusedVariables false
open Go Go.Sx Go.Proofs
def inM (a:Int):Prop:=0≤a∧a≤5
instance (a:Int):Decidable (inM a):=by unfold inM;infer_instance
def fitP (a b:Int):Prop:=a=0∨b=0∨(a≠5∧b≠5∧(a=1∨b=1∨(a=b∧a≠4)))
instance (a b:Int):Decidable (fitP a b):=by unfold fitP;infer_instance
def covP (a b:Int):Prop:=a=b∨b=0∨a=5∨(a=4∧b < 4)∨(a≠4∧(a=2∨a=3)∧b=1)
instance (a b:Int):Decidable (covP a b):=by unfold covP;infer_instance
def allM (c n:Int):Prop:=∀ i:Nat,(i:Int) < n→inM (fl c i 0)
def covA (m c n:Int):Prop:=∀ i:Nat,(i:Int) < n→covP m (fl c i 0)
def fitA (m c k:Int):Prop:=∀ j:Nat,(j:Int) < k→fitP m (fl c j 0)
def togA (c n:Int):Prop:=∀ i:Nat,(i:Int) < n→fitA (fl c i 0) c i
instance (c n:Int):Decidable (allM c n):=Classical.propDecidable _
instance (m c n:Int):Decidable (covA m c n):=Classical.propDecidable _
instance (m c n:Int):Decidable (fitA m c n):=Classical.propDecidable _
instance (c n:Int):Decidable (togA c n):=Classical.propDecidable _
def joinC (c n:Int):Int:=if covA 0 c n then 0 else if covA 1 c n then 1 else if covA 2 c n then 2 else if covA 3 c n then 3 else if covA 4 c n then 4 else 5
theorem joinC_in (c n:Int):0≤joinC c n∧joinC c n≤5:=by
 unfold joinC;repeat' split
 all_goals omega
def fstR (P:Nat→Prop):Nat→Int
 | 0=>-1
 | n+1=>if 0≤fstR P n then fstR P n else @ite _ (P n) (Classical.propDecidable _) (n:Int) (-1)
theorem fstR_spec (P:Nat→Prop):∀ n:Nat,(fstR P n=-1∧∀ j,j < n→¬ P j)∨(∃ k:Nat,fstR P n=k∧k < n∧P k∧∀ j,j < k→¬ P j)
 | 0=>.inl ⟨rfl,fun j hj=>by omega⟩
 | n+1=>by
   rcases fstR_spec P n with ⟨h,hn⟩ | ⟨k,h,hk,hp,hn⟩
   ·unfold fstR
    rw [h,if_neg (by omega)]
    by_cases hp:P n
    ·rw [if_pos hp];exact .inr ⟨n,rfl,by omega,hp,hn⟩
    ·rw [if_neg hp]
     refine .inl ⟨rfl,fun j hj=>?_⟩
     by_cases e:j=n
     ·rw [e];exact hp
     ·exact hn j (by omega)
   ·unfold fstR
    rw [h,if_pos (by omega)]
    exact .inr ⟨k,rfl,by omega,hp,hn⟩
def fstI (P:Nat→Prop) (n:Int):Int:=fstR P n.toNat
theorem fstI_some {P:Nat→Prop} {n k:Int} (h0:0≤k) (hk:k < n) (hp:P k.toNat) (h:∀ j:Nat,(j:Int) < k→¬ P j):fstI P n=k:=by
 unfold fstI
 rcases fstR_spec P n.toNat with ⟨e,hn⟩ | ⟨i,e,hi,hpi,hn⟩
 ·exact absurd hp (hn k.toNat (by omega))
 ·rw [e]
  by_cases h1:(i:Int) < k
  ·exact absurd hpi (h i h1)
  ·by_cases h2:k < (i:Int)
   ·exact absurd hp (hn k.toNat (by omega))
   ·omega
theorem fstI_none {P:Nat→Prop} {n:Int} (h:∀ j:Nat,(j:Int) < n→¬ P j):fstI P n=-1:=by
 unfold fstI
 rcases fstR_spec P n.toNat with ⟨e,hn⟩ | ⟨i,e,hi,hpi,hn⟩
 ·exact e
 ·exact absurd hpi (h i (by omega))
theorem fstI_cases (P:Nat→Prop) (n:Int):(fstI P n=-1∧∀ j:Nat,(j:Int) < n→¬ P j)∨(0≤fstI P n∧fstI P n < n∧P (fstI P n).toNat∧∀ j:Nat,(j:Int) < fstI P n→¬ P j):=by
 unfold fstI
 rcases fstR_spec P n.toNat with ⟨e,hn⟩ | ⟨i,e,hi,hpi,hn⟩
 ·exact .inl ⟨e,fun j hj=>hn j (by omega)⟩
 ·rw [e];exact .inr ⟨by omega,by omega,by simpa using hpi,fun j hj=>hn j (by omega)⟩
def mayP (s u m:Int):Prop:=(0≤s∧s≤255)∧(1≤u∧u≤1099511627776)∧(1≤m∧m≤5)
instance (s u m:Int):Decidable (mayP s u m):=by unfold mayP;infer_instance
def mayA (c k:Int):Prop:=∀ i:Nat,(i:Int) < k→mayP (fl c i 0) (fl c i 1) (fl c i 2)∧(0 < i→fl c (i - 1) 0 < fl c i 0)
def modesC (c n:Int):Int:=arrC n.toNat 1 fun j _=>fl c j 2
def rgtP (c n:Int):Prop:=mayA c n∧allM (modesC c n) n∧togA (modesC c n) n
def delC (c n at_:Int):Int:=arrC (n - 1).toNat 3 fun j f=>fl c (if (j:Int) < at_ then j else j+1) f
def insG (c a s u m:Int) (j f:Nat):Int:=if (j:Int) < a then fl c j f else if (j:Int)=a then (match f with | 0=>s | 1=>u | _=>m) else fl c (j - 1) f
def insC (c n a s u m:Int):Int:=arrC (n+1).toNat 3 (insG c a s u m)
theorem fstI_lt (P:Nat→Prop) (n m:Int) (h0:0≤m) (h:n≤m+1):-1≤fstI P n∧fstI P n≤m:=by
 rcases fstI_cases P n with ⟨e,_⟩ | ⟨e1,e2,_⟩<;>omega
def fndC (c n s:Int):Int:=fstI (fun j=>fl c j 0=s) (min n 4096)
def posC (c n s:Int):Int:=if fstI (fun j=>s≤fl c j 0) (min n 4096)=-1 then max 0 (min n 4096) else fstI (fun j=>s≤fl c j 0) (min n 4096)
def wrtC (c n:Int):Int:=fstI (fun j=>fl c j 2=5) (min n 4096)
def lentC (c n:Int):Int:=arrC (n+1).toNat 3 fun j f=>if (j:Int) < n then fl c j f else if f=0 then 77 else 0
def sameP (c n d m:Int):Prop:=n=m∧∀ j:Nat,(j:Int) < n→fl c j 0=fl d j 0∧fl c j 1=fl d j 1∧fl c j 2=fl d j 2
def fitsP (c n m:Int):Prop:=∀ j:Nat,(j:Int) < n→fitP (fl c j 2) m
def endP (c n s u:Int):Prop:=0≤fndC c n s∧fl c (fndC c n s).toNat 1≤u
def hasP (c n s:Int):Prop:=rgtP c n∧0≤fndC c n s
def okP (c n m:Int):Prop:=rgtP c n∧inM m
def wrP (c n:Int):Prop:=rgtP c n∧0≤wrtC c n
instance (c n s:Int):Decidable (hasP c n s):=Classical.propDecidable _
instance (c n m:Int):Decidable (okP c n m):=Classical.propDecidable _
instance (c n:Int):Decidable (wrP c n):=Classical.propDecidable _
instance (c n s u:Int):Decidable (endP c n s u):=Classical.propDecidable _
instance (c n:Int):Decidable (rgtP c n):=Classical.propDecidable _
instance (c n d m:Int):Decidable (sameP c n d m):=Classical.propDecidable _
instance (c n m:Int):Decidable (fitsP c n m):=Classical.propDecidable _
def addP (c n s u m:Int):Int:=if ¬ (rgtP c n∧mayP s u m) then 2 else if 0≤fndC c n s then 230 else if ¬ fitsP c n m then 231 else 0
theorem addP_in (c n s u m:Int):0≤addP c n s u m∧addP c n s u m≤231:=by
 unfold addP;repeat' split
 all_goals omega
def mayW (s u m p a:Int):Prop:=(0≤s∧s≤255)∧(1≤u∧u≤1099511627776)∧(1≤m∧m≤5)∧(0≤p∧p≤3)∧(0≤a∧a≤64)
instance (s u m p a:Int):Decidable (mayW s u m p a):=by unfold mayW;infer_instance
def mayX (c k:Int):Prop:=∀ i:Nat,(i:Int) < k→mayW (fl c i 0) (fl c i 1) (fl c i 2) (fl c i 3) (fl c i 4)∧∀ j:Nat,j < i→fl c j 0≠fl c i 0
def rgtW (c n:Int):Prop:=n≤256∧mayX c n
def delW (c n at_:Int):Int:=arrC (n - 1).toNat 5 fun j f=>fl c (if (j:Int) < at_ then j else j+1) f
def lentW (c n:Int):Int:=arrC (n+1).toNat 5 fun j f=>if (j:Int) < n then fl c j f else if f=0 then 77 else 0
def grtG (c at_:Int) (j f:Nat):Int:=if (j:Int) < at_ then (if f=4∧¬ fitP (fl c j 2) (fl c at_.toNat 2) then min (fl c j 4+1) 64 else fl c j f) else fl c (j+1) f
def grtW (c n at_:Int):Int:=arrC (n - 1).toNat 5 (grtG c at_)
def hasW (c n s:Int):Prop:=rgtW c n∧0≤fndC c n s
instance (c n s:Int):Decidable (hasW c n s):=Classical.propDecidable _
def sameW (c n d m:Int):Prop:=n=m∧∀ j:Nat,(j:Int) < n→fl c j 0=fl d j 0∧fl c j 1=fl d j 1∧fl c j 2=fl d j 2∧fl c j 3=fl d j 3∧fl c j 4=fl d j 4
instance (c n:Int):Decidable (rgtW c n):=Classical.propDecidable _
instance (c n d m:Int):Decidable (sameW c n d m):=Classical.propDecidable _
def mayN (c lim hc m at_:Int):Prop:=(∀ i:Nat,(i:Int) < m→fitP (fl c at_.toNat 2) (fl hc i 0))∧∀ i:Nat,(i:Int) < at_→lim≤fl c i 4→fitP (fl c at_.toNat 2) (fl c i 2)
def nxtK (c n lim hc m:Int):Int:=fstI (fun k=>mayN c lim hc m (fl (srtW c n lim) k 5)) (min n 4096)
def nxtW (c n lim hc m:Int):Int:=if rgtW c n∧(0≤lim∧lim≤64)∧allM hc m then (if nxtK c n lim hc m < 0 then -1 else min (max (fl (srtW c n lim) (nxtK c n lim hc m).toNat 5) (-1)) 4095) else -1
theorem nxtW_in (c n lim hc m:Int):-1≤nxtW c n lim hc m∧nxtW c n lim hc m≤4095:=by unfold nxtW;split<;>(try split)<;>omega
def U:FIx:=fun i a b d e f g=>match i with
 | 10=>if inM a∧inM b then 0 else 130
 | 11=>if allM a b then joinC a b else 0
 | 12=>if allM a b then 0 else 130
 | 13=>joinC a b
 | 20=>modesC a b
 | 21=>fndC a b d
 | 22=>delC a b d
 | 23=>insC a b d e f g
 | 24=>posC a b d
 | 25=>wrtC a b
 | 26=>lentC a b
 | 27=>addP a b d e f
 | 30=>fndC a b d
 | 31=>delW a b d
 | 32=>lentW a b
 | 33=>grtW a b d
 | 40=>cmpU a b d e f g
 | 41=>insU a b d e f
 | 42=>sifU a b d e f g
 | 43=>heaU a b d e f
 | 44=>codeOf (parU a b d e f g).2.2
 | 45=>((min (parU a b d e f g).1 1000:Nat):Int)
 | 46=>codeOf (peqU a b d e f g).2
 | 47=>((min (peqU a b d e f g).1 2000:Nat):Int)
 | 48=>codeOf (pinU a b d e f).1
 | 49=>brkU a b d e
 | 50=>((min (chsU a b d e f).1 1000:Nat):Int)
 | 51=>hintN (chsU a b d e f).2
 | 52=>revU a b d e
 | 53=>pdqU a b d e f g
 | 54=>((medU a b d e f g).1:Int)
 | 55=>((medU a b d e f g).2:Int)
 | 56=>((1 <<< Sort.bitsLen a.toNat:Nat):Int)
 | 57=>((Sort.bitsLen a.toNat:Nat):Int)
 | 58=>(((Sort.xorNext (UInt64.ofNat a.toNat)).toNat:Nat):Int)
 | 60=>srtW a b d
 | 61=>ordW a b d
 | 62=>nxtW a b d e f
 | _=>0
def V:FBx:=fun i a b d e f g=>match i with
 | 10=>decide (inM a∧inM b∧fitP a b)
 | 11=>decide (inM a∧inM b∧covP a b)
 | 12=>decide (fitP a b)
 | 13=>decide (covP a b)
 | 14=>decide (allM a b∧togA a b)
 | 15=>decide (allM a b)
 | 16=>decide (togA a b)
 | 20=>decide (rgtP a b)
 | 21=>decide (sameP a b d e)
 | 22=>decide (fitsP a b d)
 | 23=>decide (mayP a b d)
 | 24=>decide (endP a b d e)
 | 25=>decide (hasP a b d)
 | 26=>decide (okP a b d)
 | 27=>decide (wrP a b)
 | 30=>decide (rgtW a b)
 | 31=>decide (sameW a b d e)
 | 32=>decide (mayW a b d e f)
 | 33=>decide (hasW a b d)
 | 44=>(parU a b d e f g).2.1
 | 48=>(pinU a b d e f).2
 | _=>false
def FI:FIx:=mkFI U
def FB:FBx:=mkFB V
def BFu:List (Nat×Int×Int):=[(10,0,130),(11,0,5),(12,0,130),(13,0,5),(21,-1,4095),(24,0,4096),(25,-1,4095),(27,0,231),(30,-1,4095),(40,-1,1),(51,0,2),(55,0,3),(58,0,18446744073709551615),(45,0,1000),(47,0,2000),(50,0,1000),(62,-1,4095)]
def BF:List (Nat×Int×Int):=lapp BF0 BFu
theorem fiok:FiOk FI FB BF:=by
 refine fiOk fun i a b hm=>?_
 simp only [BFu,List.mem_cons,List.not_mem_nil,or_false,Prod.mk.injEq] at hm
 have f1:=fun P n=>fstI_lt P (min n 4096) 4095 (by omega) (by omega)
 rcases hm with ⟨rfl,rfl,rfl⟩ | ⟨rfl,rfl,rfl⟩ | ⟨rfl,rfl,rfl⟩ | ⟨rfl,rfl,rfl⟩ | ⟨rfl,rfl,rfl⟩ | ⟨rfl,rfl,rfl⟩ | ⟨rfl,rfl,rfl⟩ | ⟨rfl,rfl,rfl⟩ | ⟨rfl,rfl,rfl⟩ | ⟨rfl,rfl,rfl⟩ | ⟨rfl,rfl,rfl⟩ | ⟨rfl,rfl,rfl⟩ | ⟨rfl,rfl,rfl⟩ | ⟨rfl,rfl,rfl⟩ | ⟨rfl,rfl,rfl⟩ | ⟨rfl,rfl,rfl⟩ | ⟨rfl,rfl,rfl⟩<;>
  refine ⟨by omega,fun x0 x1 x2 x3 x4 x5=>?_⟩
 ·simp only [U];split<;>omega
 ·have h:=joinC_in x0 x1
  simp only [U];split<;>omega
 ·simp only [U];split<;>omega
 ·exact joinC_in x0 x1
 ·exact f1 _ x1
 ·have:=f1 (fun j=>x2≤fl x0 j 0) x1
  simp only [U,posC]
  split<;>omega
 ·exact f1 _ x1
 ·exact addP_in x0 x1 x2 x3 x4
 ·exact f1 _ x1
 ·exact cmpU_in x0 x1 x2 x3 x4 x5
 ·exact hintN_in _
 ·exact medU_in x0 x1 x2 x3 x4 x5
 ·have:=(Sort.xorNext (UInt64.ofNat x0.toNat)).toNat_lt
  simp only [U];omega
 ·simp only [U];omega
 ·simp only [U];omega
 ·simp only [U];omega
 ·exact nxtW_in x0 x1 x2 x3 x4
set_option maxRecDepth 100000 in
theorem pok:POk Try.prog [58,84]:=POk.of (by kernel_rfl) (by kernel_rfl) (by kernel_rfl)
def o1 (z:SV):List Out:=[⟨[],z,[],0,0,[]⟩]
def i64b (i:Nat):Nat×Int×Int:=(i,-9223372036854775808,9223372036854775807)
def ints (l:List Nat):List SV:=lmap (fun i=>SV.it .i64 (.v i)) l
def i64s (l:List Nat):List (Nat×Int×Int):=lmap i64b l
def b2:List (Nat×Int×Int):=[(0,-9223372036854775808,9223372036854775807),(1,-9223372036854775808,9223372036854775807)]
def ap2 (f:Nat):SI:=.ap f (.v 0) (.v 1) (.c 0) (.c 0) (.c 0) (.c 0)
def pb2 (f:Nat):SB:=.ap f (.v 0) (.v 1) (.c 0) (.c 0) (.c 0) (.c 0)
def two:List SV:=[.it .i64 (.v 0),.it .i64 (.v 1)]
def eFits:Con:=⟨19,[0,1],two,[],b2,[],o1 (.tp [.bo (pb2 10),.it .i64 (ap2 10)])⟩
def rFits:Con:=⟨25,[0,1],two,[],b2,[],o1 (.bo (pb2 12))⟩
def fM:List (SB×Bool):=[(.le (.v 1) (.v 3),true),(.le (.c 0) (.v 3),true)]
theorem FI_3 (c j f b d:Int):FI 3 c j f 0 b d=fl c j.toNat f.toNat:=by simp [FI,mkFI,fl,kindI]
theorem FI_8 (c j f x b:Int):FI 8 c j f x 0 b=setC c j f x:=by simp [FI,mkFI]
def mg (c x:Int):Int:=IntKind.i64.wrap (gt c (zig x) 0)
def ms (c x y:Int):Int:=setC c (zig x:Int) 0 y
theorem FI_3g (c x b d:Int):FI 3 c x 0 1 b d=mg c x:=by simp [FI,mkFI,kindI,mg]
theorem FI_8m (c x y b:Int):FI 8 c x 0 y 1 b=ms c x y:=by simp [FI,mkFI,ms]
theorem mg_zero (x:Int):mg 0 x=0:=by unfold mg;rw [gt_zero];decide
theorem mg_ms (c x y x':Int):mg (ms c x y) x'=if x'=x then IntKind.i64.wrap y else mg c x':=by
 unfold mg ms
 rw [gt_setI]
 simp only [Int.toNat_natCast,Int.toNat_zero,and_true]
 by_cases h:x'=x
 ·subst h;simp
 ·rw [if_neg (fun hh=>h (zig_inj hh)),if_neg h]
theorem FI_9 (c i c' i' n a:Int):FI 9 c i c' i' n a=blitC c i c' i' n:=rfl
theorem FIu (i:Nat) (a b c d e f:Int) (h:10≤i):FI i a b c d e f=U i a b c d e f:=by
 unfold FI mkFI
 rw [if_neg (by omega),if_neg (by omega),if_neg (by omega)]
theorem FBu (i:Nat) (a b c d e f:Int) (h:10≤i):FB i a b c d e f=V i a b c d e f:=by
 unfold FB mkFB
 rw [if_neg (by omega)]
theorem FI_10 (a b c d e f:Int):FI 10 a b c d e f=if inM a∧inM b then 0 else 130:=FIu 10 _ _ _ _ _ _ (by omega)
theorem FI_11 (a b c d e f:Int):FI 11 a b c d e f=if allM a b then joinC a b else 0:=FIu 11 _ _ _ _ _ _ (by omega)
theorem FI_12 (a b c d e f:Int):FI 12 a b c d e f=if allM a b then 0 else 130:=FIu 12 _ _ _ _ _ _ (by omega)
theorem FI_13 (a b c d e f:Int):FI 13 a b c d e f=joinC a b:=FIu 13 _ _ _ _ _ _ (by omega)
theorem FB_10 (a b c d e f:Int):(FB 10 a b c d e f=true)=(inM a∧inM b∧fitP a b):=by rw [FBu 10 _ _ _ _ _ _ (by omega)];simp [V]
theorem FB_11 (a b c d e f:Int):(FB 11 a b c d e f=true)=(inM a∧inM b∧covP a b):=by rw [FBu 11 _ _ _ _ _ _ (by omega)];simp [V]
theorem FB_12 (a b c d e f:Int):(FB 12 a b c d e f=true)=fitP a b:=by rw [FBu 12 _ _ _ _ _ _ (by omega)];simp [V]
theorem FB_13 (a b c d e f:Int):(FB 13 a b c d e f=true)=covP a b:=by rw [FBu 13 _ _ _ _ _ _ (by omega)];simp [V]
theorem FB_14 (a b c d e f:Int):(FB 14 a b c d e f=true)=(allM a b∧togA a b):=by rw [FBu 14 _ _ _ _ _ _ (by omega)];simp [V]
theorem FB_15 (a b c d e f:Int):(FB 15 a b c d e f=true)=allM a b:=by rw [FBu 15 _ _ _ _ _ _ (by omega)];simp [V]
theorem FB_16 (a b c d e f:Int):(FB 16 a b c d e f=true)=togA a b:=by rw [FBu 16 _ _ _ _ _ _ (by omega)];simp [V]
theorem FI_30 (a b c d e f:Int):FI 30 a b c d e f=fndC a b c:=FIu 30 _ _ _ _ _ _ (by omega)
theorem FI_31 (a b c d e f:Int):FI 31 a b c d e f=delW a b c:=FIu 31 _ _ _ _ _ _ (by omega)
theorem FI_32 (a b c d e f:Int):FI 32 a b c d e f=lentW a b:=FIu 32 _ _ _ _ _ _ (by omega)
theorem FI_33 (a b c d e f:Int):FI 33 a b c d e f=grtW a b c:=FIu 33 _ _ _ _ _ _ (by omega)
theorem FB_30 (a b c d e f:Int):(FB 30 a b c d e f=true)=rgtW a b:=by rw [FBu 30 _ _ _ _ _ _ (by omega)];simp [V]
theorem FB_31 (a b c d e f:Int):(FB 31 a b c d e f=true)=sameW a b c d:=by rw [FBu 31 _ _ _ _ _ _ (by omega)];simp [V]
theorem FB_32 (a b c d e f:Int):(FB 32 a b c d e f=true)=mayW a b c d e:=by rw [FBu 32 _ _ _ _ _ _ (by omega)];simp [V]
theorem FB_33 (a b c d e f:Int):(FB 33 a b c d e f=true)=hasW a b c:=by rw [FBu 33 _ _ _ _ _ _ (by omega)];simp [V]
theorem FI_40 (a b c d e f:Int):FI 40 a b c d e f=cmpU a b c d e f:=FIu 40 _ _ _ _ _ _ (by omega)
theorem FI_41 (a b c d e f:Int):FI 41 a b c d e f=insU a b c d e:=FIu 41 _ _ _ _ _ _ (by omega)
theorem FI_42 (a b c d e f:Int):FI 42 a b c d e f=sifU a b c d e f:=FIu 42 _ _ _ _ _ _ (by omega)
theorem FI_43 (a b c d e f:Int):FI 43 a b c d e f=heaU a b c d e:=FIu 43 _ _ _ _ _ _ (by omega)
theorem FI_44 (a b c d e f:Int):FI 44 a b c d e f=codeOf (parU a b c d e f).2.2:=FIu 44 _ _ _ _ _ _ (by omega)
theorem FI_45 (a b c d e f:Int):FI 45 a b c d e f=((min (parU a b c d e f).1 1000:Nat):Int):=FIu 45 _ _ _ _ _ _ (by omega)
theorem FI_46 (a b c d e f:Int):FI 46 a b c d e f=codeOf (peqU a b c d e f).2:=FIu 46 _ _ _ _ _ _ (by omega)
theorem FI_47 (a b c d e f:Int):FI 47 a b c d e f=((min (peqU a b c d e f).1 2000:Nat):Int):=FIu 47 _ _ _ _ _ _ (by omega)
theorem FI_48 (a b c d e f:Int):FI 48 a b c d e f=codeOf (pinU a b c d e).1:=FIu 48 _ _ _ _ _ _ (by omega)
theorem FI_49 (a b c d e f:Int):FI 49 a b c d e f=brkU a b c d:=FIu 49 _ _ _ _ _ _ (by omega)
theorem FI_50 (a b c d e f:Int):FI 50 a b c d e f=((min (chsU a b c d e).1 1000:Nat):Int):=FIu 50 _ _ _ _ _ _ (by omega)
theorem FI_51 (a b c d e f:Int):FI 51 a b c d e f=hintN (chsU a b c d e).2:=FIu 51 _ _ _ _ _ _ (by omega)
theorem FI_52 (a b c d e f:Int):FI 52 a b c d e f=revU a b c d:=FIu 52 _ _ _ _ _ _ (by omega)
theorem FI_53 (a b c d e f:Int):FI 53 a b c d e f=pdqU a b c d e f:=FIu 53 _ _ _ _ _ _ (by omega)
theorem FI_54 (a b c d e f:Int):FI 54 a b c d e f=((medU a b c d e f).1:Int):=FIu 54 _ _ _ _ _ _ (by omega)
theorem FI_55 (a b c d e f:Int):FI 55 a b c d e f=((medU a b c d e f).2:Int):=FIu 55 _ _ _ _ _ _ (by omega)
theorem FI_56 (a b c d e f:Int):FI 56 a b c d e f=((1 <<< Sort.bitsLen a.toNat:Nat):Int):=FIu 56 _ _ _ _ _ _ (by omega)
theorem FI_57 (a b c d e f:Int):FI 57 a b c d e f=((Sort.bitsLen a.toNat:Nat):Int):=FIu 57 _ _ _ _ _ _ (by omega)
theorem FI_58 (a b c d e f:Int):FI 58 a b c d e f=(((Sort.xorNext (UInt64.ofNat a.toNat)).toNat:Nat):Int):=FIu 58 _ _ _ _ _ _ (by omega)
theorem FI_60 (a b c d e f:Int):FI 60 a b c d e f=srtW a b c:=FIu 60 _ _ _ _ _ _ (by omega)
theorem FI_62 (a b c d e f:Int):FI 62 a b c d e f=nxtW a b c d e:=FIu 62 _ _ _ _ _ _ (by omega)
theorem FB_44 (a b c d e f:Int):(FB 44 a b c d e f=true)=((parU a b c d e f).2.1=true):=by rw [FBu 44 _ _ _ _ _ _ (by omega)];rfl
theorem FB_48 (a b c d e f:Int):(FB 48 a b c d e f=true)=((pinU a b c d e).2=true):=by rw [FBu 48 _ _ _ _ _ _ (by omega)];rfl
theorem decT {p:Prop} {i:Decidable p}:(@decide p i=true)=p:=propext ⟨of_decide_eq_true,decide_eq_true⟩
theorem tbvT {I:In} {S:Sta} {δ:Nat→Int} {j:Nat}:(In.tbv I S δ j=true)=(match get I.s.b j with | some e=>e.tp S δ | none=>S.bv j=true):=by
 unfold In.tbv
 cases get I.s.b j with
 | none=>rfl
 | some e=>exact decT
theorem six {b:Int} (h:inM b):b=0∨b=1∨b=2∨b=3∨b=4∨b=5:=by unfold inM at h;omega
theorem all_succ {P:Nat→Prop} {k:Int} (h0:0≤k) (h:∀ j:Nat,(j:Int) < k→P j) (hk:P k.toNat):∀ j:Nat,(j:Int) < k+1→P j:=by
 intro j hj
 by_cases e:(j:Int) < k
 ·exact h j e
 ·have:j=k.toNat:=by omega
  subst this;exact hk
theorem fl_set (c i f x:Int) (j g:Nat):fl (setC c i f x) j g=if j=i.toNat∧g=f.toNat then IntKind.i64.wrap x else fl c j g:=by
 unfold fl
 rw [gt_setI]
 split<;>rfl
end
end Go.Sx.Mhw
