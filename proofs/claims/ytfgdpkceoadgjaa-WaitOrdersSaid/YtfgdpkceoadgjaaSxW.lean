/- A symbolic executor: arrays as numbers. -/
import Derived.Test.YtfgdpkceoadgjaaSxU
namespace Go.Sx
set_option linter.unusedSectionVars false
set_option linter.unusedVariables false
set_option linter.unusedSimpArgs false
def bs (l:List Nat):ByteArray:=⟨(l.map UInt8.ofNat).toArray⟩
def pr (a b:Nat):Nat:=2 ^ a * (2 * b+1)
theorem pr_pos (a b:Nat):0 < pr a b:=Nat.mul_pos (Nat.pow_pos (by omega)) (by omega)
theorem pr_inj:∀ {a b c d:Nat},pr a b=pr c d→a=c∧b=d:=by
 intro a
 induction a with
 | zero=>
   intro b c d h
   cases c with
   | zero=>simp [pr] at h;exact ⟨rfl,by omega⟩
   | succ c=>
     exfalso
     simp only [pr,Nat.pow_zero,Nat.one_mul,Nat.pow_succ] at h
     have:2 ^ c * 2 * (2 * d+1)=2 * (2 ^ c * (2 * d+1)):=by rw [Nat.mul_comm (2 ^ c) 2,Nat.mul_assoc]
     omega
 | succ a ih=>
   intro b c d h
   cases c with
   | zero=>
     exfalso
     simp only [pr,Nat.pow_zero,Nat.one_mul,Nat.pow_succ] at h
     have:2 ^ a * 2 * (2 * b+1)=2 * (2 ^ a * (2 * b+1)):=by rw [Nat.mul_comm (2 ^ a) 2,Nat.mul_assoc]
     omega
   | succ c=>
     have h1:2 ^ a * 2 * (2 * b+1)=2 * (2 ^ a * (2 * b+1)):=by rw [Nat.mul_comm (2 ^ a) 2,Nat.mul_assoc]
     have h2:2 ^ c * 2 * (2 * d+1)=2 * (2 ^ c * (2 * d+1)):=by rw [Nat.mul_comm (2 ^ c) 2,Nat.mul_assoc]
     have h3:pr a b=pr c d:=by
      simp only [pr,Nat.pow_succ] at h ⊢
      omega
     obtain ⟨e1,e2⟩:=ih h3
     exact ⟨by omega,e2⟩
def zig:Int→Nat
 | .ofNat n=>2 * n
 | .negSucc n=>2 * n+1
theorem zig_inj {a b:Int} (h:zig a=zig b):a=b:=by
 cases a<;>cases b<;>simp only [zig] at h
 ·congr 1;omega
 ·omega
 ·omega
 ·congr 1;omega
def encL:List (Nat×Nat×Int)→Nat
 | []=>0
 | (j,f,x)::l=>pr (pr j (pr f (zig x))) (encL l)
theorem encL_inj:∀ {l l':List (Nat×Nat×Int)},encL l=encL l'→l=l'
 | [],[],_=>rfl
 | [],(j,f,x)::l,h=>by have:=pr_pos (pr j (pr f (zig x))) (encL l);simp only [encL] at h;omega
 | (j,f,x)::l,[],h=>by have:=pr_pos (pr j (pr f (zig x))) (encL l);simp only [encL] at h;omega
 | (j,f,x)::l,(j',f',x')::l',h=>by
   obtain ⟨h1,h2⟩:=pr_inj h
   obtain ⟨h3,h4⟩:=pr_inj h1
   obtain ⟨h5,h6⟩:=pr_inj h4
   rw [h3,h5,zig_inj h6,encL_inj h2]
open Classical in
noncomputable def decL (c:Int):List (Nat×Nat×Int):=if h:∃ l,(encL l:Int)=c then Classical.choose h else []
theorem decL_enc (l:List (Nat×Nat×Int)):decL (encL l)=l:=by
 have h:∃ l',(encL l':Int)=(encL l:Int):=⟨l,rfl⟩
 unfold decL
 rw [dif_pos h]
 exact encL_inj (Int.ofNat.inj (Classical.choose_spec h))
def getL (l:List (Nat×Nat×Int)) (j f:Nat):Int:=match l with
 | []=>0
 | (j',f',x)::l=>if j'=j∧f'=f then x else getL l j f
noncomputable def gt (c:Int) (j f:Nat):Int:=getL (decL c) j f
theorem gt_zero (j f:Nat):gt 0 j f=0:=by
 have:decL 0=[]:=decL_enc []
 unfold gt;rw [this];rfl
noncomputable def setC (c j f x:Int):Int:=encL ((j.toNat,f.toNat,x)::decL c)
theorem gt_set (c:Int) (j f:Nat) (x:Int) (j' f':Nat):gt (setC c j f x) j' f'=if j'=j∧f'=f then x else gt c j' f':=by
 unfold gt setC
 rw [decL_enc]
 simp only [getL,Int.toNat_natCast]
 by_cases h:j'=j∧f'=f
 ·rw [if_pos h,if_pos ⟨h.1.symm,h.2.symm⟩]
 ·rw [if_neg h,if_neg (fun hh=>h ⟨hh.1.symm,hh.2.symm⟩)]
theorem gt_setI (c j f x:Int) (j' f':Nat):gt (setC c j f x) j' f'=if j'=j.toNat∧f'=f.toNat then x else gt c j' f':=by
 unfold gt setC
 rw [decL_enc]
 simp only [getL]
 by_cases h:j'=j.toNat∧f'=f.toNat
 ·rw [if_pos h,if_pos ⟨h.1.symm,h.2.symm⟩]
 ·rw [if_neg h,if_neg (fun hh=>h ⟨hh.1.symm,hh.2.symm⟩)]
def shL (i i' n:Nat) (l:List (Nat×Nat×Int)):List (Nat×Nat×Int):=l.filterMap fun e=>if i'≤e.1∧e.1 < i'+n then some (i+(e.1 - i'),e.2.1,e.2.2) else none
def outL (i n:Nat) (l:List (Nat×Nat×Int)):List (Nat×Nat×Int):=l.filter fun e=>!(decide (i≤e.1) && decide (e.1 < i+n))
noncomputable def blitC (c i c' i' n:Int):Int:=encL (shL i.toNat i'.toNat n.toNat (decL c')++outL i.toNat n.toNat (decL c))
theorem getL_out:∀ (l:List (Nat×Nat×Int)) (i n j f:Nat),getL (outL i n l) j f=if i≤j∧j < i+n then 0 else getL l j f
 | [],i,n,j,f=>by simp [outL,getL]
 | (j',f',x)::l,i,n,j,f=>by
   have ih:=getL_out l i n j f
   unfold outL at ih ⊢
   simp only [List.filter_cons]
   by_cases hin:i≤j'∧j' < i+n
   ·have:(!(decide (i≤j') && decide (j' < i+n)))=false:=by simp [hin.1,hin.2]
    rw [this]
    simp only [Bool.false_eq_true,if_false,ih]
    by_cases hj:i≤j∧j < i+n
    ·rw [if_pos hj,if_pos hj]
    ·rw [if_neg hj,if_neg hj]
     have hne:¬ (j'=j∧f'=f):=fun h=>hj (h.1 ▸ hin)
     simp [getL,hne]
   ·have:(!(decide (i≤j') && decide (j' < i+n)))=true:=by
     simp only [Bool.not_eq_true',Bool.and_eq_false_iff,decide_eq_false_iff_not]
     by_cases h1:i≤j'
     ·exact .inr fun h2=>hin ⟨h1,h2⟩
     ·exact .inl h1
    rw [this]
    simp only [if_true,getL,ih]
    by_cases h:j'=j∧f'=f
    ·rw [if_pos h,if_pos h,if_neg (fun hh=>hin (h.1 ▸ hh))]
    ·rw [if_neg h,if_neg h]
open Classical in
theorem getL_app:∀ (l l':List (Nat×Nat×Int)) (i i' n j f:Nat),getL (shL i i' n l++l') j f=if i≤j∧j < i+n∧(∃ x,(i'+(j - i),f,x)∈l) then getL l (i'+(j - i)) f else getL l' j f
 | [],l',i,i',n,j,f=>by simp [shL]
 | (j0,f0,x)::l,l',i,i',n,j,f=>by
   have ih:=getL_app l l' i i' n j f
   unfold shL at ih ⊢
   simp only [List.filterMap_cons]
   by_cases hin:i'≤j0∧j0 < i'+n
   ·rw [if_pos hin]
    simp only [List.cons_append,getL]
    by_cases h:i+(j0 - i')=j∧f0=f
    ·rw [if_pos h]
     have hj:i'+(j - i)=j0:=by omega
     rw [if_pos ⟨by omega,by omega,x,by rw [hj,h.2];simp⟩,if_pos ⟨hj.symm,h.2⟩]
    ·rw [if_neg h,ih]
     by_cases hc:i≤j∧j < i+n
     ·have hne:¬ (j0=i'+(j - i)∧f0=f):=fun hh=>h ⟨by omega,hh.2⟩
      rw [if_neg hne]
      by_cases he:∃ y,(i'+(j - i),f,y)∈l
      ·obtain ⟨y,hy⟩:=he
       rw [if_pos ⟨hc.1,hc.2,y,hy⟩,if_pos ⟨hc.1,hc.2,y,by simp [hy]⟩]
      ·rw [if_neg (fun hh=>he hh.2.2),if_neg]
       rintro ⟨_,_,y,hy⟩
       rcases List.mem_cons.1 hy with e | hy
       ·cases e;exact hne ⟨rfl,rfl⟩
       ·exact he ⟨y,hy⟩
     ·rw [if_neg (fun hh=>hc ⟨hh.1,hh.2.1⟩),if_neg (fun hh=>hc ⟨hh.1,hh.2.1⟩)]
   ·rw [if_neg hin]
    simp only [ih]
    by_cases hc:i≤j∧j < i+n
    ·have hne:¬ (j0=i'+(j - i)∧f0=f):=fun hh=>hin ⟨by omega,by omega⟩
     simp only [getL,if_neg hne]
     by_cases he:∃ y,(i'+(j - i),f,y)∈l
     ·obtain ⟨y,hy⟩:=he
      rw [if_pos ⟨hc.1,hc.2,y,hy⟩,if_pos ⟨hc.1,hc.2,y,by simp [hy]⟩]
     ·rw [if_neg (fun hh=>he hh.2.2),if_neg]
      rintro ⟨_,_,y,hy⟩
      rcases List.mem_cons.1 hy with e | hy
      ·cases e;exact hne ⟨rfl,rfl⟩
      ·exact he ⟨y,hy⟩
    ·rw [if_neg (fun hh=>hc ⟨hh.1,hh.2.1⟩),if_neg (fun hh=>hc ⟨hh.1,hh.2.1⟩)]
theorem getL_no:∀ (l:List (Nat×Nat×Int)) (j f:Nat),(∀ x,(j,f,x) ∉ l)→getL l j f=0
 | [],_,_,_=>rfl
 | (j',f',x)::l,j,f,h=>by
   simp only [getL]
   rw [if_neg (fun hh=>h x (by simp [hh.1,hh.2])),getL_no l j f fun y hy=>h y (by simp [hy])]
open Classical in
theorem gt_blit (c:Int) (i:Nat) (c':Int) (i' n j f:Nat):gt (blitC c i c' i' n) j f=if i≤j∧j < i+n then gt c' (i'+(j - i)) f else gt c j f:=by
 unfold gt blitC
 rw [decL_enc,getL_app,getL_out]
 simp only [Int.toNat_natCast]
 by_cases hc:i≤j∧j < i+n
 ·rw [if_pos hc,if_pos hc]
  by_cases he:∃ x,(i'+(j - i),f,x)∈decL c'
  ·rw [if_pos ⟨hc.1,hc.2,he⟩]
  ·rw [if_neg (fun hh=>he hh.2.2),getL_no _ _ _ fun x hx=>he ⟨x,hx⟩]
 ·rw [if_neg (fun hh=>hc ⟨hh.1,hh.2.1⟩),if_neg hc,if_neg hc]
def rowL (F:Nat) (g:Nat→Int) (j:Nat):List (Nat×Nat×Int):=(List.range F).map fun f=>(j,f,g f)
noncomputable def arrC (n F:Nat) (g:Nat→Nat→Int):Int:=encL ((List.range n).flatMap fun j=>rowL F (g j) j)
theorem getL_row (F:Nat) (g:Nat→Int) (j j' f:Nat) (l:List (Nat×Nat×Int)):getL (rowL F g j++l) j' f=if j=j'∧f < F then g f else getL l j' f:=by
 unfold rowL
 induction F generalizing l with
 | zero=>simp
 | succ F ih=>
   rw [List.range_succ,List.map_append,List.append_assoc,ih]
   simp only [List.map_cons,List.map_nil,List.singleton_append,getL]
   by_cases h1:j=j'
   ·by_cases h2:f < F
    ·rw [if_pos ⟨h1,h2⟩,if_pos ⟨h1,by omega⟩]
    ·rw [if_neg (fun h=>h2 h.2)]
     by_cases h3:F=f
     ·rw [if_pos ⟨h1,h3⟩,if_pos ⟨h1,by omega⟩,h3]
     ·rw [if_neg (fun h=>h3 h.2),if_neg (by omega)]
   ·rw [if_neg (fun h=>h1 h.1),if_neg (fun h=>h1 h.1),if_neg (fun h=>h1 h.1)]
theorem gt_arrC (n F:Nat) (g:Nat→Nat→Int) (j f:Nat):gt (arrC n F g) j f=if j < n∧f < F then g j f else 0:=by
 unfold gt arrC
 rw [decL_enc]
 have:∀ (n k:Nat) (l:List (Nat×Nat×Int)),getL (((List.range n).map (·+k)).flatMap (fun j=>rowL F (g j) j)++l) j f=if k≤j∧j < n+k∧f < F then g j f else getL l j f:=by
  intro n
  induction n with
  | zero=>intro k l;simp;intro h1 h2;omega
  | succ n ih=>
    intro k l
    rw [List.range_succ,List.map_append,List.flatMap_append,List.append_assoc,ih]
    simp only [List.map_cons,List.map_nil,List.flatMap_cons,List.flatMap_nil,List.append_nil,getL_row]
    by_cases h1:k≤j∧j < n+k∧f < F
    ·rw [if_pos h1,if_pos ⟨h1.1,by omega,h1.2.2⟩]
    ·rw [if_neg h1]
     by_cases h2:n+k=j∧f < F
     ·rw [if_pos h2,if_pos ⟨by omega,by omega,h2.2⟩,h2.1]
     ·rw [if_neg h2,if_neg (by omega)]
 have h:=this n 0 []
 simp only [Nat.add_zero,List.map_id',List.append_nil,Nat.zero_le,true_and] at h
 rw [h];rfl
noncomputable def kindI:Nat→IntKind
 | 0=>.i8 | 1=>.i16 | 2=>.i32 | 3=>.i64 | 4=>.u8 | 5=>.u16 | 6=>.u32 | _=>.u64
theorem kindI_ctor (k:IntKind):kindI k.ctorIdx=k:=by cases k<;>rfl
theorem ctor_lt (k:IntKind):k.ctorIdx < 8:=by cases k<;>decide
noncomputable def mkFI (U:FIx):FIx:=fun i a b c d e g=>
 if i < 8 then (kindI i).wrap (gt a (if d=1 then zig b else b.toNat) c.toNat) else if i=8 then setC a (if e=1 then (zig b:Int) else b) c d else if i=9 then blitC a b c d e else U i a b c d e g
noncomputable def mkFB (V:FBx):FBx:=fun i a b c d e g=>if i=0 then decide (gt a b.toNat c.toNat≠0) else V i a b c d e g
theorem arrLaw (U:FIx) (V:FBx) (kv:Kv) (iv:Nat→Int) (bv:Nat→Bool):ArrLaw (sta (mkFI U) (mkFB V) kv iv bv):=by
 have hv:∀ (κ:Kd) (c:Int) (j f:Nat),κ.val (sta (mkFI U) (mkFB V) kv iv bv) c j f=κ.of (gt c j f):=by
  intro κ c j f
  cases κ with
  | nt k=>
    simp only [Kd.val,Kd.of,sta,mkFI,ctor_lt,if_true,kindI_ctor,Int.toNat_natCast,Int.reduceEq,if_false]
  | tv=>simp only [Kd.val,Kd.of,sta,mkFB,if_true,Int.toNat_natCast]
 have h8:∀ c (j f:Nat) x,(sta (mkFI U) (mkFB V) kv iv bv).fi 8 c j f x 0 0=setC c j f x:=fun _ _ _ _=>by simp [sta,mkFI]
 have h9:∀ c (i:Nat) c' (i' n:Nat),(sta (mkFI U) (mkFB V) kv iv bv).fi 9 c i c' i' n 0=blitC c i c' i' n:=fun _ _ _ _ _=>rfl
 have hg:∀ (k:IntKind) (c x:Int),gm (sta (mkFI U) (mkFB V) kv iv bv) k c x=k.wrap (gt c (zig x) 0):=by
  intro k c x
  simp [gm,sta,mkFI,ctor_lt,kindI_ctor]
 refine ⟨fun k x=>?_,fun k c x y x'=>?_,fun κ j f=>?_,fun κ c j f x j' f'=>?_,fun κ c i c' i' n j f=>?_⟩
 ·rw [hg,gt_zero];cases k<;>decide
 ·rw [hg,hg]
  have e:(sta (mkFI U) (mkFB V) kv iv bv).fi 8 c x 0 y 1 0=setC c (zig x:Int) 0 y:=by simp [sta,mkFI]
  rw [e,gt_setI]
  simp only [Int.toNat_natCast,Int.toNat_zero,and_true]
  by_cases hx:x'=x
  ·subst hx;simp
  ·rw [if_neg (fun hh=>hx (zig_inj hh)),if_neg hx]
 ·rw [hv,gt_zero]
 ·rw [h8,hv,gt_set,hv]
  split<;>rfl
 ·rw [h9,hv,gt_blit,hv,hv]
  split<;>rfl
noncomputable def BF0:List (Nat×Int×Int):=
 [(0,-128,127),(1,-32768,32767),(2,-2147483648,2147483647),(3,-9223372036854775808,9223372036854775807),(4,0,255),(5,0,65535),(6,0,4294967295),(7,0,18446744073709551615)]
theorem fiOk {U:FIx} {V:FBx} {BF:List (Nat×Int×Int)} (h:∀ i a b,(i,a,b)∈BF→10≤i∧∀ x0 x1 x2 x3 x4 x5,a≤U i x0 x1 x2 x3 x4 x5∧U i x0 x1 x2 x3 x4 x5≤b):FiOk (mkFI U) (mkFB V) (lapp BF0 BF):=by
 refine ⟨fun i a b hm x0 x1 x2 x3 x4 x5=>?_,fun kv iv bv=>arrLaw U V kv iv bv⟩
 rw [lapp_eq] at hm
 rcases List.mem_append.1 hm with hm | hm
 ·simp only [BF0,List.mem_cons,List.not_mem_nil,or_false,Prod.mk.injEq] at hm
  have hw:=fun k=>wrap_has k (gt x0 (if x3=1 then zig x1 else x1.toNat) x2.toNat)
  rcases hm with ⟨rfl,rfl,rfl⟩ | ⟨rfl,rfl,rfl⟩ | ⟨rfl,rfl,rfl⟩ | ⟨rfl,rfl,rfl⟩ | ⟨rfl,rfl,rfl⟩ | ⟨rfl,rfl,rfl⟩ | ⟨rfl,rfl,rfl⟩ | ⟨rfl,rfl,rfl⟩
  ·exact hw .i8
  ·exact hw .i16
  ·exact hw .i32
  ·exact hw .i64
  ·exact hw .u8
  ·exact hw .u16
  ·exact hw .u32
  ·exact hw .u64
 ·obtain ⟨h1,h2⟩:=h i a b hm
  have e:mkFI U i x0 x1 x2 x3 x4 x5=U i x0 x1 x2 x3 x4 x5:=by
   unfold mkFI
   rw [if_neg (by omega),if_neg (by omega),if_neg (by omega)]
  rw [e];exact h2 x0 x1 x2 x3 x4 x5
theorem wrap_u64 (x:Int):IntKind.u64.wrap x=x % 18446744073709551616:=by
 simp only [IntKind.wrap,IntKind.bits,IntKind.signed]
 simp only [Bool.false_and,Bool.false_eq_true,if_false]
 omega
end Go.Sx
namespace Go.Sx
set_option linter.unusedVariables false
noncomputable def kidC (c:Code) (i:Nat):Code:=
 match c with
 | .seq a b=>Nat.rec a (fun _ _=>b) i
 | .cond _ a b=>Nat.rec a (fun _ _=>b) i
 | .block _ b=>b
 | .loop b=>b
 | .rangeFunc _ _ asg body=>Nat.rec asg (fun _ _=>body) i
 | .scope b=>b
 | c=>c
noncomputable def atC (fn:Func) (p:List Nat):Code:=
 List.rec (motive:=fun _=>Code→Code) (fun c=>c) (fun i _ ih c=>ih (kidC c i)) p (fn.body.getD .skip)
noncomputable def opsC (c:Code):Array Oper:=match c with | .region _ ops _=>ops | _=>#[]
end Go.Sx
