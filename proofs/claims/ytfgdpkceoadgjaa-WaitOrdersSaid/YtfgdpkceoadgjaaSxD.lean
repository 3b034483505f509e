/- A symbolic executor: values, memory: the operations' parts. -/
import Derived.Test.YtfgdpkceoadgjaaSxC
import Derived.Laws.Cells
import Derived.Laws.CopyRow
import Derived.Laws.CopyOwn
import Derived.Laws.Small
import Derived.Laws.StructEq
import Derived.ChangeKeysEq
namespace Go.Sx
set_option linter.unusedSectionVars false
set_option linter.unusedVariables false
set_option linter.unusedSimpArgs false
open Go.RowKit
def ofVal1:Value→SV
 | .bool b=>.bo (.c b)
 | .int k n=>.it k (.c n)
 | .string s=>.st (.c s)
 | .pointer none=>.pn
 | .slice none 0 0=>.sn
 | .map none=>.mn
 | .func (.func f) ⟨[]⟩ ⟨[]⟩=>.fn f [] []
 | .nilFunc=>.fz
 | .nilIface=>.fcn
 | _=>.any
noncomputable def ofVal:Value→SV
 | .agg cs=>.ag (lmap ofVal1 cs.toList)
 | .tuple cs=>.tp (lmap ofVal1 cs.toList)
 | v=>ofVal1 v
section
variable {σ:Sta} {ρ:Dyn}
theorem ofVal1_is (u:Value):(ofVal1 u).Is σ ρ u:=by
 unfold ofVal1
 split<;>simp [SV.Is,SV.IsL,SB.den,SI.den,SS.den]
theorem isL_map1:∀ (us:List Value),SV.IsL σ ρ (us.map ofVal1) us
 | []=>by simp [SV.isL_nil]
 | u::us=>SV.isL_cons.2 ⟨u,us,rfl,ofVal1_is u,isL_map1 us⟩
theorem ofVal_is (u:Value):(ofVal u).Is σ ρ u:=by
 unfold ofVal
 split
 ·rename_i cs;simp only [SV.Is,lmap_eq];exact ⟨cs.toList,isL_map1 _,by simp⟩
 ·rename_i cs;simp only [SV.Is,lmap_eq];exact ⟨cs.toList,isL_map1 _,by simp⟩
 ·exact ofVal1_is u
def SV.cells:SV→Option (List SV)
 | .ag l=>some l
 | .any | .tp _=>none
 | x=>some [x]
def SV.one:SV→Bool
 | .ag _ | .any | .tp _=>false
 | _=>true
theorem SV.one_ok {x:SV} {u:Value} (h:x.Is σ ρ u) (ho:x.one=true):u.oneCell'=true:=by
 cases x<;>simp only [SV.one,Bool.false_eq_true] at ho<;>simp only [SV.Is] at h
 case bo=>obtain ⟨_,_,rfl⟩:=h;rfl
 case it=>obtain ⟨_,_,rfl⟩:=h;rfl
 case st=>subst h;rfl
 case pt=>obtain ⟨_,_,_,_,rfl⟩:=h;rfl
 case pn=>subst h;rfl
 case sl=>obtain ⟨_,_,_,_,_,_,_,_,rfl⟩:=h;rfl
 case sn=>subst h;rfl
 case mp=>obtain ⟨_,_,rfl⟩:=h;rfl
 case mn=>subst h;rfl
 case fn=>obtain ⟨_,_,_,_,rfl⟩:=h;rfl
 case yl=>obtain ⟨_,_,rfl⟩:=h;rfl
 case fz=>subst h;rfl
 case fc=>obtain ⟨_,_,rfl⟩:=h;rfl
 case fcn=>subst h;rfl
 case va=>exact h.2
 case dv=>exact h.2
theorem Value.cells_one {u:Value} (h:u.oneCell'=true):u.cells=#[u]:=by cases u<;>simp [Value.oneCell'] at h<;>rfl
theorem SV.cells_is {x:SV} {u:Value} {l:List SV} (h:x.Is σ ρ u) (hl:x.cells=some l):SV.IsL σ ρ l u.cells.toList:=by
 by_cases ho:x.one=true
 ·have h1:=SV.one_ok h ho
  have:l=[x]:=by cases x<;>simp [SV.cells,SV.one] at hl ho<;>exact hl.symm
  subst this
  rw [Value.cells_one h1]
  exact SV.isL_cons.2 ⟨u,[],rfl,h,SV.isL_nil.2 rfl⟩
 ·cases x<;>simp [SV.cells,SV.one] at hl ho
  subst hl
  simp only [SV.Is] at h
  obtain ⟨vs,h1,rfl⟩:=h
  simpa [Value.cells] using h1
theorem SV.all_one {l:List SV} {us:List Value} (h:SV.IsL σ ρ l us) (ha:lall SV.one l=true):∀ u∈us,u.oneCell'=true:=by
 intro u hu
 obtain ⟨n,hn⟩:=List.getElem?_of_mem hu
 obtain ⟨z,h1,h2⟩:=SV.isL_nth h hn
 exact SV.one_ok h2 (lall_iff.1 ha z (List.mem_of_getElem? h1))
def aggOf (P:Program) (t:TypeId):Option (Bool×Nat):=
 match P.info? t with
 | none=>none
 | some i=>match P.underlying t with
   | some (.struct _)=>some (true,i.size)
   | some (.array _ _)=>some (true,i.size)
   | some _=>some (false,i.size)
   | none=>none
theorem aggOf_ok {P:Program} {t:TypeId} {g:Bool} {n:Nat} (h:aggOf P t=some (g,n)) (w:World) :
  (isAgg t).run P w=.ok g w∧(sizeOf t).run P w=.ok n w∧(∃ i,P.info? t=some i∧i.size=n):=by
 unfold aggOf at h
 split at h
 ·cases h
 ·rename_i i hi
  have hs:(sizeOf t).run P w=.ok i.size w:=by simp [sizeOf,typeInfo,hi]
  split at h
  ·rename_i fs hu;cases h
   exact ⟨by simp [isAgg,underlying,hu],hs,i,hi,rfl⟩
  ·rename_i a b hu;cases h
   exact ⟨by simp [isAgg,underlying,hu],hs,i,hi,rfl⟩
  ·rename_i d h1 h2 hu;cases h
   refine ⟨?_,hs,i,hi,rfl⟩
   simp only [isAgg,underlying,Sem.run_bind,run_program,Result.andThen_ok,hu,Sem.run_pure]
  ·cases h
noncomputable def partOf (P:Program) (t:TypeId) (l:List SV) (off:Nat):Option SV:=
 match aggOf P t with
 | some (true,n)=>some (.ag (ltake (ldrop l off) n))
 | some (false,_)=>lnth l off
 | none=>none
theorem partOf_ok {P:Program} {t:TypeId} {l:List SV} {off:Nat} {z:SV} {us:List Value} (hl:SV.IsL σ ρ l us) (h:partOf P t l off=some z) (w:World) :
  ∃ u,(part t us.toArray off).run P w=.ok u w∧z.Is σ ρ u:=by
 unfold partOf at h
 split at h
 ·rename_i n ha
  cases h
  obtain ⟨h1,h2,_⟩:=aggOf_ok ha w
  refine ⟨.agg (us.toArray.extract off (off+n)),by simp [part,h1,h2],?_⟩
  simp only [SV.Is,ltake_eq,ldrop_eq]
  refine ⟨(us.drop off).take n,SV.isL_take n (SV.isL_drop off hl),?_⟩
  congr 1
  apply Array.ext'
  simp [List.take_drop,Nat.add_comm]
 ·rename_i n ha
  obtain ⟨h1,h2,_⟩:=aggOf_ok ha w
  rw [lnth_eq] at h
  obtain ⟨u,h3,h4⟩:=SV.isL_get hl h
  refine ⟨u,?_,h4⟩
  simp [part,h1,h3]
 ·cases h
noncomputable def splice (l:List SV) (off:Nat) (cs:List SV):List SV:=lapp (ltake l off) (lapp cs (ldrop l (Nat.add off (llen cs))))
theorem splice_eq (l:List SV) (off:Nat) (cs:List SV):splice l off cs=l.take off++(cs++l.drop (off+cs.length)):=by
 simp only [splice,lapp_eq,ltake_eq,ldrop_eq,llen_eq];rfl
theorem splice_is {l cs:List SV} {us vs:List Value} (off:Nat) (hl:SV.IsL σ ρ l us) (hc:SV.IsL σ ρ cs vs):SV.IsL σ ρ (splice l off cs) (us.take off++(vs++us.drop (off+vs.length))):=by
 rw [splice_eq,← SV.isL_length hc]
 exact SV.isL_append (SV.isL_take off hl) (SV.isL_append hc (SV.isL_drop _ hl))
theorem foldl_set (off:Nat):∀ (cs:List Value) (k:Nat) (A:Array Value),off+k+cs.length≤A.size→
  ((cs.zipIdx k).foldl (fun (B:Array Value) (p:Value×Nat)=>B.setIfInBounds (off+p.2) p.1) A).toList=A.toList.take (off+k)++(cs++A.toList.drop (off+k+cs.length))
 | [],k,A,_=>by simp
 | c::cs,k,A,h=>by
   simp only [List.zipIdx_cons,List.foldl_cons]
   have hk:off+k < A.size:=by simp at h;omega
   rw [foldl_set off cs (k+1) _ (by simp at h ⊢;omega)]
   have hA:A.toList.length=A.size:=by simp
   have e1:(A.setIfInBounds (off+k) c).toList=A.toList.take (off+k)++c::A.toList.drop (off+k+1):=by
    rw [Array.toList_setIfInBounds,List.set_eq_take_append_cons_drop,if_pos (by simpa using hk)]
   rw [e1]
   have hlen:(A.toList.take (off+k)).length=off+k:=by rw [List.length_take,hA];omega
   have h2:List.take (off+(k+1)) (A.toList.take (off+k)++c::A.toList.drop (off+k+1))=A.toList.take (off+k)++[c]:=by
    rw [List.take_append,hlen]
    have:off+(k+1) - (off+k)=1:=by omega
    rw [this,List.take_of_length_le (by omega)]
    simp
   have h3:List.drop (off+(k+1)+cs.length) (A.toList.take (off+k)++c::A.toList.drop (off+k+1))=A.toList.drop (off+k+(c::cs).length):=by
    rw [List.drop_append,hlen]
    have:off+(k+1)+cs.length - (off+k)=cs.length+1:=by omega
    rw [this,List.drop_of_length_le (by omega)]
    simp only [List.drop_succ_cons,List.drop_drop,List.nil_append,List.length_cons]
    congr 1;omega
   rw [h2,h3]
   simp
noncomputable def sfill (place:Nat→Option (Nat×Nat)) (cells:List SV) (parts:List (Nat×SV)):Option (List SV):=
 List.rec (motive:=fun _=>List SV→Option (List SV)) (fun c=>some c) (fun p _ ih c=>
  match place p.1 with
  | none=>none
  | some (off,size)=>match p.2.cells with
    | none=>none
    | some cs=>bif Nat.beq (llen cs) size then (bif Nat.ble (Nat.add off size) (llen c) then ih (splice c off cs) else none) else none) parts cells
def PartsRel (σ:Sta) (ρ:Dyn):List (Nat×SV)→List (Nat×Value)→Prop
 | [],vs=>vs=[]
 | (i,x)::l,vs=>∃ u r,vs=(i,u)::r∧x.Is σ ρ u∧PartsRel σ ρ l r
theorem sfill_ok {place:Nat→Option (Nat×Nat)}:∀ {parts:List (Nat×SV)} {cells out:List SV} {vs:List (Nat×Value)} {A:Array Value},SV.IsL σ ρ cells A.toList→PartsRel σ ρ parts vs→
  sfill place cells parts=some out→∃ B,Instr.fill place A vs=some B∧SV.IsL σ ρ out B.toList
 | [],cells,out,vs,A,hc,hp,h=>by
   simp only [PartsRel] at hp;subst hp
   have h':some cells=some out:=h
   cases h'
   exact ⟨A,rfl,hc⟩
 | (i,x)::parts,cells,out,vs,A,hc,hp,h=>by
   obtain ⟨u,r,rfl,hx,hr⟩:=hp
   have h':(match place i with
    | none=>none
    | some (off,size)=>match x.cells with
      | none=>none
      | some cs=>bif Nat.beq (llen cs) size then (bif Nat.ble (Nat.add off size) (llen cells) then sfill place (splice cells off cs) parts else none) else none)=some out:=h
   split at h'
   ·cases h'
   ·rename_i off size hpl
    split at h'
    ·cases h'
    ·rename_i cs hcs
     cases h1:Nat.beq (llen cs) size with
     | false=>rw [h1] at h';cases h'
     | true=>
       cases h2:Nat.ble (Nat.add off size) (llen cells) with
       | false=>rw [h1,h2] at h';cases h'
       | true=>
         rw [h1,h2] at h'
         simp only [cond_true] at h'
         have e1:=Nat.eq_of_beq_eq_true h1
         have e2:=Nat.le_of_ble_eq_true h2
         rw [llen_eq] at e1 e2
         have hcu:=SV.cells_is hx hcs
         have l1:=SV.isL_length hcu
         have l2:=SV.isL_length hc
         have hsz:u.cells.size=size:=by rw [← e1,← l1];simp
         have e2':off+size≤A.size:=by
          have:A.size=cells.length:=by rw [← l2];simp
          rw [this];exact e2
         have hf:=foldl_set off u.cells.toList 0 A (by simp [hsz];omega)
         have hzip:u.cells.zipIdx.foldl (fun (cs:Array Value) (p:Value×Nat)=>cs.setIfInBounds (off+p.2) p.1) A=(u.cells.toList.zipIdx 0).foldl (fun (B:Array Value) (p:Value×Nat)=>B.setIfInBounds (off+p.2) p.1) A:=by
          rw [← Array.foldl_toList];simp
         obtain ⟨B,hB1,hB2⟩:=sfill_ok (place:=place) (A:=u.cells.zipIdx.foldl (fun (cs:Array Value) (p:Value×Nat)=>cs.setIfInBounds (off+p.2) p.1) A) (by
          rw [hzip,hf]
          simpa using splice_is off hc hcu) hr h'
         refine ⟨B,?_,hB2⟩
         simp only [Instr.fill,hpl]
         rw [if_neg (by simp [hsz];omega)]
         exact hB1
end
end Go.Sx
