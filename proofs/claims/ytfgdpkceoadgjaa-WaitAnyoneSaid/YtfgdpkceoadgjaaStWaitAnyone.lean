/- WaitAnyone: the statement: for every input the law returns true, and each argument reads as it did. -/
import Derived.Test.YtfgdpkceoadgjaaMhS
import Derived.Test.YtfgdpkceoadgjaaWoE
import Derived.Test.YtfgdpkceoadgjaaRows
namespace Go.Proofs.Ytfgdpkceoadgjaa.WaitAnyone
open Go Go.ChangeShapes Go.WideShapes Go.ChangeAt Go.RowKit Go.Joins Go.Sx
set_option linter.unusedVariables false
set_option linter.unusedSimpArgs false
open Go.Proofs.Ytfgdpkceoadgjaa
theorem walk11 (W:World) {b0 o0 n0 k0:Nat} {c0:Int} (l0:n0≤k0) (m0:k0≤maxLen) (g0:∀ j,j < n0→∀ (f:Nat) (κ:Kd),([.nt .i64,.nt .i64,.nt .i64,.nt .i64,.nt .i64]:List Kd)[f]? = some κ→W.cell? ⟨b0,o0+j * ([.nt .i64,.nt .i64,.nt .i64,.nt .i64,.nt .i64]:List Kd).length+f,none⟩=some (κ.of (gt c0 j f))) {x1:Int} (w1:(Lit.int .i64 x1).wf=true) {b2 o2 n2 k2:Nat} {c2:Int} (l2:n2≤k2) (m2:k2≤maxLen) (g2:∀ j,j < n2→∀ (f:Nat) (κ:Kd),([.nt .i64]:List Kd)[f]? = some κ→W.cell? ⟨b2,o2+j * ([.nt .i64]:List Kd).length+f,none⟩=some (κ.of (gt c2 j f))):Calls Try.prog 16 #[.slice (some ⟨b0,o0,none⟩) n0 k0,.int .i64 x1,.slice (some ⟨b2,o2,none⟩) n2 k2] W fun e W'=>e=.returned (.bool true)∧Below W.heap.size W W':=by
 unfold maxLen at m0
 have h1:=wf64 w1
 unfold maxLen at m2
 refine (Go.Sx.Mhw.lAny_ok ⟨fun i=>match i with | 0=>b0 | 1=>b2 | _=>0,fun _=>ByteArray.empty⟩ (fun i=>match i with | 0=>c0 | 1=>Int.ofNat n0 | 2=>Int.ofNat o0 | 3=>Int.ofNat k0 | 4=>x1 | 5=>Int.ofNat n2 | 6=>Int.ofNat o2 | 7=>Int.ofNat k2 | 8=>c2 | _=>0) (fun _=>false) (fun i a b hm=>?_) (fun p hp=>?_) W (fun G hG=>?_) [.slice (some ⟨b0,o0,none⟩) n0 k0,.int .i64 x1,.slice (some ⟨b2,o2,none⟩) n2 k2] ?_).mono fun e w' h=>ret_true rfl h
 ·simp only [Go.Sx.Mhw.lAny,Go.Sx.Mhw.bW,Go.Sx.Mhw.fM,Go.Sx.Mhw.gW,Go.Sx.Mhw.lW,Go.Sx.Mhw.kW,Go.Sx.Mhw.ints,Go.Sx.Mhw.i64s,Go.Sx.Mhw.i64b,Go.Sx.lmap_eq,Go.Sx.lapp_eq,List.map_cons,List.map_nil,List.cons_append,List.nil_append,Go.Sx.Mhw.o1,Go.Sx.Mhw.bLHy,Go.Sx.Mhw.bL1y,Go.Sx.Mhw.bL5y,Go.Sx.Mhw.gH,Go.Sx.Mhw.gHy,Go.Sx.Mhw.fH,Go.Sx.Mhw.fHy,Go.Sx.Mhw.lH,List.mem_cons,List.not_mem_nil,or_false,Prod.mk.injEq] at hm
  all_goals (first | exact hm.elim | (repeat' (rcases hm with ⟨rfl,rfl,rfl⟩ | hm))<;>(try obtain ⟨rfl,rfl,rfl⟩:=hm)<;>simp only [Int.ofNat_eq_natCast]<;>omega)
 ·simp only [Go.Sx.Mhw.lAny,Go.Sx.Mhw.bW,Go.Sx.Mhw.fM,Go.Sx.Mhw.gW,Go.Sx.Mhw.lW,Go.Sx.Mhw.kW,Go.Sx.Mhw.ints,Go.Sx.Mhw.i64s,Go.Sx.Mhw.i64b,Go.Sx.lmap_eq,Go.Sx.lapp_eq,List.map_cons,List.map_nil,List.cons_append,List.nil_append,Go.Sx.Mhw.o1,Go.Sx.Mhw.bLHy,Go.Sx.Mhw.bL1y,Go.Sx.Mhw.bL5y,Go.Sx.Mhw.gH,Go.Sx.Mhw.gHy,Go.Sx.Mhw.fH,Go.Sx.Mhw.fHy,Go.Sx.Mhw.lH,List.mem_cons,List.not_mem_nil,or_false] at hp
  all_goals (first | exact hp.elim | (repeat' (rcases hp with rfl | hp))<;>(try subst hp)<;>simp [SB.den,SI.den,sta]<;>omega)
 ·simp only [Go.Sx.Mhw.lAny,Go.Sx.Mhw.bW,Go.Sx.Mhw.fM,Go.Sx.Mhw.gW,Go.Sx.Mhw.lW,Go.Sx.Mhw.kW,Go.Sx.Mhw.ints,Go.Sx.Mhw.i64s,Go.Sx.Mhw.i64b,Go.Sx.lmap_eq,Go.Sx.lapp_eq,List.map_cons,List.map_nil,List.cons_append,List.nil_append,Go.Sx.Mhw.o1,Go.Sx.Mhw.bLHy,Go.Sx.Mhw.bL1y,Go.Sx.Mhw.bL5y,Go.Sx.Mhw.gH,Go.Sx.Mhw.gHy,Go.Sx.Mhw.fH,Go.Sx.Mhw.fHy,Go.Sx.Mhw.lH,List.mem_cons,List.not_mem_nil,or_false] at hG
  all_goals (rcases hG with rfl | rfl<;>first | exact gvIs_of (lay:=[.nt .i64,.nt .i64,.nt .i64,.nt .i64,.nt .i64]) rfl rfl rfl g0 | exact gvIs_of (lay:=[.nt .i64]) rfl rfl rfl g2)
 ·simp only [Go.Sx.Mhw.lAny,Go.Sx.Mhw.bW,Go.Sx.Mhw.fM,Go.Sx.Mhw.gW,Go.Sx.Mhw.lW,Go.Sx.Mhw.kW,Go.Sx.Mhw.ints,Go.Sx.Mhw.i64s,Go.Sx.Mhw.i64b,Go.Sx.lmap_eq,Go.Sx.lapp_eq,List.map_cons,List.map_nil,List.cons_append,List.nil_append,Go.Sx.Mhw.o1,Go.Sx.Mhw.bLHy,Go.Sx.Mhw.bL1y,Go.Sx.Mhw.bL5y,Go.Sx.Mhw.gH,Go.Sx.Mhw.gHy,Go.Sx.Mhw.fH,Go.Sx.Mhw.fHy,Go.Sx.Mhw.lH,SV.isL_cons,SV.isL_nil,SV.Is,SR.den,SI.den,SB.den,SS.den,sta]
  exact ⟨_,_,rfl,⟨_,_,_,_,rfl,rfl,rfl,rfl,rfl⟩,⟨_,_,rfl,⟨_,rfl,rfl⟩,⟨_,_,rfl,⟨_,_,_,_,rfl,rfl,rfl,rfl,rfl⟩,rfl⟩⟩⟩
theorem walk10 (W:World) {b0 o0 n0 k0:Nat} {c0:Int} (l0:n0≤k0) (m0:k0≤maxLen) (g0:∀ j,j < n0→∀ (f:Nat) (κ:Kd),([.nt .i64,.nt .i64,.nt .i64,.nt .i64,.nt .i64]:List Kd)[f]? = some κ→W.cell? ⟨b0,o0+j * ([.nt .i64,.nt .i64,.nt .i64,.nt .i64,.nt .i64]:List Kd).length+f,none⟩=some (κ.of (gt c0 j f))) {x1:Int} (w1:(Lit.int .i64 x1).wf=true):Calls Try.prog 16 #[.slice (some ⟨b0,o0,none⟩) n0 k0,.int .i64 x1,.slice none 0 0] W fun e W'=>e=.returned (.bool true)∧Below W.heap.size W W':=by
 unfold maxLen at m0
 have h1:=wf64 w1
 refine (Go.Sx.Mhw.lAnyA_ok ⟨fun i=>match i with | 0=>b0 | _=>0,fun _=>ByteArray.empty⟩ (fun i=>match i with | 0=>c0 | 1=>Int.ofNat n0 | 2=>Int.ofNat o0 | 3=>Int.ofNat k0 | 4=>x1 | _=>0) (fun _=>false) (fun i a b hm=>?_) (fun p hp=>?_) W (fun G hG=>?_) [.slice (some ⟨b0,o0,none⟩) n0 k0,.int .i64 x1,.slice none 0 0] ?_).mono fun e w' h=>ret_true rfl h
 ·simp only [Go.Sx.Mhw.lAnyA,Go.Sx.Mhw.bW,Go.Sx.Mhw.fM,Go.Sx.Mhw.gW,Go.Sx.Mhw.lW,Go.Sx.Mhw.kW,Go.Sx.Mhw.ints,Go.Sx.Mhw.i64s,Go.Sx.Mhw.i64b,Go.Sx.lmap_eq,Go.Sx.lapp_eq,List.map_cons,List.map_nil,List.cons_append,List.nil_append,Go.Sx.Mhw.o1,Go.Sx.Mhw.bLHy,Go.Sx.Mhw.bL1y,Go.Sx.Mhw.bL5y,Go.Sx.Mhw.gH,Go.Sx.Mhw.gHy,Go.Sx.Mhw.fH,Go.Sx.Mhw.fHy,Go.Sx.Mhw.lH,List.mem_cons,List.not_mem_nil,or_false,Prod.mk.injEq] at hm
  all_goals (first | exact hm.elim | (repeat' (rcases hm with ⟨rfl,rfl,rfl⟩ | hm))<;>(try obtain ⟨rfl,rfl,rfl⟩:=hm)<;>simp only [Int.ofNat_eq_natCast]<;>omega)
 ·simp only [Go.Sx.Mhw.lAnyA,Go.Sx.Mhw.bW,Go.Sx.Mhw.fM,Go.Sx.Mhw.gW,Go.Sx.Mhw.lW,Go.Sx.Mhw.kW,Go.Sx.Mhw.ints,Go.Sx.Mhw.i64s,Go.Sx.Mhw.i64b,Go.Sx.lmap_eq,Go.Sx.lapp_eq,List.map_cons,List.map_nil,List.cons_append,List.nil_append,Go.Sx.Mhw.o1,Go.Sx.Mhw.bLHy,Go.Sx.Mhw.bL1y,Go.Sx.Mhw.bL5y,Go.Sx.Mhw.gH,Go.Sx.Mhw.gHy,Go.Sx.Mhw.fH,Go.Sx.Mhw.fHy,Go.Sx.Mhw.lH,List.mem_cons,List.not_mem_nil,or_false] at hp
  all_goals (first | exact hp.elim | (repeat' (rcases hp with rfl | hp))<;>(try subst hp)<;>simp [SB.den,SI.den,sta]<;>omega)
 ·simp only [Go.Sx.Mhw.lAnyA,Go.Sx.Mhw.bW,Go.Sx.Mhw.fM,Go.Sx.Mhw.gW,Go.Sx.Mhw.lW,Go.Sx.Mhw.kW,Go.Sx.Mhw.ints,Go.Sx.Mhw.i64s,Go.Sx.Mhw.i64b,Go.Sx.lmap_eq,Go.Sx.lapp_eq,List.map_cons,List.map_nil,List.cons_append,List.nil_append,Go.Sx.Mhw.o1,Go.Sx.Mhw.bLHy,Go.Sx.Mhw.bL1y,Go.Sx.Mhw.bL5y,Go.Sx.Mhw.gH,Go.Sx.Mhw.gHy,Go.Sx.Mhw.fH,Go.Sx.Mhw.fHy,Go.Sx.Mhw.lH,List.mem_cons,List.not_mem_nil,or_false] at hG
  all_goals (subst hG;exact gvIs_of (lay:=[.nt .i64,.nt .i64,.nt .i64,.nt .i64,.nt .i64]) rfl rfl rfl g0)
 ·simp only [Go.Sx.Mhw.lAnyA,Go.Sx.Mhw.bW,Go.Sx.Mhw.fM,Go.Sx.Mhw.gW,Go.Sx.Mhw.lW,Go.Sx.Mhw.kW,Go.Sx.Mhw.ints,Go.Sx.Mhw.i64s,Go.Sx.Mhw.i64b,Go.Sx.lmap_eq,Go.Sx.lapp_eq,List.map_cons,List.map_nil,List.cons_append,List.nil_append,Go.Sx.Mhw.o1,Go.Sx.Mhw.bLHy,Go.Sx.Mhw.bL1y,Go.Sx.Mhw.bL5y,Go.Sx.Mhw.gH,Go.Sx.Mhw.gHy,Go.Sx.Mhw.fH,Go.Sx.Mhw.fHy,Go.Sx.Mhw.lH,SV.isL_cons,SV.isL_nil,SV.Is,SR.den,SI.den,SB.den,SS.den,sta]
  exact ⟨_,_,rfl,⟨_,_,_,_,rfl,rfl,rfl,rfl,rfl⟩,⟨_,_,rfl,⟨_,rfl,rfl⟩,⟨_,_,rfl,rfl,rfl⟩⟩⟩
theorem walk01 (W:World) {x1:Int} (w1:(Lit.int .i64 x1).wf=true) {b2 o2 n2 k2:Nat} {c2:Int} (l2:n2≤k2) (m2:k2≤maxLen) (g2:∀ j,j < n2→∀ (f:Nat) (κ:Kd),([.nt .i64]:List Kd)[f]? = some κ→W.cell? ⟨b2,o2+j * ([.nt .i64]:List Kd).length+f,none⟩=some (κ.of (gt c2 j f))):Calls Try.prog 16 #[.slice none 0 0,.int .i64 x1,.slice (some ⟨b2,o2,none⟩) n2 k2] W fun e W'=>e=.returned (.bool true)∧Below W.heap.size W W':=by
 have h1:=wf64 w1
 unfold maxLen at m2
 refine (Go.Sx.Mhw.lAnyB_ok ⟨fun i=>match i with | 1=>b2 | _=>0,fun _=>ByteArray.empty⟩ (fun i=>match i with | 4=>x1 | 5=>Int.ofNat n2 | 6=>Int.ofNat o2 | 7=>Int.ofNat k2 | 8=>c2 | _=>0) (fun _=>false) (fun i a b hm=>?_) (fun p hp=>?_) W (fun G hG=>?_) [.slice none 0 0,.int .i64 x1,.slice (some ⟨b2,o2,none⟩) n2 k2] ?_).mono fun e w' h=>ret_true rfl h
 ·simp only [Go.Sx.Mhw.lAnyB,Go.Sx.Mhw.bW,Go.Sx.Mhw.fM,Go.Sx.Mhw.gW,Go.Sx.Mhw.lW,Go.Sx.Mhw.kW,Go.Sx.Mhw.ints,Go.Sx.Mhw.i64s,Go.Sx.Mhw.i64b,Go.Sx.lmap_eq,Go.Sx.lapp_eq,List.map_cons,List.map_nil,List.cons_append,List.nil_append,Go.Sx.Mhw.o1,Go.Sx.Mhw.bLHy,Go.Sx.Mhw.bL1y,Go.Sx.Mhw.bL5y,Go.Sx.Mhw.gH,Go.Sx.Mhw.gHy,Go.Sx.Mhw.fH,Go.Sx.Mhw.fHy,Go.Sx.Mhw.lH,List.mem_cons,List.not_mem_nil,or_false,Prod.mk.injEq] at hm
  all_goals (first | exact hm.elim | (repeat' (rcases hm with ⟨rfl,rfl,rfl⟩ | hm))<;>(try obtain ⟨rfl,rfl,rfl⟩:=hm)<;>simp only [Int.ofNat_eq_natCast]<;>omega)
 ·simp only [Go.Sx.Mhw.lAnyB,Go.Sx.Mhw.bW,Go.Sx.Mhw.fM,Go.Sx.Mhw.gW,Go.Sx.Mhw.lW,Go.Sx.Mhw.kW,Go.Sx.Mhw.ints,Go.Sx.Mhw.i64s,Go.Sx.Mhw.i64b,Go.Sx.lmap_eq,Go.Sx.lapp_eq,List.map_cons,List.map_nil,List.cons_append,List.nil_append,Go.Sx.Mhw.o1,Go.Sx.Mhw.bLHy,Go.Sx.Mhw.bL1y,Go.Sx.Mhw.bL5y,Go.Sx.Mhw.gH,Go.Sx.Mhw.gHy,Go.Sx.Mhw.fH,Go.Sx.Mhw.fHy,Go.Sx.Mhw.lH,List.mem_cons,List.not_mem_nil,or_false] at hp
  all_goals (first | exact hp.elim | (repeat' (rcases hp with rfl | hp))<;>(try subst hp)<;>simp [SB.den,SI.den,sta]<;>omega)
 ·simp only [Go.Sx.Mhw.lAnyB,Go.Sx.Mhw.bW,Go.Sx.Mhw.fM,Go.Sx.Mhw.gW,Go.Sx.Mhw.lW,Go.Sx.Mhw.kW,Go.Sx.Mhw.ints,Go.Sx.Mhw.i64s,Go.Sx.Mhw.i64b,Go.Sx.lmap_eq,Go.Sx.lapp_eq,List.map_cons,List.map_nil,List.cons_append,List.nil_append,Go.Sx.Mhw.o1,Go.Sx.Mhw.bLHy,Go.Sx.Mhw.bL1y,Go.Sx.Mhw.bL5y,Go.Sx.Mhw.gH,Go.Sx.Mhw.gHy,Go.Sx.Mhw.fH,Go.Sx.Mhw.fHy,Go.Sx.Mhw.lH,List.mem_cons,List.not_mem_nil,or_false] at hG
  all_goals (subst hG;exact gvIs_of (lay:=[.nt .i64]) rfl rfl rfl g2)
 ·simp only [Go.Sx.Mhw.lAnyB,Go.Sx.Mhw.bW,Go.Sx.Mhw.fM,Go.Sx.Mhw.gW,Go.Sx.Mhw.lW,Go.Sx.Mhw.kW,Go.Sx.Mhw.ints,Go.Sx.Mhw.i64s,Go.Sx.Mhw.i64b,Go.Sx.lmap_eq,Go.Sx.lapp_eq,List.map_cons,List.map_nil,List.cons_append,List.nil_append,Go.Sx.Mhw.o1,Go.Sx.Mhw.bLHy,Go.Sx.Mhw.bL1y,Go.Sx.Mhw.bL5y,Go.Sx.Mhw.gH,Go.Sx.Mhw.gHy,Go.Sx.Mhw.fH,Go.Sx.Mhw.fHy,Go.Sx.Mhw.lH,SV.isL_cons,SV.isL_nil,SV.Is,SR.den,SI.den,SB.den,SS.den,sta]
  exact ⟨_,_,rfl,rfl,⟨_,_,rfl,⟨_,rfl,rfl⟩,⟨_,_,rfl,⟨_,_,_,_,rfl,rfl,rfl,rfl,rfl⟩,rfl⟩⟩⟩
theorem walk00 (W:World) {x1:Int} (w1:(Lit.int .i64 x1).wf=true):Calls Try.prog 16 #[.slice none 0 0,.int .i64 x1,.slice none 0 0] W fun e W'=>e=.returned (.bool true)∧Below W.heap.size W W':=by
 have h1:=wf64 w1
 refine (Go.Sx.Mhw.lAnyC_ok ⟨fun _=>0,fun _=>ByteArray.empty⟩ (fun i=>match i with | 4=>x1 | _=>0) (fun _=>false) (fun i a b hm=>?_) (fun p hp=>?_) W (fun G hG=>?_) [.slice none 0 0,.int .i64 x1,.slice none 0 0] ?_).mono fun e w' h=>ret_true rfl h
 ·simp only [Go.Sx.Mhw.lAnyC,Go.Sx.Mhw.bW,Go.Sx.Mhw.fM,Go.Sx.Mhw.gW,Go.Sx.Mhw.lW,Go.Sx.Mhw.kW,Go.Sx.Mhw.ints,Go.Sx.Mhw.i64s,Go.Sx.Mhw.i64b,Go.Sx.lmap_eq,Go.Sx.lapp_eq,List.map_cons,List.map_nil,List.cons_append,List.nil_append,Go.Sx.Mhw.o1,Go.Sx.Mhw.bLHy,Go.Sx.Mhw.bL1y,Go.Sx.Mhw.bL5y,Go.Sx.Mhw.gH,Go.Sx.Mhw.gHy,Go.Sx.Mhw.fH,Go.Sx.Mhw.fHy,Go.Sx.Mhw.lH,List.mem_cons,List.not_mem_nil,or_false,Prod.mk.injEq] at hm
  all_goals (first | exact hm.elim | (repeat' (rcases hm with ⟨rfl,rfl,rfl⟩ | hm))<;>(try obtain ⟨rfl,rfl,rfl⟩:=hm)<;>simp only [Int.ofNat_eq_natCast]<;>omega)
 ·simp only [Go.Sx.Mhw.lAnyC,Go.Sx.Mhw.bW,Go.Sx.Mhw.fM,Go.Sx.Mhw.gW,Go.Sx.Mhw.lW,Go.Sx.Mhw.kW,Go.Sx.Mhw.ints,Go.Sx.Mhw.i64s,Go.Sx.Mhw.i64b,Go.Sx.lmap_eq,Go.Sx.lapp_eq,List.map_cons,List.map_nil,List.cons_append,List.nil_append,Go.Sx.Mhw.o1,Go.Sx.Mhw.bLHy,Go.Sx.Mhw.bL1y,Go.Sx.Mhw.bL5y,Go.Sx.Mhw.gH,Go.Sx.Mhw.gHy,Go.Sx.Mhw.fH,Go.Sx.Mhw.fHy,Go.Sx.Mhw.lH,List.mem_cons,List.not_mem_nil,or_false] at hp
  all_goals (first | exact hp.elim | (repeat' (rcases hp with rfl | hp))<;>(try subst hp)<;>simp [SB.den,SI.den,sta]<;>omega)
 ·simp only [Go.Sx.Mhw.lAnyC,Go.Sx.Mhw.bW,Go.Sx.Mhw.fM,Go.Sx.Mhw.gW,Go.Sx.Mhw.lW,Go.Sx.Mhw.kW,Go.Sx.Mhw.ints,Go.Sx.Mhw.i64s,Go.Sx.Mhw.i64b,Go.Sx.lmap_eq,Go.Sx.lapp_eq,List.map_cons,List.map_nil,List.cons_append,List.nil_append,Go.Sx.Mhw.o1,Go.Sx.Mhw.bLHy,Go.Sx.Mhw.bL1y,Go.Sx.Mhw.bL5y,Go.Sx.Mhw.gH,Go.Sx.Mhw.gHy,Go.Sx.Mhw.fH,Go.Sx.Mhw.fHy,Go.Sx.Mhw.lH,List.mem_cons,List.not_mem_nil,or_false] at hG
  all_goals (exact hG.elim)
 ·simp only [Go.Sx.Mhw.lAnyC,Go.Sx.Mhw.bW,Go.Sx.Mhw.fM,Go.Sx.Mhw.gW,Go.Sx.Mhw.lW,Go.Sx.Mhw.kW,Go.Sx.Mhw.ints,Go.Sx.Mhw.i64s,Go.Sx.Mhw.i64b,Go.Sx.lmap_eq,Go.Sx.lapp_eq,List.map_cons,List.map_nil,List.cons_append,List.nil_append,Go.Sx.Mhw.o1,Go.Sx.Mhw.bLHy,Go.Sx.Mhw.bL1y,Go.Sx.Mhw.bL5y,Go.Sx.Mhw.gH,Go.Sx.Mhw.gHy,Go.Sx.Mhw.fH,Go.Sx.Mhw.fHy,Go.Sx.Mhw.lH,SV.isL_cons,SV.isL_nil,SV.Is,SR.den,SI.den,SB.den,SS.den,sta]
  exact ⟨_,_,rfl,rfl,⟨_,_,rfl,⟨_,rfl,rfl⟩,⟨_,_,rfl,rfl,rfl⟩⟩⟩
set_option maxRecDepth 100000 in
theorem lifted (os:Os) (started:os.Started) (H:Type) (enc:TypeId×Value→H) :
  ReturnsInHanded {} Try.checked os 16 .any (Rows.waitAnyoneSpec.pre6 enc Try.prog Try.f16 Rows.waitAnyoneRow.domain false) (Rows.waitAnyoneSpec.post enc Try.prog Try.f16 false true false false):=by
 refine returnsInHanded_of_change (C:=Try.checked) own started (by kernel_rfl) Try.func16
  (ChangeSpec.witness6 (enc:=enc) (C:=Try.checked) false ⟨#[],#[.slice none 0 0,.int .i64 0,.slice none 0 0],[]⟩ 8 (by kernel_rfl) (by kernel_rfl) (by kernel_rfl) (by kernel_rfl)) ?_
 intro W base args ds gs before hval0 hW hcnd _
 have hval:∀ (j:Nat) t v,Try.f16.params[j]? = some t→args[j]? = some v→Value.okWide Try.prog W .any base t v:=hval0
 have hW':=hW
 obtain ⟨p,q,hA0,hV,rfl,hfz,hnd⟩:=hW
 have hA:DataW.TrodAll enc Try.prog W 0 (fun _=>true) true Try.f16.params.toList args.toList ds p:=hA0
 rw [Try.params16] at hA hval
 obtain ⟨v0,vs0,d0,ds0,p0,q0,hargs,rfl,rfl,h0,r0⟩:=trodAll_cons hA
 obtain ⟨v1,vs1,d1,ds1,p1,q1,rfl,rfl,rfl,h1,r1⟩:=trodAll_cons r0
 obtain ⟨v2,vs2,d2,ds2,p2,q2,rfl,rfl,rfl,h2,r2⟩:=trodAll_cons r1
 obtain ⟨rfl,rfl,rfl⟩:=trodAll_nil r2
 obtain rfl:args=#[v0,v1,v2]:=by cases args;simp_all
 obtain ⟨rfl,rfl⟩:=trodVars_none hV
 rw [List.append_nil] at hW'
 obtain ⟨x1,rfl,rfl,rfl,w1⟩:=open_int Try.underlying3 (hval 1 3 v1 rfl rfl) h1
 rcases open_rows kids (d:=5) (lay:=[.nt .i64,.nt .i64,.nt .i64,.nt .i64,.nt .i64]) Try.underlying76 (by decide +kernel) (by kernel_rfl) (by kernel_rfl) (hval 0 76 v0 rfl rfl) h0 with rfl | ⟨b0,o0,n0,k0,c0,rfl,l0,m0,g0⟩
 ·rcases open_rows kids (d:=1) (lay:=[.nt .i64]) Try.underlying31 (by decide +kernel) (by kernel_rfl) (by kernel_rfl) (hval 2 31 v2 rfl rfl) h2 with rfl | ⟨b2,o2,n2,k2,c2,rfl,l2,m2,g2⟩
  ·refine (walk00 W w1).mono fun e W' hh=>?_
   obtain ⟨he,hb⟩:=hh
   subst he
   exact ⟨_,rfl,law_post laid rowed full (by kernel_rfl) rfl (by kernel_rfl) Try.underlying4 hW' hA0 rfl hb⟩
  ·refine (walk01 W w1 l2 m2 g2).mono fun e W' hh=>?_
   obtain ⟨he,hb⟩:=hh
   subst he
   exact ⟨_,rfl,law_post laid rowed full (by kernel_rfl) rfl (by kernel_rfl) Try.underlying4 hW' hA0 rfl hb⟩
 ·rcases open_rows kids (d:=1) (lay:=[.nt .i64]) Try.underlying31 (by decide +kernel) (by kernel_rfl) (by kernel_rfl) (hval 2 31 v2 rfl rfl) h2 with rfl | ⟨b2,o2,n2,k2,c2,rfl,l2,m2,g2⟩
  ·refine (walk10 W l0 m0 g0 w1).mono fun e W' hh=>?_
   obtain ⟨he,hb⟩:=hh
   subst he
   exact ⟨_,rfl,law_post laid rowed full (by kernel_rfl) rfl (by kernel_rfl) Try.underlying4 hW' hA0 rfl hb⟩
  ·refine (walk11 W l0 m0 g0 w1 l2 m2 g2).mono fun e W' hh=>?_
   obtain ⟨he,hb⟩:=hh
   subst he
   exact ⟨_,rfl,law_post laid rowed full (by kernel_rfl) rfl (by kernel_rfl) Try.underlying4 hW' hA0 rfl hb⟩
theorem proved:Rows.WaitAnyoneSaid:=
 OpenClaim.holds_of_wide 16 Try.f16 rfl rfl rfl rfl rfl rfl rfl ⟨rfl,rfl,rfl,rfl,rfl⟩ rfl rfl rfl rfl rfl (by kernel_rfl) Try.func16 (by kernel_rfl)
  (of_decide_eq_true (by kernel_rfl)) (by unfold Func.isWrapper;first | (rw [if_pos (by decide +kernel)];kernel_rfl) | (rw [if_neg (by decide +kernel)];exact ⟨rfl,rfl⟩))
  (fun os started H enc _=>lifted os started H enc)
#print axioms proved
end Go.Proofs.Ytfgdpkceoadgjaa.WaitAnyone
