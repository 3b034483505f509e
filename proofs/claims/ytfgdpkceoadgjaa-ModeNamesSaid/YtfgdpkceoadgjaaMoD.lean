/- Modes, holds, who waits: what is computed. -/
import Derived.Test.YtfgdpkceoadgjaaSxPl
import Derived.Test.YtfgdpkceoadgjaaProg
namespace Go.Sx.Mhw
set_option linter.unusedSimpArgs false
set_option linter.unusedVariables false
open Go Go.Sx Go.Proofs
/-! ### Modes -/
def inM (a : Int) : Prop := 0 ≤ a ∧ a ≤ 5
instance (a : Int) : Decidable (inM a) := by unfold inM; infer_instance
def fitP (a b : Int) : Prop := a = 0 ∨ b = 0 ∨ (a ≠ 5 ∧ b ≠ 5 ∧ (a = 1 ∨ b = 1 ∨ (a = b ∧ a ≠ 4)))
instance (a b : Int) : Decidable (fitP a b) := by unfold fitP; infer_instance
def covP (a b : Int) : Prop := a = b ∨ b = 0 ∨ a = 5 ∨ (a = 4 ∧ b < 4) ∨ (a ≠ 4 ∧ (a = 2 ∨ a = 3) ∧ b = 1)
instance (a b : Int) : Decidable (covP a b) := by unfold covP; infer_instance
/-- the cell f of the element i of a list -/
noncomputable def fl (c : Int) (i f : Nat) : Int := IntKind.i64.wrap (gt c i f)
/-- all are modes -/
def allM (c n : Int) : Prop := ∀ i : Nat, (i : Int) < n → inM (fl c i 0)
/-- m covers all -/
def covA (m c n : Int) : Prop := ∀ i : Nat, (i : Int) < n → covP m (fl c i 0)
/-- the elements ahead of k go together with m -/
def fitA (m c k : Int) : Prop := ∀ j : Nat, (j : Int) < k → fitP m (fl c j 0)
/-- all go together -/
def togA (c n : Int) : Prop := ∀ i : Nat, (i : Int) < n → fitA (fl c i 0) c i
noncomputable instance (c n : Int) : Decidable (allM c n) := Classical.propDecidable _
noncomputable instance (m c n : Int) : Decidable (covA m c n) := Classical.propDecidable _
noncomputable instance (m c n : Int) : Decidable (fitA m c n) := Classical.propDecidable _
noncomputable instance (c n : Int) : Decidable (togA c n) := Classical.propDecidable _
/-- the join -/
noncomputable def joinC (c n : Int) : Int := if covA 0 c n then 0 else if covA 1 c n then 1 else if covA 2 c n then 2 else if covA 3 c n then 3 else if covA 4 c n then 4 else 5
theorem joinC_in (c n : Int) : 0 ≤ joinC c n ∧ joinC c n ≤ 5 := by
  unfold joinC; repeat' split
  all_goals omega
noncomputable def U : FIx := fun i a b _ _ _ _ => match i with
  | 10 => if inM a ∧ inM b then 0 else 130
  | 11 => if allM a b then joinC a b else 0
  | 12 => if allM a b then 0 else 130
  | 13 => joinC a b
  | _ => 0
noncomputable def V : FBx := fun i a b _ _ _ _ => match i with
  | 10 => decide (inM a ∧ inM b ∧ fitP a b)
  | 11 => decide (inM a ∧ inM b ∧ covP a b)
  | 12 => decide (fitP a b)
  | 13 => decide (covP a b)
  | 14 => decide (allM a b ∧ togA a b)
  | 15 => decide (allM a b)
  | 16 => decide (togA a b)
  | _ => false
noncomputable def FI : FIx := mkFI U
noncomputable def FB : FBx := mkFB V
noncomputable def BFu : List (Nat × Int × Int) := [(10, 0, 130), (11, 0, 5), (12, 0, 130), (13, 0, 5)]
noncomputable def BF : List (Nat × Int × Int) := lapp BF0 BFu
theorem fiok : FiOk FI FB BF := by
  refine fiOk fun i a b hm => ?_
  simp only [BFu, List.mem_cons, List.not_mem_nil, or_false, Prod.mk.injEq] at hm
  rcases hm with ⟨rfl, rfl, rfl⟩ | ⟨rfl, rfl, rfl⟩ | ⟨rfl, rfl, rfl⟩ | ⟨rfl, rfl, rfl⟩ <;>
    (refine ⟨by omega, fun x0 x1 x2 x3 x4 x5 => ?_⟩
     have h := joinC_in x0 x1
     simp only [U]
     first | omega | (split <;> omega))
set_option maxRecDepth 100000 in
theorem pok : POk Try.prog [58, 84] := POk.of (by kernel_rfl) (by kernel_rfl) (by kernel_rfl)
noncomputable def o1 (z : SV) : List Out := [⟨[], z, [], 0, 0, []⟩]
noncomputable def i64b (i : Nat) : Nat × Int × Int := (i, -9223372036854775808, 9223372036854775807)
noncomputable def b2 : List (Nat × Int × Int) := [(0, -9223372036854775808, 9223372036854775807), (1, -9223372036854775808, 9223372036854775807)]
def ap2 (f : Nat) : SI := .ap f (.v 0) (.v 1) (.c 0) (.c 0) (.c 0) (.c 0)
def pb2 (f : Nat) : SB := .ap f (.v 0) (.v 1) (.c 0) (.c 0) (.c 0) (.c 0)
noncomputable def two : List SV := [.it .i64 (.v 0), .it .i64 (.v 1)]
noncomputable def cW3 : Con := ⟨24, [], [], [], [], [], o1 (.bo (.c true))⟩
noncomputable def eFits : Con := ⟨19, [0, 1], two, [], b2, [], o1 (.tp [.bo (pb2 10), .it .i64 (ap2 10)])⟩
noncomputable def eCovers : Con := ⟨20, [0, 1], two, [], b2, [], o1 (.tp [.bo (pb2 11), .it .i64 (ap2 10)])⟩
noncomputable def rFits : Con := ⟨25, [0, 1], two, [], b2, [], o1 (.bo (pb2 12))⟩
noncomputable def rCovers : Con := ⟨26, [0, 1], two, [], b2, [], o1 (.bo (pb2 13))⟩
/-- a list of modes that came in -/
noncomputable def lM : SV := .sl (.k 0) (.v 2) (.v 1) (.v 3)
noncomputable def gM : List Gv := [⟨0, .v 2, [.nt .i64], 0, .v 1⟩]
noncomputable def bM : List (Nat × Int × Int) := [(1, 0, 9223372036854775807), (2, 0, -1)]
noncomputable def fM : List (SB × Bool) := [(.le (.v 1) (.v 3), true), (.le (.c 0) (.v 3), true)]
noncomputable def eJoin : Con := ⟨27, [0, 1, 2, 3], [lM], gM, bM, fM, o1 (.tp [.it .i64 (ap2 11), .it .i64 (ap2 12)])⟩
noncomputable def eTog : Con := ⟨28, [0, 1, 2, 3], [lM], gM, bM, fM, o1 (.tp [.bo (pb2 14), .it .i64 (ap2 12)])⟩
noncomputable def rAll : Con := ⟨29, [0, 1, 2, 3], [lM], gM, bM, fM, o1 (.bo (pb2 15))⟩
noncomputable def rJoin : Con := ⟨30, [0, 1, 2, 3], [lM], gM, bM, fM, o1 (.it .i64 (ap2 13))⟩
noncomputable def rTog : Con := ⟨31, [0, 1, 2, 3], [lM], gM, bM, fM, o1 (.bo (pb2 16))⟩
theorem FI_3 (c j f a b d : Int) : FI 3 c j f a b d = fl c j.toNat f.toNat := rfl
theorem FI_8 (c j f x a b : Int) : FI 8 c j f x a b = setC c j f x := rfl
theorem FI_9 (c i c' i' n a : Int) : FI 9 c i c' i' n a = blitC c i c' i' n := rfl
theorem FIu (i : Nat) (a b c d e f : Int) (h : 10 ≤ i) : FI i a b c d e f = U i a b c d e f := by
  unfold FI mkFI
  rw [if_neg (by omega), if_neg (by omega), if_neg (by omega)]
theorem FBu (i : Nat) (a b c d e f : Int) (h : 10 ≤ i) : FB i a b c d e f = V i a b c d e f := by
  unfold FB mkFB
  rw [if_neg (by omega)]
theorem FI_10 (a b c d e f : Int) : FI 10 a b c d e f = if inM a ∧ inM b then 0 else 130 := FIu 10 _ _ _ _ _ _ (by omega)
theorem FI_11 (a b c d e f : Int) : FI 11 a b c d e f = if allM a b then joinC a b else 0 := FIu 11 _ _ _ _ _ _ (by omega)
theorem FI_12 (a b c d e f : Int) : FI 12 a b c d e f = if allM a b then 0 else 130 := FIu 12 _ _ _ _ _ _ (by omega)
theorem FI_13 (a b c d e f : Int) : FI 13 a b c d e f = joinC a b := FIu 13 _ _ _ _ _ _ (by omega)
theorem FB_10 (a b c d e f : Int) : (FB 10 a b c d e f = true) = (inM a ∧ inM b ∧ fitP a b) := by rw [FBu 10 _ _ _ _ _ _ (by omega)]; simp [V]
theorem FB_11 (a b c d e f : Int) : (FB 11 a b c d e f = true) = (inM a ∧ inM b ∧ covP a b) := by rw [FBu 11 _ _ _ _ _ _ (by omega)]; simp [V]
theorem FB_12 (a b c d e f : Int) : (FB 12 a b c d e f = true) = fitP a b := by rw [FBu 12 _ _ _ _ _ _ (by omega)]; simp [V]
theorem FB_13 (a b c d e f : Int) : (FB 13 a b c d e f = true) = covP a b := by rw [FBu 13 _ _ _ _ _ _ (by omega)]; simp [V]
theorem FB_14 (a b c d e f : Int) : (FB 14 a b c d e f = true) = (allM a b ∧ togA a b) := by rw [FBu 14 _ _ _ _ _ _ (by omega)]; simp [V]
theorem FB_15 (a b c d e f : Int) : (FB 15 a b c d e f = true) = allM a b := by rw [FBu 15 _ _ _ _ _ _ (by omega)]; simp [V]
theorem FB_16 (a b c d e f : Int) : (FB 16 a b c d e f = true) = togA a b := by rw [FBu 16 _ _ _ _ _ _ (by omega)]; simp [V]
theorem decT {p : Prop} {i : Decidable p} : (@decide p i = true) = p := propext ⟨of_decide_eq_true, decide_eq_true⟩
theorem tbvT {I : In} {S : Sta} {δ : Nat → Int} {j : Nat} : (In.tbv I S δ j = true) = (match get I.s.b j with | some e => e.tp S δ | none => S.bv j = true) := by
  unfold In.tbv
  cases get I.s.b j with
  | none => rfl
  | some e => exact decT
theorem six {b : Int} (h : inM b) : b = 0 ∨ b = 1 ∨ b = 2 ∨ b = 3 ∨ b = 4 ∨ b = 5 := by unfold inM at h; omega
/-- one more -/
theorem all_succ {P : Nat → Prop} {k : Int} (h0 : 0 ≤ k) (h : ∀ j : Nat, (j : Int) < k → P j) (hk : P k.toNat) : ∀ j : Nat, (j : Int) < k + 1 → P j := by
  intro j hj
  by_cases e : (j : Int) < k
  · exact h j e
  · have : j = k.toNat := by omega
    subst this; exact hk
end Go.Sx.Mhw
