/- Escrow: what is computed. -/
import Derived.Test.YtimdcofalpglbaaSxPl
import Derived.Test.YtimdcofalpglbaaProg
namespace Go.Sx.Esc
set_option linter.unusedSimpArgs false
set_option linter.unusedVariables false
open Go Go.Sx Go.Proofs
noncomputable def ctr : SV := .ag [.it .i64 (.v 0), .it .i64 (.v 1), .it .u64 (.v 2)]
noncomputable def b3 : List (Nat × Int × Int) := [(0, -9223372036854775808, 9223372036854775807), (1, -9223372036854775808, 9223372036854775807), (2, 0, 18446744073709551615)]
noncomputable def b4 : List (Nat × Int × Int) := (3, -9223372036854775808, 9223372036854775807) :: b3
def ap4 (f : Nat) : SI := .ap f (.v 0) (.v 1) (.v 2) (.v 3) (.c 0) (.c 0)
def RR (a : Nat) : SV := .tp [.ag [.it .i64 (ap4 a), .it .i64 (ap4 (Nat.add a 1)), .it .u64 (ap4 (Nat.add a 2))], .it .i64 (ap4 (Nat.add a 3))]

/-! ### v: the value, f: the floor, r: the version, n: the number -/
def dE (v f r n : Int) : Int := if f ≤ v ∧ r ≤ 4611686018427387904 ∧ 0 < n then (if v - f < n then 140 else if 4611686018427387904 ≤ r then 142 else 0) else 2
def cE (v f r n : Int) : Int := if f ≤ v ∧ r ≤ 4611686018427387904 ∧ 0 < n then (if 9223372036854775807 - v < n then 141 else if 4611686018427387904 ≤ r then 142 else 0) else 2
def xE (v f r n : Int) : Int := if 0 < n then cE v f r n else dE v f r (-n)
def onOk (e x : Int) : Int := if e = 0 then x else 0
/-- a counter behind a change -/
def nxt (s : Int × Int × Int) (n : Int) : Int × Int × Int :=
  (IntKind.i64.wrap (onOk (xE s.1 s.2.1 s.2.2 n) (s.1 + n)), IntKind.i64.wrap (onOk (xE s.1 s.2.1 s.2.2 n) s.2.1), IntKind.u64.wrap (onOk (xE s.1 s.2.1 s.2.2 n) (s.2.2 + 1)))
/-- the changes -/
noncomputable def el (c : Int) (i : Nat) : Int := IntKind.i64.wrap (gt c i 0)
noncomputable def seq (s : Int × Int × Int) (c : Int) : Nat → Int × Int × Int
  | 0 => s
  | i + 1 => nxt (seq s c i) (el c i)
noncomputable def er (s : Int × Int × Int) (c : Int) (i : Nat) : Int := xE (seq s c i).1 (seq s c i).2.1 (seq s c i).2.2 (el c i)
/-- how many are done -/
noncomputable def mny (s : Int × Int × Int) (c : Int) : Nat → Nat
  | 0 => 0
  | n + 1 => if mny s c n = n ∧ er s c n = 0 then n + 1 else mny s c n
theorem mny_le (s : Int × Int × Int) (c : Int) (n : Nat) : mny s c n ≤ n := by
  induction n with
  | zero => exact Nat.le_refl _
  | succ n ih => unfold mny; split <;> omega
theorem mny_fine (s : Int × Int × Int) (c : Int) (n : Nat) : ∀ j, j < mny s c n → er s c j = 0 := by
  induction n with
  | zero => intro j hj; simp [mny] at hj
  | succ n ih =>
    intro j hj
    unfold mny at hj
    split at hj
    · rename_i h
      by_cases h2 : j = n
      · rw [h2]; exact h.2
      · exact ih j (by omega)
    · exact ih j hj
theorem mny_stop (s : Int × Int × Int) (c : Int) (n : Nat) (h : mny s c n < n) : er s c (mny s c n) ≠ 0 := by
  induction n with
  | zero => omega
  | succ n ih =>
    unfold mny at h ⊢
    split at h
    · omega
    · rename_i hn
      rw [if_neg hn]
      have hle := mny_le s c n
      by_cases h2 : mny s c n = n
      · rw [h2]; intro he; exact hn ⟨h2, he⟩
      · exact ih (by omega)
/-- it is told by what it does -/
theorem mny_eq {s : Int × Int × Int} {c : Int} {n m : Nat} (h1 : m ≤ n) (h2 : ∀ j, j < m → er s c j = 0) (h3 : m = n ∨ er s c m ≠ 0) : mny s c n = m := by
  have a := mny_le s c n
  rcases Nat.lt_trichotomy (mny s c n) m with h | h | h
  · exact absurd (h2 _ h) (mny_stop s c n (by omega))
  · exact h
  · rcases h3 with h3 | h3
    · omega
    · exact absurd (mny_fine s c n m h) h3
noncomputable def M (v f r c n : Int) : Nat := if n ≤ 50 then mny (v, f, r) c n.toNat else 0
theorem M_le (v f r c n : Int) : M v f r c n ≤ 50 := by
  unfold M
  split
  · have := mny_le (v, f, r) c n.toNat; omega
  · omega
noncomputable def U : FIx := fun i v f r n k _ => match i with
  | 10 => IntKind.i64.wrap (onOk (dE v f r n) (v - n))
  | 11 => IntKind.i64.wrap (onOk (dE v f r n) f)
  | 12 => IntKind.u64.wrap (onOk (dE v f r n) (r + 1))
  | 13 => dE v f r n
  | 14 => IntKind.i64.wrap (onOk (cE v f r n) (v + n))
  | 15 => IntKind.i64.wrap (onOk (cE v f r n) f)
  | 16 => IntKind.u64.wrap (onOk (cE v f r n) (r + 1))
  | 17 => cE v f r n
  | 18 => (nxt (v, f, r) n).1
  | 19 => (nxt (v, f, r) n).2.1
  | 20 => (nxt (v, f, r) n).2.2
  | 21 => xE v f r n
  | 22 => M v f r n k
  | 23 => if (M v f r n k : Int) < k then er (v, f, r) n (M v f r n k) else 0
  | 24 => arrC (M v f r n k) 3 fun j a => match a with | 0 => (seq (v, f, r) n (j + 1)).1 | 1 => (seq (v, f, r) n (j + 1)).2.1 | _ => (seq (v, f, r) n (j + 1)).2.2
  | 25 => IntKind.i64.wrap (seq (v, f, r) n (M v f r n k)).1
  | 26 => IntKind.i64.wrap (seq (v, f, r) n (M v f r n k)).2.1
  | 27 => IntKind.u64.wrap (seq (v, f, r) n (M v f r n k)).2.2
  | _ => 0
def V : FBx := fun _ _ _ _ _ _ _ => false
noncomputable def FI : FIx := mkFI U
noncomputable def FB : FBx := mkFB V
noncomputable def BFu : List (Nat × Int × Int) := [(10, -9223372036854775808, 9223372036854775807), (11, -9223372036854775808, 9223372036854775807), (12, 0, 18446744073709551615), (13, 0, 200), (14, -9223372036854775808, 9223372036854775807), (15, -9223372036854775808, 9223372036854775807), (16, 0, 18446744073709551615), (17, 0, 200), (18, -9223372036854775808, 9223372036854775807), (19, -9223372036854775808, 9223372036854775807), (20, 0, 18446744073709551615), (21, 0, 200), (22, 0, 50), (23, 0, 200), (25, -9223372036854775808, 9223372036854775807), (26, -9223372036854775808, 9223372036854775807), (27, 0, 18446744073709551615)]
noncomputable def BF : List (Nat × Int × Int) := lapp BF0 BFu
theorem dE_in (v f r n : Int) : 0 ≤ dE v f r n ∧ dE v f r n ≤ 200 := by
  unfold dE; repeat' split
  all_goals omega
theorem cE_in (v f r n : Int) : 0 ≤ cE v f r n ∧ cE v f r n ≤ 200 := by
  unfold cE; repeat' split
  all_goals omega
theorem xE_in (v f r n : Int) : 0 ≤ xE v f r n ∧ xE v f r n ≤ 200 := by
  unfold xE; split
  · exact cE_in _ _ _ _
  · exact dE_in _ _ _ _
theorem fiok : FiOk FI FB BF := by
  refine fiOk fun i a b hm => ?_
  simp only [BFu, List.mem_cons, List.not_mem_nil, or_false, Prod.mk.injEq] at hm
  rcases hm with ⟨rfl, rfl, rfl⟩ | ⟨rfl, rfl, rfl⟩ | ⟨rfl, rfl, rfl⟩ | ⟨rfl, rfl, rfl⟩ | ⟨rfl, rfl, rfl⟩ | ⟨rfl, rfl, rfl⟩ | ⟨rfl, rfl, rfl⟩ | ⟨rfl, rfl, rfl⟩ | ⟨rfl, rfl, rfl⟩ | ⟨rfl, rfl, rfl⟩ | ⟨rfl, rfl, rfl⟩ | ⟨rfl, rfl, rfl⟩ | ⟨rfl, rfl, rfl⟩ | ⟨rfl, rfl, rfl⟩ | ⟨rfl, rfl, rfl⟩ | ⟨rfl, rfl, rfl⟩ | ⟨rfl, rfl, rfl⟩ <;>
    (refine ⟨by omega, fun x0 x1 x2 x3 x4 x5 => ?_⟩
     have h1 := dE_in x0 x1 x2 x3
     have h2 := cE_in x0 x1 x2 x3
     have h3 := xE_in x0 x1 x2 x3
     have h4 := M_le x0 x1 x2 x3 x4
     simp only [U, nxt, wrap_i64, wrap_u64]
     first
       | omega
       | (split
          · exact xE_in _ _ _ _
          · omega))
set_option maxRecDepth 100000 in
theorem pok : POk Try.prog [24] := POk.of (by kernel_rfl) (by kernel_rfl) (by kernel_rfl)
noncomputable def o1 (z : SV) : List Out := [⟨[], z, [], 0, 0, []⟩]
noncomputable def cWorks : Con := ⟨17, [], [], [], [], [], o1 (.bo (.c true))⟩
noncomputable def eD : Con := ⟨8, [0, 1, 2, 3], [ctr, .it .i64 (.v 3)], [], b4, [], o1 (RR 10)⟩
noncomputable def rD : Con := ⟨11, [0, 1, 2, 3], [ctr, .it .i64 (.v 3)], [], b4, [], o1 (RR 10)⟩
noncomputable def eC : Con := ⟨9, [0, 1, 2, 3], [ctr, .it .i64 (.v 3)], [], b4, [], o1 (RR 14)⟩
noncomputable def rC : Con := ⟨12, [0, 1, 2, 3], [ctr, .it .i64 (.v 3)], [], b4, [], o1 (RR 14)⟩
noncomputable def eX : Con := ⟨10, [0, 1, 2, 3], [ctr, .it .i64 (.v 3)], [], b4, [], o1 (RR 18)⟩
noncomputable def rX : Con := ⟨13, [0, 1, 2, 3], [ctr, .it .i64 (.v 3)], [], b4, [], o1 (RR 18)⟩
def ap5 (f : Nat) : SI := .ap f (.v 0) (.v 1) (.v 2) (.v 6) (.v 3) (.c 0)
noncomputable def bL : List (Nat × Int × Int) := (3, 0, 50) :: (4, 0, -1) :: b3
noncomputable def lay3 : List Kd := [.nt .i64, .nt .i64, .nt .u64]
noncomputable def rRun : Con := ⟨21, [0, 1, 2, 3, 4, 5], [ctr, .sl (.k 0) (.v 4) (.v 3) (.v 5)], [⟨0, .v 4, [.nt .i64], 6, .v 3⟩], bL, [(.le (.c 0) (.v 5), true)],
  [⟨[(.eq (ap5 22) (.c 0), true)], .tp [.sn, .it .i64 (ap5 23)], [], 0, 0, []⟩,
   ⟨[(.eq (ap5 22) (.c 0), false)], .tp [.sl (.n 0) (.c 0) (ap5 22) (.d 0), .it .i64 (ap5 23)], [(0, .arr lay3 (ap5 24) (ap5 22) 24 (.d 0))], 1, 1, [(.le (ap5 22) (.d 0), true)]⟩]⟩
end Go.Sx.Esc
