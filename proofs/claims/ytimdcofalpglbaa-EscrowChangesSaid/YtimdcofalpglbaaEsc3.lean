/- Escrow: the contracts of a debit, a credit, a change. -/
import Derived.Test.YtimdcofalpglbaaSxU
import Derived.Test.YtimdcofalpglbaaProg
namespace Go.Sx.Esc
set_option linter.unusedSimpArgs false
set_option linter.unusedVariables false
open Go Go.Sx Go.Proofs
noncomputable def ctr : SV := .ag [.it .i64 (.v 0), .it .i64 (.v 1), .it .u64 (.v 2)]
noncomputable def b3 : List (Nat × Int × Int) := [(0, -9223372036854775808, 9223372036854775807), (1, -9223372036854775808, 9223372036854775807), (2, 0, 18446744073709551615)]
noncomputable def b4 : List (Nat × Int × Int) := (3, -9223372036854775808, 9223372036854775807) :: b3
def ap4 (f : Nat) : SI := .ap f (.v 0) (.v 1) (.v 2) (.v 3) (.c 0) (.c 0)
def RR (a : Nat) : SV := .tp [.ag [.it .i64 (ap4 a), .it .i64 (ap4 (Nat.add a 1)), .it .u64 (ap4 (Nat.add a 2))], .it .i64 (ap4 (Nat.add a 3))]

/-! ### What is computed: v: the value, f: the floor, r: the version, n: the number -/
def dE (v f r n : Int) : Int := if f ≤ v ∧ r ≤ 4611686018427387904 ∧ 0 < n then (if v - f < n then 140 else if 4611686018427387904 ≤ r then 142 else 0) else 2
def cE (v f r n : Int) : Int := if f ≤ v ∧ r ≤ 4611686018427387904 ∧ 0 < n then (if 9223372036854775807 - v < n then 141 else if 4611686018427387904 ≤ r then 142 else 0) else 2
def xE (v f r n : Int) : Int := if 0 < n then cE v f r n else dE v f r (-n)
def onOk (e x : Int) : Int := if e = 0 then x else 0
def FI : FIx := fun i v f r n _ _ => match i with
  | 0 => IntKind.i64.wrap (onOk (dE v f r n) (v - n))
  | 1 => IntKind.i64.wrap (onOk (dE v f r n) f)
  | 2 => IntKind.u64.wrap (onOk (dE v f r n) (r + 1))
  | 3 => dE v f r n
  | 4 => IntKind.i64.wrap (onOk (cE v f r n) (v + n))
  | 5 => IntKind.i64.wrap (onOk (cE v f r n) f)
  | 6 => IntKind.u64.wrap (onOk (cE v f r n) (r + 1))
  | 7 => cE v f r n
  | 8 => IntKind.i64.wrap (onOk (xE v f r n) (v + n))
  | 9 => IntKind.i64.wrap (onOk (xE v f r n) f)
  | 10 => IntKind.u64.wrap (onOk (xE v f r n) (r + 1))
  | 11 => xE v f r n
  | _ => 0
def FB : FBx := fun _ _ _ _ _ _ _ => false
def BF : List (Nat × Int × Int) := [(0, -9223372036854775808, 9223372036854775807), (1, -9223372036854775808, 9223372036854775807), (2, 0, 18446744073709551615), (3, 0, 200), (4, -9223372036854775808, 9223372036854775807), (5, -9223372036854775808, 9223372036854775807), (6, 0, 18446744073709551615), (7, 0, 200), (8, -9223372036854775808, 9223372036854775807), (9, -9223372036854775808, 9223372036854775807), (10, 0, 18446744073709551615), (11, 0, 200)]
theorem dE_in (v f r n : Int) : 0 ≤ dE v f r n ∧ dE v f r n ≤ 200 := by
  unfold dE; repeat' split
  all_goals omega
theorem cE_in (v f r n : Int) : 0 ≤ cE v f r n ∧ cE v f r n ≤ 200 := by
  unfold cE; repeat' split
  all_goals omega
theorem xE_in (v f r n : Int) : 0 ≤ xE v f r n ∧ xE v f r n ≤ 200 := by
  unfold xE; split
  · exact cE_in _ _ _ _
  · exact dE_in _ _ _ _
theorem bf : BfOk FI BF := by
  intro i a b hm x0 x1 x2 x3 x4 x5
  simp only [BF, List.mem_cons, List.not_mem_nil, or_false, Prod.mk.injEq] at hm
  have h1 := dE_in x0 x1 x2 x3
  have h2 := cE_in x0 x1 x2 x3
  have h3 := xE_in x0 x1 x2 x3
  rcases hm with ⟨rfl, rfl, rfl⟩ | ⟨rfl, rfl, rfl⟩ | ⟨rfl, rfl, rfl⟩ | ⟨rfl, rfl, rfl⟩ | ⟨rfl, rfl, rfl⟩ | ⟨rfl, rfl, rfl⟩ | ⟨rfl, rfl, rfl⟩ | ⟨rfl, rfl, rfl⟩ | ⟨rfl, rfl, rfl⟩ | ⟨rfl, rfl, rfl⟩ | ⟨rfl, rfl, rfl⟩ | ⟨rfl, rfl, rfl⟩ <;> simp only [FI, wrap_i64, wrap_u64] <;> omega
noncomputable def cWorks : Con := ⟨17, [], [], .bo (.c true)⟩
noncomputable def eD : Con := ⟨8, [ctr, .it .i64 (.v 3)], b4, RR 0⟩
noncomputable def rD : Con := ⟨11, [ctr, .it .i64 (.v 3)], b4, RR 0⟩
noncomputable def eC : Con := ⟨9, [ctr, .it .i64 (.v 3)], b4, RR 4⟩
noncomputable def rC : Con := ⟨12, [ctr, .it .i64 (.v 3)], b4, RR 4⟩
noncomputable def eX : Con := ⟨10, [ctr, .it .i64 (.v 3)], b4, RR 8⟩
noncomputable def rX : Con := ⟨13, [ctr, .it .i64 (.v 3)], b4, RR 8⟩
set_option maxRecDepth 100000 in
theorem pok : POk Try.prog [24] := POk.of (by kernel_rfl) (by kernel_rfl) (by kernel_rfl)
noncomputable def works_ok_ways : List Wy :=
  [⟨[((.le (.c 4) (.d 0)), .true)], (.some (.bo (.c .true)))⟩]
set_option maxHeartbeats 4000000 in
set_option maxRecDepth 100000 in
theorem works_ok : cWorks.Ok Try.prog FI FB := by
  refine Con.of (body := Try.f17.body.getD .skip) (n := 1000) (k := 4) (L := works_ok_ways) pok bf EntsFor.nil cWorks Try.func17 (by kernel_rfl) (by kernel_rfl) fun iv bv hin => ?_
  unfold works_ok_ways
  refine List.forall_mem_cons.2 ⟨?_, List.forall_mem_nil _⟩
  all_goals
    intro ρ hk
    simp only [Known, List.forall_mem_cons, List.forall_mem_nil, and_true, SB.den, SI.den, sta, IB.eval, Option.bind_some, Option.some.injEq, decide_eq_true_eq, decide_eq_false_iff_not, Bool.not_eq_true', Bool.not_eq_false', Bool.and_eq_true, Bool.or_eq_true, wrap_i64, wrap_u64] at hk
    first
      | (simp only [cWorks, SV.Eqv, SV.EqvL, SB.den, SI.den, and_self]; done)
      | omega
      | (simp only [cWorks, SV.Eqv, SV.EqvL, SB.den, SI.den, sta, IB.eval, Option.bind_some, Option.some.injEq, and_true, true_and, wrap_i64, wrap_u64]; omega)
noncomputable def eD_ok_ways : List Wy :=
  [⟨[((.lt (.wk .u64 (.op .sub (.wk .u64 (.v 0)) (.wk .u64 (.v 1)))) (.v 3)), .true), ((.lt (.c 0) (.v 3)), .true), ((.le (.v 2) (.c 4611686018427387904)), .true), ((.le (.v 1) (.v 0)), .true)], (.some (.tp [(.ag [(.it .i64 (.c 0)), (.it .i64 (.c 0)), (.it .u64 (.c 0))]), (.it .i64 (.c 140))]))⟩, ⟨[((.le (.c 4611686018427387904) (.v 2)), .true), ((.lt (.wk .u64 (.op .sub (.wk .u64 (.v 0)) (.wk .u64 (.v 1)))) (.v 3)), .false), ((.lt (.c 0) (.v 3)), .true), ((.le (.v 2) (.c 4611686018427387904)), .true), ((.le (.v 1) (.v 0)), .true)], (.some (.tp [(.ag [(.it .i64 (.c 0)), (.it .i64 (.c 0)), (.it .u64 (.c 0))]), (.it .i64 (.c 142))]))⟩, ⟨[((.le (.c 4611686018427387904) (.v 2)), .false), ((.lt (.wk .u64 (.op .sub (.wk .u64 (.v 0)) (.wk .u64 (.v 1)))) (.v 3)), .false), ((.lt (.c 0) (.v 3)), .true), ((.le (.v 2) (.c 4611686018427387904)), .true), ((.le (.v 1) (.v 0)), .true)], (.some (.tp [(.ag [(.it .i64 (.wk .i64 (.wk .u64 (.op .sub (.wk .u64 (.v 0)) (.v 3))))), (.it .i64 (.v 1)), (.it .u64 (.op .add (.v 2) (.c 1)))]), (.it .i64 (.c 0))]))⟩, ⟨[((.lt (.c 0) (.v 3)), .false), ((.le (.v 2) (.c 4611686018427387904)), .true), ((.le (.v 1) (.v 0)), .true)], (.some (.tp [(.ag [(.it .i64 (.c 0)), (.it .i64 (.c 0)), (.it .u64 (.c 0))]), (.it .i64 (.c 2))]))⟩, ⟨[((.le (.v 2) (.c 4611686018427387904)), .false), ((.le (.v 1) (.v 0)), .true)], (.some (.tp [(.ag [(.it .i64 (.c 0)), (.it .i64 (.c 0)), (.it .u64 (.c 0))]), (.it .i64 (.c 2))]))⟩, ⟨[((.le (.v 1) (.v 0)), .false)], (.some (.tp [(.ag [(.it .i64 (.c 0)), (.it .i64 (.c 0)), (.it .u64 (.c 0))]), (.it .i64 (.c 2))]))⟩]
set_option maxHeartbeats 4000000 in
set_option maxRecDepth 100000 in
theorem eD_ok : eD.Ok Try.prog FI FB := by
  refine Con.of (body := Try.f8.body.getD .skip) (n := 1000) (k := 4) (L := eD_ok_ways) pok bf EntsFor.nil eD Try.func8 (by kernel_rfl) (by kernel_rfl) fun iv bv hin => ?_
  have h0 := hin 0 (-9223372036854775808) (9223372036854775807) (by simp [eD, b3, b4])
  have h1 := hin 1 (-9223372036854775808) (9223372036854775807) (by simp [eD, b3, b4])
  have h2 := hin 2 (0) (18446744073709551615) (by simp [eD, b3, b4])
  have h3 := hin 3 (-9223372036854775808) (9223372036854775807) (by simp [eD, b3, b4])
  unfold eD_ok_ways
  refine List.forall_mem_cons.2 ⟨?_, List.forall_mem_cons.2 ⟨?_, List.forall_mem_cons.2 ⟨?_, List.forall_mem_cons.2 ⟨?_, List.forall_mem_cons.2 ⟨?_, List.forall_mem_cons.2 ⟨?_, List.forall_mem_nil _⟩⟩⟩⟩⟩⟩
  all_goals
    intro ρ hk
    simp only [Known, List.forall_mem_cons, List.forall_mem_nil, and_true, SB.den, SI.den, sta, IB.eval, Option.bind_some, Option.some.injEq, decide_eq_true_eq, decide_eq_false_iff_not, Bool.not_eq_true', Bool.not_eq_false', Bool.and_eq_true, Bool.or_eq_true, wrap_i64, wrap_u64, RR, ap4, Nat.add, FI, onOk, dE, cE, xE] at hk
    first
      | (simp only [eD, SV.Eqv, SV.EqvL, SB.den, SI.den, and_self]; done)
      | omega
      | (simp only [eD, SV.Eqv, SV.EqvL, SB.den, SI.den, sta, IB.eval, Option.bind_some, Option.some.injEq, and_true, true_and, wrap_i64, wrap_u64, RR, ap4, Nat.add, FI, onOk, dE, cE, xE]; (repeat' split) <;> omega)
noncomputable def rD_ok_ways : List Wy :=
  [⟨[((.lt (.v 3) (.c 1)), .true), ((.le (.v 2) (.c 4611686018427387904)), .true), ((.le (.v 1) (.v 0)), .true)], (.some (.tp [(.ag [(.it .i64 (.c 0)), (.it .i64 (.c 0)), (.it .u64 (.c 0))]), (.it .i64 (.c 2))]))⟩, ⟨[((.lt (.op .add (.op .add (.v 0) (.op .sub (.c (-1)) (.v 1))) (.c 1)) (.v 3)), .true), ((.le (.c 0) (.v 0)), .true), ((.lt (.v 1) (.c 0)), .true), ((.lt (.v 3) (.c 1)), .false), ((.le (.v 2) (.c 4611686018427387904)), .true), ((.le (.v 1) (.v 0)), .true)], (.some (.tp [(.ag [(.it .i64 (.c 0)), (.it .i64 (.c 0)), (.it .u64 (.c 0))]), (.it .i64 (.c 140))]))⟩, ⟨[((.eq (.v 2) (.c 4611686018427387904)), .true), ((.lt (.op .add (.op .add (.v 0) (.op .sub (.c (-1)) (.v 1))) (.c 1)) (.v 3)), .false), ((.le (.c 0) (.v 0)), .true), ((.lt (.v 1) (.c 0)), .true), ((.lt (.v 3) (.c 1)), .false), ((.le (.v 2) (.c 4611686018427387904)), .true), ((.le (.v 1) (.v 0)), .true)], (.some (.tp [(.ag [(.it .i64 (.c 0)), (.it .i64 (.c 0)), (.it .u64 (.c 0))]), (.it .i64 (.c 142))]))⟩, ⟨[((.eq (.v 2) (.c 4611686018427387904)), .false), ((.lt (.op .add (.op .add (.v 0) (.op .sub (.c (-1)) (.v 1))) (.c 1)) (.v 3)), .false), ((.le (.c 0) (.v 0)), .true), ((.lt (.v 1) (.c 0)), .true), ((.lt (.v 3) (.c 1)), .false), ((.le (.v 2) (.c 4611686018427387904)), .true), ((.le (.v 1) (.v 0)), .true)], (.some (.tp [(.ag [(.it .i64 (.op .sub (.v 0) (.v 3))), (.it .i64 (.v 1)), (.it .u64 (.op .add (.v 2) (.c 1)))]), (.it .i64 (.c 0))]))⟩, ⟨[((.lt (.wk .u64 (.op .sub (.v 0) (.v 1))) (.v 3)), .true), ((.le (.c 0) (.v 0)), .false), ((.lt (.v 1) (.c 0)), .true), ((.lt (.v 3) (.c 1)), .false), ((.le (.v 2) (.c 4611686018427387904)), .true), ((.le (.v 1) (.v 0)), .true)], (.some (.tp [(.ag [(.it .i64 (.c 0)), (.it .i64 (.c 0)), (.it .u64 (.c 0))]), (.it .i64 (.c 140))]))⟩, ⟨[((.eq (.v 2) (.c 4611686018427387904)), .true), ((.lt (.wk .u64 (.op .sub (.v 0) (.v 1))) (.v 3)), .false), ((.le (.c 0) (.v 0)), .false), ((.lt (.v 1) (.c 0)), .true), ((.lt (.v 3) (.c 1)), .false), ((.le (.v 2) (.c 4611686018427387904)), .true), ((.le (.v 1) (.v 0)), .true)], (.some (.tp [(.ag [(.it .i64 (.c 0)), (.it .i64 (.c 0)), (.it .u64 (.c 0))]), (.it .i64 (.c 142))]))⟩, ⟨[((.eq (.v 2) (.c 4611686018427387904)), .false), ((.lt (.wk .u64 (.op .sub (.v 0) (.v 1))) (.v 3)), .false), ((.le (.c 0) (.v 0)), .false), ((.lt (.v 1) (.c 0)), .true), ((.lt (.v 3) (.c 1)), .false), ((.le (.v 2) (.c 4611686018427387904)), .true), ((.le (.v 1) (.v 0)), .true)], (.some (.tp [(.ag [(.it .i64 (.wk .i64 (.op .sub (.v 0) (.v 3)))), (.it .i64 (.v 1)), (.it .u64 (.op .add (.v 2) (.c 1)))]), (.it .i64 (.c 0))]))⟩, ⟨[((.lt (.wk .u64 (.wk .i64 (.op .sub (.v 0) (.v 1)))) (.v 3)), .true), ((.lt (.v 1) (.c 0)), .false), ((.lt (.v 3) (.c 1)), .false), ((.le (.v 2) (.c 4611686018427387904)), .true), ((.le (.v 1) (.v 0)), .true)], (.some (.tp [(.ag [(.it .i64 (.c 0)), (.it .i64 (.c 0)), (.it .u64 (.c 0))]), (.it .i64 (.c 140))]))⟩, ⟨[((.eq (.v 2) (.c 4611686018427387904)), .true), ((.lt (.wk .u64 (.wk .i64 (.op .sub (.v 0) (.v 1)))) (.v 3)), .false), ((.lt (.v 1) (.c 0)), .false), ((.lt (.v 3) (.c 1)), .false), ((.le (.v 2) (.c 4611686018427387904)), .true), ((.le (.v 1) (.v 0)), .true)], (.some (.tp [(.ag [(.it .i64 (.c 0)), (.it .i64 (.c 0)), (.it .u64 (.c 0))]), (.it .i64 (.c 142))]))⟩, ⟨[((.eq (.v 2) (.c 4611686018427387904)), .false), ((.lt (.wk .u64 (.wk .i64 (.op .sub (.v 0) (.v 1)))) (.v 3)), .false), ((.lt (.v 1) (.c 0)), .false), ((.lt (.v 3) (.c 1)), .false), ((.le (.v 2) (.c 4611686018427387904)), .true), ((.le (.v 1) (.v 0)), .true)], (.some (.tp [(.ag [(.it .i64 (.wk .i64 (.op .sub (.v 0) (.v 3)))), (.it .i64 (.v 1)), (.it .u64 (.op .add (.v 2) (.c 1)))]), (.it .i64 (.c 0))]))⟩, ⟨[((.le (.v 2) (.c 4611686018427387904)), .false), ((.le (.v 1) (.v 0)), .true)], (.some (.tp [(.ag [(.it .i64 (.c 0)), (.it .i64 (.c 0)), (.it .u64 (.c 0))]), (.it .i64 (.c 2))]))⟩, ⟨[((.le (.v 1) (.v 0)), .false)], (.some (.tp [(.ag [(.it .i64 (.c 0)), (.it .i64 (.c 0)), (.it .u64 (.c 0))]), (.it .i64 (.c 2))]))⟩]
set_option maxHeartbeats 4000000 in
set_option maxRecDepth 100000 in
theorem rD_ok : rD.Ok Try.prog FI FB := by
  refine Con.of (body := Try.f11.body.getD .skip) (n := 1000) (k := 4) (L := rD_ok_ways) pok bf EntsFor.nil rD Try.func11 (by kernel_rfl) (by kernel_rfl) fun iv bv hin => ?_
  have h0 := hin 0 (-9223372036854775808) (9223372036854775807) (by simp [rD, b3, b4])
  have h1 := hin 1 (-9223372036854775808) (9223372036854775807) (by simp [rD, b3, b4])
  have h2 := hin 2 (0) (18446744073709551615) (by simp [rD, b3, b4])
  have h3 := hin 3 (-9223372036854775808) (9223372036854775807) (by simp [rD, b3, b4])
  unfold rD_ok_ways
  refine List.forall_mem_cons.2 ⟨?_, List.forall_mem_cons.2 ⟨?_, List.forall_mem_cons.2 ⟨?_, List.forall_mem_cons.2 ⟨?_, List.forall_mem_cons.2 ⟨?_, List.forall_mem_cons.2 ⟨?_, List.forall_mem_cons.2 ⟨?_, List.forall_mem_cons.2 ⟨?_, List.forall_mem_cons.2 ⟨?_, List.forall_mem_cons.2 ⟨?_, List.forall_mem_cons.2 ⟨?_, List.forall_mem_cons.2 ⟨?_, List.forall_mem_nil _⟩⟩⟩⟩⟩⟩⟩⟩⟩⟩⟩⟩
  all_goals
    intro ρ hk
    simp only [Known, List.forall_mem_cons, List.forall_mem_nil, and_true, SB.den, SI.den, sta, IB.eval, Option.bind_some, Option.some.injEq, decide_eq_true_eq, decide_eq_false_iff_not, Bool.not_eq_true', Bool.not_eq_false', Bool.and_eq_true, Bool.or_eq_true, wrap_i64, wrap_u64, RR, ap4, Nat.add, FI, onOk, dE, cE, xE] at hk
    first
      | (simp only [rD, SV.Eqv, SV.EqvL, SB.den, SI.den, and_self]; done)
      | omega
      | (simp only [rD, SV.Eqv, SV.EqvL, SB.den, SI.den, sta, IB.eval, Option.bind_some, Option.some.injEq, and_true, true_and, wrap_i64, wrap_u64, RR, ap4, Nat.add, FI, onOk, dE, cE, xE]; (repeat' split) <;> omega)
noncomputable def eC_ok_ways : List Wy :=
  [⟨[((.lt (.wk .u64 (.op .sub (.c 9223372036854775807) (.wk .u64 (.v 0)))) (.v 3)), .true), ((.lt (.c 0) (.v 3)), .true), ((.le (.v 2) (.c 4611686018427387904)), .true), ((.le (.v 1) (.v 0)), .true)], (.some (.tp [(.ag [(.it .i64 (.c 0)), (.it .i64 (.c 0)), (.it .u64 (.c 0))]), (.it .i64 (.c 141))]))⟩, ⟨[((.le (.c 4611686018427387904) (.v 2)), .true), ((.lt (.wk .u64 (.op .sub (.c 9223372036854775807) (.wk .u64 (.v 0)))) (.v 3)), .false), ((.lt (.c 0) (.v 3)), .true), ((.le (.v 2) (.c 4611686018427387904)), .true), ((.le (.v 1) (.v 0)), .true)], (.some (.tp [(.ag [(.it .i64 (.c 0)), (.it .i64 (.c 0)), (.it .u64 (.c 0))]), (.it .i64 (.c 142))]))⟩, ⟨[((.le (.c 4611686018427387904) (.v 2)), .false), ((.lt (.wk .u64 (.op .sub (.c 9223372036854775807) (.wk .u64 (.v 0)))) (.v 3)), .false), ((.lt (.c 0) (.v 3)), .true), ((.le (.v 2) (.c 4611686018427387904)), .true), ((.le (.v 1) (.v 0)), .true)], (.some (.tp [(.ag [(.it .i64 (.wk .i64 (.wk .u64 (.op .add (.wk .u64 (.v 0)) (.v 3))))), (.it .i64 (.v 1)), (.it .u64 (.op .add (.v 2) (.c 1)))]), (.it .i64 (.c 0))]))⟩, ⟨[((.lt (.c 0) (.v 3)), .false), ((.le (.v 2) (.c 4611686018427387904)), .true), ((.le (.v 1) (.v 0)), .true)], (.some (.tp [(.ag [(.it .i64 (.c 0)), (.it .i64 (.c 0)), (.it .u64 (.c 0))]), (.it .i64 (.c 2))]))⟩, ⟨[((.le (.v 2) (.c 4611686018427387904)), .false), ((.le (.v 1) (.v 0)), .true)], (.some (.tp [(.ag [(.it .i64 (.c 0)), (.it .i64 (.c 0)), (.it .u64 (.c 0))]), (.it .i64 (.c 2))]))⟩, ⟨[((.le (.v 1) (.v 0)), .false)], (.some (.tp [(.ag [(.it .i64 (.c 0)), (.it .i64 (.c 0)), (.it .u64 (.c 0))]), (.it .i64 (.c 2))]))⟩]
set_option maxHeartbeats 4000000 in
set_option maxRecDepth 100000 in
theorem eC_ok : eC.Ok Try.prog FI FB := by
  refine Con.of (body := Try.f9.body.getD .skip) (n := 1000) (k := 4) (L := eC_ok_ways) pok bf EntsFor.nil eC Try.func9 (by kernel_rfl) (by kernel_rfl) fun iv bv hin => ?_
  have h0 := hin 0 (-9223372036854775808) (9223372036854775807) (by simp [eC, b3, b4])
  have h1 := hin 1 (-9223372036854775808) (9223372036854775807) (by simp [eC, b3, b4])
  have h2 := hin 2 (0) (18446744073709551615) (by simp [eC, b3, b4])
  have h3 := hin 3 (-9223372036854775808) (9223372036854775807) (by simp [eC, b3, b4])
  unfold eC_ok_ways
  refine List.forall_mem_cons.2 ⟨?_, List.forall_mem_cons.2 ⟨?_, List.forall_mem_cons.2 ⟨?_, List.forall_mem_cons.2 ⟨?_, List.forall_mem_cons.2 ⟨?_, List.forall_mem_cons.2 ⟨?_, List.forall_mem_nil _⟩⟩⟩⟩⟩⟩
  all_goals
    intro ρ hk
    simp only [Known, List.forall_mem_cons, List.forall_mem_nil, and_true, SB.den, SI.den, sta, IB.eval, Option.bind_some, Option.some.injEq, decide_eq_true_eq, decide_eq_false_iff_not, Bool.not_eq_true', Bool.not_eq_false', Bool.and_eq_true, Bool.or_eq_true, wrap_i64, wrap_u64, RR, ap4, Nat.add, FI, onOk, dE, cE, xE] at hk
    first
      | (simp only [eC, SV.Eqv, SV.EqvL, SB.den, SI.den, and_self]; done)
      | omega
      | (simp only [eC, SV.Eqv, SV.EqvL, SB.den, SI.den, sta, IB.eval, Option.bind_some, Option.some.injEq, and_true, true_and, wrap_i64, wrap_u64, RR, ap4, Nat.add, FI, onOk, dE, cE, xE]; (repeat' split) <;> omega)
noncomputable def rC_ok_ways : List Wy :=
  [⟨[((.lt (.v 3) (.c 1)), .true), ((.le (.v 2) (.c 4611686018427387904)), .true), ((.le (.v 1) (.v 0)), .true)], (.some (.tp [(.ag [(.it .i64 (.c 0)), (.it .i64 (.c 0)), (.it .u64 (.c 0))]), (.it .i64 (.c 2))]))⟩, ⟨[((.lt (.op .sub (.c 9223372036854775807) (.v 3)) (.v 0)), .true), ((.lt (.v 3) (.c 1)), .false), ((.le (.v 2) (.c 4611686018427387904)), .true), ((.le (.v 1) (.v 0)), .true)], (.some (.tp [(.ag [(.it .i64 (.c 0)), (.it .i64 (.c 0)), (.it .u64 (.c 0))]), (.it .i64 (.c 141))]))⟩, ⟨[((.eq (.v 2) (.c 4611686018427387904)), .true), ((.lt (.op .sub (.c 9223372036854775807) (.v 3)) (.v 0)), .false), ((.lt (.v 3) (.c 1)), .false), ((.le (.v 2) (.c 4611686018427387904)), .true), ((.le (.v 1) (.v 0)), .true)], (.some (.tp [(.ag [(.it .i64 (.c 0)), (.it .i64 (.c 0)), (.it .u64 (.c 0))]), (.it .i64 (.c 142))]))⟩, ⟨[((.eq (.v 2) (.c 4611686018427387904)), .false), ((.lt (.op .sub (.c 9223372036854775807) (.v 3)) (.v 0)), .false), ((.lt (.v 3) (.c 1)), .false), ((.le (.v 2) (.c 4611686018427387904)), .true), ((.le (.v 1) (.v 0)), .true)], (.some (.tp [(.ag [(.it .i64 (.wk .i64 (.op .add (.v 0) (.v 3)))), (.it .i64 (.v 1)), (.it .u64 (.op .add (.v 2) (.c 1)))]), (.it .i64 (.c 0))]))⟩, ⟨[((.le (.v 2) (.c 4611686018427387904)), .false), ((.le (.v 1) (.v 0)), .true)], (.some (.tp [(.ag [(.it .i64 (.c 0)), (.it .i64 (.c 0)), (.it .u64 (.c 0))]), (.it .i64 (.c 2))]))⟩, ⟨[((.le (.v 1) (.v 0)), .false)], (.some (.tp [(.ag [(.it .i64 (.c 0)), (.it .i64 (.c 0)), (.it .u64 (.c 0))]), (.it .i64 (.c 2))]))⟩]
set_option maxHeartbeats 4000000 in
set_option maxRecDepth 100000 in
theorem rC_ok : rC.Ok Try.prog FI FB := by
  refine Con.of (body := Try.f12.body.getD .skip) (n := 1000) (k := 4) (L := rC_ok_ways) pok bf EntsFor.nil rC Try.func12 (by kernel_rfl) (by kernel_rfl) fun iv bv hin => ?_
  have h0 := hin 0 (-9223372036854775808) (9223372036854775807) (by simp [rC, b3, b4])
  have h1 := hin 1 (-9223372036854775808) (9223372036854775807) (by simp [rC, b3, b4])
  have h2 := hin 2 (0) (18446744073709551615) (by simp [rC, b3, b4])
  have h3 := hin 3 (-9223372036854775808) (9223372036854775807) (by simp [rC, b3, b4])
  unfold rC_ok_ways
  refine List.forall_mem_cons.2 ⟨?_, List.forall_mem_cons.2 ⟨?_, List.forall_mem_cons.2 ⟨?_, List.forall_mem_cons.2 ⟨?_, List.forall_mem_cons.2 ⟨?_, List.forall_mem_cons.2 ⟨?_, List.forall_mem_nil _⟩⟩⟩⟩⟩⟩
  all_goals
    intro ρ hk
    simp only [Known, List.forall_mem_cons, List.forall_mem_nil, and_true, SB.den, SI.den, sta, IB.eval, Option.bind_some, Option.some.injEq, decide_eq_true_eq, decide_eq_false_iff_not, Bool.not_eq_true', Bool.not_eq_false', Bool.and_eq_true, Bool.or_eq_true, wrap_i64, wrap_u64, RR, ap4, Nat.add, FI, onOk, dE, cE, xE] at hk
    first
      | (simp only [rC, SV.Eqv, SV.EqvL, SB.den, SI.den, and_self]; done)
      | omega
      | (simp only [rC, SV.Eqv, SV.EqvL, SB.den, SI.den, sta, IB.eval, Option.bind_some, Option.some.injEq, and_true, true_and, wrap_i64, wrap_u64, RR, ap4, Nat.add, FI, onOk, dE, cE, xE]; (repeat' split) <;> omega)
noncomputable def eX_ok_ways : List Wy :=
  [⟨[((.lt (.c 0) (.v 3)), .true)], (.some (.tp [(.ag [(.it .i64 (.ap 4 (.v 0) (.v 1) (.v 2) (.v 3) (.c 0) (.c 0))), (.it .i64 (.ap 5 (.v 0) (.v 1) (.v 2) (.v 3) (.c 0) (.c 0))), (.it .u64 (.ap 6 (.v 0) (.v 1) (.v 2) (.v 3) (.c 0) (.c 0)))]), (.it .i64 (.ap 7 (.v 0) (.v 1) (.v 2) (.v 3) (.c 0) (.c 0)))]))⟩, ⟨[((.lt (.wk .u64 (.op .sub (.wk .u64 (.v 0)) (.wk .u64 (.v 1)))) (.wk .u64 (.op .sub (.c 0) (.wk .u64 (.v 3))))), .true), ((.lt (.v 3) (.c 0)), .true), ((.le (.v 2) (.c 4611686018427387904)), .true), ((.le (.v 1) (.v 0)), .true), ((.lt (.c 0) (.v 3)), .false)], (.some (.tp [(.ag [(.it .i64 (.c 0)), (.it .i64 (.c 0)), (.it .u64 (.c 0))]), (.it .i64 (.c 140))]))⟩, ⟨[((.le (.c 4611686018427387904) (.v 2)), .true), ((.lt (.wk .u64 (.op .sub (.wk .u64 (.v 0)) (.wk .u64 (.v 1)))) (.wk .u64 (.op .sub (.c 0) (.wk .u64 (.v 3))))), .false), ((.lt (.v 3) (.c 0)), .true), ((.le (.v 2) (.c 4611686018427387904)), .true), ((.le (.v 1) (.v 0)), .true), ((.lt (.c 0) (.v 3)), .false)], (.some (.tp [(.ag [(.it .i64 (.c 0)), (.it .i64 (.c 0)), (.it .u64 (.c 0))]), (.it .i64 (.c 142))]))⟩, ⟨[((.le (.c 4611686018427387904) (.v 2)), .false), ((.lt (.wk .u64 (.op .sub (.wk .u64 (.v 0)) (.wk .u64 (.v 1)))) (.wk .u64 (.op .sub (.c 0) (.wk .u64 (.v 3))))), .false), ((.lt (.v 3) (.c 0)), .true), ((.le (.v 2) (.c 4611686018427387904)), .true), ((.le (.v 1) (.v 0)), .true), ((.lt (.c 0) (.v 3)), .false)], (.some (.tp [(.ag [(.it .i64 (.wk .i64 (.wk .u64 (.op .sub (.wk .u64 (.v 0)) (.wk .u64 (.op .sub (.c 0) (.wk .u64 (.v 3)))))))), (.it .i64 (.v 1)), (.it .u64 (.op .add (.v 2) (.c 1)))]), (.it .i64 (.c 0))]))⟩, ⟨[((.lt (.v 3) (.c 0)), .false), ((.le (.v 2) (.c 4611686018427387904)), .true), ((.le (.v 1) (.v 0)), .true), ((.lt (.c 0) (.v 3)), .false)], (.some (.tp [(.ag [(.it .i64 (.c 0)), (.it .i64 (.c 0)), (.it .u64 (.c 0))]), (.it .i64 (.c 2))]))⟩, ⟨[((.le (.v 2) (.c 4611686018427387904)), .false), ((.le (.v 1) (.v 0)), .true), ((.lt (.c 0) (.v 3)), .false)], (.some (.tp [(.ag [(.it .i64 (.c 0)), (.it .i64 (.c 0)), (.it .u64 (.c 0))]), (.it .i64 (.c 2))]))⟩, ⟨[((.le (.v 1) (.v 0)), .false), ((.lt (.c 0) (.v 3)), .false)], (.some (.tp [(.ag [(.it .i64 (.c 0)), (.it .i64 (.c 0)), (.it .u64 (.c 0))]), (.it .i64 (.c 2))]))⟩]
set_option maxHeartbeats 4000000 in
set_option maxRecDepth 100000 in
theorem eX_ok : eX.Ok Try.prog FI FB := by
  refine Con.of (body := Try.f10.body.getD .skip) (n := 1000) (k := 4) (L := eX_ok_ways) pok bf (EntsFor.cons eC_ok EntsFor.nil) eX Try.func10 (by kernel_rfl) (by kernel_rfl) fun iv bv hin => ?_
  have h0 := hin 0 (-9223372036854775808) (9223372036854775807) (by simp [eX, b3, b4])
  have h1 := hin 1 (-9223372036854775808) (9223372036854775807) (by simp [eX, b3, b4])
  have h2 := hin 2 (0) (18446744073709551615) (by simp [eX, b3, b4])
  have h3 := hin 3 (-9223372036854775808) (9223372036854775807) (by simp [eX, b3, b4])
  unfold eX_ok_ways
  refine List.forall_mem_cons.2 ⟨?_, List.forall_mem_cons.2 ⟨?_, List.forall_mem_cons.2 ⟨?_, List.forall_mem_cons.2 ⟨?_, List.forall_mem_cons.2 ⟨?_, List.forall_mem_cons.2 ⟨?_, List.forall_mem_cons.2 ⟨?_, List.forall_mem_nil _⟩⟩⟩⟩⟩⟩⟩
  all_goals
    intro ρ hk
    simp only [Known, List.forall_mem_cons, List.forall_mem_nil, and_true, SB.den, SI.den, sta, IB.eval, Option.bind_some, Option.some.injEq, decide_eq_true_eq, decide_eq_false_iff_not, Bool.not_eq_true', Bool.not_eq_false', Bool.and_eq_true, Bool.or_eq_true, wrap_i64, wrap_u64, RR, ap4, Nat.add, FI, onOk, dE, cE, xE] at hk
    first
      | (simp only [eX, SV.Eqv, SV.EqvL, SB.den, SI.den, and_self]; done)
      | omega
      | (simp only [eX, SV.Eqv, SV.EqvL, SB.den, SI.den, sta, IB.eval, Option.bind_some, Option.some.injEq, and_true, true_and, wrap_i64, wrap_u64, RR, ap4, Nat.add, FI, onOk, dE, cE, xE]; (repeat' split) <;> omega)
noncomputable def rX_ok_ways : List Wy :=
  [⟨[((.eq (.v 3) (.c 0)), .true), ((.le (.v 2) (.c 4611686018427387904)), .true), ((.le (.v 1) (.v 0)), .true)], (.some (.tp [(.ag [(.it .i64 (.c 0)), (.it .i64 (.c 0)), (.it .u64 (.c 0))]), (.it .i64 (.c 2))]))⟩, ⟨[((.lt (.op .add (.op .add (.v 0) (.op .sub (.c (-1)) (.v 1))) (.c 1)) (.op .add (.op .sub (.c (-1)) (.v 3)) (.c 1))), .true), ((.le (.c 0) (.v 0)), .true), ((.lt (.v 1) (.c 0)), .true), ((.lt (.v 3) (.c 0)), .true), ((.eq (.v 3) (.c 0)), .false), ((.le (.v 2) (.c 4611686018427387904)), .true), ((.le (.v 1) (.v 0)), .true)], (.some (.tp [(.ag [(.it .i64 (.c 0)), (.it .i64 (.c 0)), (.it .u64 (.c 0))]), (.it .i64 (.c 140))]))⟩, ⟨[((.eq (.v 2) (.c 4611686018427387904)), .true), ((.lt (.op .add (.op .add (.v 0) (.op .sub (.c (-1)) (.v 1))) (.c 1)) (.op .add (.op .sub (.c (-1)) (.v 3)) (.c 1))), .false), ((.le (.c 0) (.v 0)), .true), ((.lt (.v 1) (.c 0)), .true), ((.lt (.v 3) (.c 0)), .true), ((.eq (.v 3) (.c 0)), .false), ((.le (.v 2) (.c 4611686018427387904)), .true), ((.le (.v 1) (.v 0)), .true)], (.some (.tp [(.ag [(.it .i64 (.c 0)), (.it .i64 (.c 0)), (.it .u64 (.c 0))]), (.it .i64 (.c 142))]))⟩, ⟨[((.lt (.c 9223372036854775807) (.op .add (.op .sub (.c (-1)) (.v 3)) (.c 1))), .true), ((.eq (.v 2) (.c 4611686018427387904)), .false), ((.lt (.op .add (.op .add (.v 0) (.op .sub (.c (-1)) (.v 1))) (.c 1)) (.op .add (.op .sub (.c (-1)) (.v 3)) (.c 1))), .false), ((.le (.c 0) (.v 0)), .true), ((.lt (.v 1) (.c 0)), .true), ((.lt (.v 3) (.c 0)), .true), ((.eq (.v 3) (.c 0)), .false), ((.le (.v 2) (.c 4611686018427387904)), .true), ((.le (.v 1) (.v 0)), .true)], (.some (.tp [(.ag [(.it .i64 (.op .sub (.op .add (.v 0) (.c (-9223372036854775807))) (.op .add (.op .sub (.c (-1)) (.v 3)) (.c (-9223372036854775806))))), (.it .i64 (.v 1)), (.it .u64 (.op .add (.v 2) (.c 1)))]), (.it .i64 (.c 0))]))⟩, ⟨[((.lt (.c 9223372036854775807) (.op .add (.op .sub (.c (-1)) (.v 3)) (.c 1))), .false), ((.eq (.v 2) (.c 4611686018427387904)), .false), ((.lt (.op .add (.op .add (.v 0) (.op .sub (.c (-1)) (.v 1))) (.c 1)) (.op .add (.op .sub (.c (-1)) (.v 3)) (.c 1))), .false), ((.le (.c 0) (.v 0)), .true), ((.lt (.v 1) (.c 0)), .true), ((.lt (.v 3) (.c 0)), .true), ((.eq (.v 3) (.c 0)), .false), ((.le (.v 2) (.c 4611686018427387904)), .true), ((.le (.v 1) (.v 0)), .true)], (.some (.tp [(.ag [(.it .i64 (.op .sub (.v 0) (.op .add (.op .sub (.c (-1)) (.v 3)) (.c 1)))), (.it .i64 (.v 1)), (.it .u64 (.op .add (.v 2) (.c 1)))]), (.it .i64 (.c 0))]))⟩, ⟨[((.lt (.wk .u64 (.op .sub (.v 0) (.v 1))) (.op .add (.op .sub (.c (-1)) (.v 3)) (.c 1))), .true), ((.le (.c 0) (.v 0)), .false), ((.lt (.v 1) (.c 0)), .true), ((.lt (.v 3) (.c 0)), .true), ((.eq (.v 3) (.c 0)), .false), ((.le (.v 2) (.c 4611686018427387904)), .true), ((.le (.v 1) (.v 0)), .true)], (.some (.tp [(.ag [(.it .i64 (.c 0)), (.it .i64 (.c 0)), (.it .u64 (.c 0))]), (.it .i64 (.c 140))]))⟩, ⟨[((.eq (.v 2) (.c 4611686018427387904)), .true), ((.lt (.wk .u64 (.op .sub (.v 0) (.v 1))) (.op .add (.op .sub (.c (-1)) (.v 3)) (.c 1))), .false), ((.le (.c 0) (.v 0)), .false), ((.lt (.v 1) (.c 0)), .true), ((.lt (.v 3) (.c 0)), .true), ((.eq (.v 3) (.c 0)), .false), ((.le (.v 2) (.c 4611686018427387904)), .true), ((.le (.v 1) (.v 0)), .true)], (.some (.tp [(.ag [(.it .i64 (.c 0)), (.it .i64 (.c 0)), (.it .u64 (.c 0))]), (.it .i64 (.c 142))]))⟩, ⟨[((.lt (.c 9223372036854775807) (.op .add (.op .sub (.c (-1)) (.v 3)) (.c 1))), .true), ((.eq (.v 2) (.c 4611686018427387904)), .false), ((.lt (.wk .u64 (.op .sub (.v 0) (.v 1))) (.op .add (.op .sub (.c (-1)) (.v 3)) (.c 1))), .false), ((.le (.c 0) (.v 0)), .false), ((.lt (.v 1) (.c 0)), .true), ((.lt (.v 3) (.c 0)), .true), ((.eq (.v 3) (.c 0)), .false), ((.le (.v 2) (.c 4611686018427387904)), .true), ((.le (.v 1) (.v 0)), .true)], (.some (.tp [(.ag [(.it .i64 (.wk .i64 (.op .sub (.wk .i64 (.op .add (.v 0) (.c (-9223372036854775807)))) (.op .add (.op .sub (.c (-1)) (.v 3)) (.c (-9223372036854775806)))))), (.it .i64 (.v 1)), (.it .u64 (.op .add (.v 2) (.c 1)))]), (.it .i64 (.c 0))]))⟩, ⟨[((.lt (.c 9223372036854775807) (.op .add (.op .sub (.c (-1)) (.v 3)) (.c 1))), .false), ((.eq (.v 2) (.c 4611686018427387904)), .false), ((.lt (.wk .u64 (.op .sub (.v 0) (.v 1))) (.op .add (.op .sub (.c (-1)) (.v 3)) (.c 1))), .false), ((.le (.c 0) (.v 0)), .false), ((.lt (.v 1) (.c 0)), .true), ((.lt (.v 3) (.c 0)), .true), ((.eq (.v 3) (.c 0)), .false), ((.le (.v 2) (.c 4611686018427387904)), .true), ((.le (.v 1) (.v 0)), .true)], (.some (.tp [(.ag [(.it .i64 (.wk .i64 (.op .sub (.v 0) (.op .add (.op .sub (.c (-1)) (.v 3)) (.c 1))))), (.it .i64 (.v 1)), (.it .u64 (.op .add (.v 2) (.c 1)))]), (.it .i64 (.c 0))]))⟩, ⟨[((.lt (.wk .u64 (.wk .i64 (.op .sub (.v 0) (.v 1)))) (.op .add (.op .sub (.c (-1)) (.v 3)) (.c 1))), .true), ((.lt (.v 1) (.c 0)), .false), ((.lt (.v 3) (.c 0)), .true), ((.eq (.v 3) (.c 0)), .false), ((.le (.v 2) (.c 4611686018427387904)), .true), ((.le (.v 1) (.v 0)), .true)], (.some (.tp [(.ag [(.it .i64 (.c 0)), (.it .i64 (.c 0)), (.it .u64 (.c 0))]), (.it .i64 (.c 140))]))⟩, ⟨[((.eq (.v 2) (.c 4611686018427387904)), .true), ((.lt (.wk .u64 (.wk .i64 (.op .sub (.v 0) (.v 1)))) (.op .add (.op .sub (.c (-1)) (.v 3)) (.c 1))), .false), ((.lt (.v 1) (.c 0)), .false), ((.lt (.v 3) (.c 0)), .true), ((.eq (.v 3) (.c 0)), .false), ((.le (.v 2) (.c 4611686018427387904)), .true), ((.le (.v 1) (.v 0)), .true)], (.some (.tp [(.ag [(.it .i64 (.c 0)), (.it .i64 (.c 0)), (.it .u64 (.c 0))]), (.it .i64 (.c 142))]))⟩, ⟨[((.lt (.c 9223372036854775807) (.op .add (.op .sub (.c (-1)) (.v 3)) (.c 1))), .true), ((.eq (.v 2) (.c 4611686018427387904)), .false), ((.lt (.wk .u64 (.wk .i64 (.op .sub (.v 0) (.v 1)))) (.op .add (.op .sub (.c (-1)) (.v 3)) (.c 1))), .false), ((.lt (.v 1) (.c 0)), .false), ((.lt (.v 3) (.c 0)), .true), ((.eq (.v 3) (.c 0)), .false), ((.le (.v 2) (.c 4611686018427387904)), .true), ((.le (.v 1) (.v 0)), .true)], (.some (.tp [(.ag [(.it .i64 (.wk .i64 (.op .sub (.wk .i64 (.op .add (.v 0) (.c (-9223372036854775807)))) (.op .add (.op .sub (.c (-1)) (.v 3)) (.c (-9223372036854775806)))))), (.it .i64 (.v 1)), (.it .u64 (.op .add (.v 2) (.c 1)))]), (.it .i64 (.c 0))]))⟩, ⟨[((.lt (.c 9223372036854775807) (.op .add (.op .sub (.c (-1)) (.v 3)) (.c 1))), .false), ((.eq (.v 2) (.c 4611686018427387904)), .false), ((.lt (.wk .u64 (.wk .i64 (.op .sub (.v 0) (.v 1)))) (.op .add (.op .sub (.c (-1)) (.v 3)) (.c 1))), .false), ((.lt (.v 1) (.c 0)), .false), ((.lt (.v 3) (.c 0)), .true), ((.eq (.v 3) (.c 0)), .false), ((.le (.v 2) (.c 4611686018427387904)), .true), ((.le (.v 1) (.v 0)), .true)], (.some (.tp [(.ag [(.it .i64 (.wk .i64 (.op .sub (.v 0) (.op .add (.op .sub (.c (-1)) (.v 3)) (.c 1))))), (.it .i64 (.v 1)), (.it .u64 (.op .add (.v 2) (.c 1)))]), (.it .i64 (.c 0))]))⟩, ⟨[((.lt (.v 3) (.c 0)), .false), ((.eq (.v 3) (.c 0)), .false), ((.le (.v 2) (.c 4611686018427387904)), .true), ((.le (.v 1) (.v 0)), .true)], (.some (.tp [(.ag [(.it .i64 (.ap 4 (.v 0) (.v 1) (.v 2) (.v 3) (.c 0) (.c 0))), (.it .i64 (.ap 5 (.v 0) (.v 1) (.v 2) (.v 3) (.c 0) (.c 0))), (.it .u64 (.ap 6 (.v 0) (.v 1) (.v 2) (.v 3) (.c 0) (.c 0)))]), (.it .i64 (.ap 7 (.v 0) (.v 1) (.v 2) (.v 3) (.c 0) (.c 0)))]))⟩, ⟨[((.le (.v 2) (.c 4611686018427387904)), .false), ((.le (.v 1) (.v 0)), .true)], (.some (.tp [(.ag [(.it .i64 (.c 0)), (.it .i64 (.c 0)), (.it .u64 (.c 0))]), (.it .i64 (.c 2))]))⟩, ⟨[((.le (.v 1) (.v 0)), .false)], (.some (.tp [(.ag [(.it .i64 (.c 0)), (.it .i64 (.c 0)), (.it .u64 (.c 0))]), (.it .i64 (.c 2))]))⟩]
set_option maxHeartbeats 4000000 in
set_option maxRecDepth 100000 in
theorem rX_ok : rX.Ok Try.prog FI FB := by
  refine Con.of (body := Try.f13.body.getD .skip) (n := 1000) (k := 4) (L := rX_ok_ways) pok bf (EntsFor.cons rC_ok EntsFor.nil) rX Try.func13 (by kernel_rfl) (by kernel_rfl) fun iv bv hin => ?_
  have h0 := hin 0 (-9223372036854775808) (9223372036854775807) (by simp [rX, b3, b4])
  have h1 := hin 1 (-9223372036854775808) (9223372036854775807) (by simp [rX, b3, b4])
  have h2 := hin 2 (0) (18446744073709551615) (by simp [rX, b3, b4])
  have h3 := hin 3 (-9223372036854775808) (9223372036854775807) (by simp [rX, b3, b4])
  unfold rX_ok_ways
  refine List.forall_mem_cons.2 ⟨?_, List.forall_mem_cons.2 ⟨?_, List.forall_mem_cons.2 ⟨?_, List.forall_mem_cons.2 ⟨?_, List.forall_mem_cons.2 ⟨?_, List.forall_mem_cons.2 ⟨?_, List.forall_mem_cons.2 ⟨?_, List.forall_mem_cons.2 ⟨?_, List.forall_mem_cons.2 ⟨?_, List.forall_mem_cons.2 ⟨?_, List.forall_mem_cons.2 ⟨?_, List.forall_mem_cons.2 ⟨?_, List.forall_mem_cons.2 ⟨?_, List.forall_mem_cons.2 ⟨?_, List.forall_mem_cons.2 ⟨?_, List.forall_mem_cons.2 ⟨?_, List.forall_mem_nil _⟩⟩⟩⟩⟩⟩⟩⟩⟩⟩⟩⟩⟩⟩⟩⟩
  all_goals
    intro ρ hk
    simp only [Known, List.forall_mem_cons, List.forall_mem_nil, and_true, SB.den, SI.den, sta, IB.eval, Option.bind_some, Option.some.injEq, decide_eq_true_eq, decide_eq_false_iff_not, Bool.not_eq_true', Bool.not_eq_false', Bool.and_eq_true, Bool.or_eq_true, wrap_i64, wrap_u64, RR, ap4, Nat.add, FI, onOk, dE, cE, xE] at hk
    first
      | (simp only [rX, SV.Eqv, SV.EqvL, SB.den, SI.den, and_self]; done)
      | omega
      | (simp only [rX, SV.Eqv, SV.EqvL, SB.den, SI.den, sta, IB.eval, Option.bind_some, Option.some.injEq, and_true, true_and, wrap_i64, wrap_u64, RR, ap4, Nat.add, FI, onOk, dE, cE, xE]; (repeat' split) <;> omega)
end Go.Sx.Esc
