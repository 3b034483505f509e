/- Escrow: the contracts. -/
import Derived.Test.YtimdcofalpglbaaSxU
import Derived.Test.YtimdcofalpglbaaProg
namespace Go.Sx.Esc
set_option linter.unusedSimpArgs false
set_option linter.unusedVariables false
open Go Go.Sx Go.Proofs
noncomputable def ctr : SV := .ag [.it .i64 (.v 0), .it .i64 (.v 1), .it .u64 (.v 2)]
noncomputable def b3 : List (Nat × Int × Int) := [(0, -9223372036854775808, 9223372036854775807), (1, -9223372036854775808, 9223372036854775807), (2, 0, 18446744073709551615)]
noncomputable def b4 : List (Nat × Int × Int) := (3, -9223372036854775808, 9223372036854775807) :: b3
noncomputable def cWorks : Con := ⟨17, [], [], .bo (.c true)⟩
noncomputable def cSpares : Con := ⟨4, [ctr], b3, .bo (.c true)⟩
def FI : FIx := fun _ _ _ _ _ _ _ => 0
def FB : FBx := fun _ _ _ _ _ _ _ => false
theorem bf0 : BfOk FI [] := fun _ _ _ h => nomatch h
set_option maxRecDepth 100000 in
theorem pok : POk Try.prog [24] := POk.of (by kernel_rfl) (by kernel_rfl) (by kernel_rfl)
noncomputable def works_ok_ways : List Wy :=
  [⟨[((.le (.c 4) (.d 0)), .true)], (.some (.bo (.c .true)))⟩]
set_option maxHeartbeats 4000000 in
set_option maxRecDepth 100000 in
theorem works_ok : cWorks.Ok Try.prog FI FB := by
  refine Con.of (body := Try.f17.body.getD .skip) (n := 1000) (k := 4) (L := works_ok_ways) pok bf0 EntsFor.nil cWorks Try.func17 (by kernel_rfl) (by kernel_rfl) fun iv bv hin => ?_
  unfold works_ok_ways
  refine List.forall_mem_cons.2 ⟨?_, List.forall_mem_nil _⟩
  all_goals
    intro ρ hk
    simp only [Known, List.forall_mem_cons, List.forall_mem_nil, and_true, SB.den, SI.den, sta, IB.eval, Option.bind_some, Option.some.injEq, decide_eq_true_eq, decide_eq_false_iff_not, Bool.not_eq_true', Bool.not_eq_false', Bool.and_eq_true, Bool.or_eq_true, wrap_i64, wrap_u64] at hk
    first
      | (simp only [cWorks, SV.Eqv, SV.EqvL, SB.den, SI.den, and_self]; done)
      | omega
      | (simp only [cWorks, SV.Eqv, SV.EqvL, SB.den, SI.den, sta, IB.eval, Option.bind_some, Option.some.injEq, and_true, true_and, wrap_i64, wrap_u64]; omega)
noncomputable def spares_ok_ways : List Wy :=
  [⟨[((.eq (.wk .u64 (.op .sub (.wk .u64 (.v 0)) (.wk .u64 (.v 1)))) (.op .add (.op .add (.v 0) (.op .sub (.c (-1)) (.v 1))) (.c 1))), .true), ((.le (.c 0) (.v 0)), .true), ((.lt (.v 1) (.c 0)), .true), ((.le (.v 2) (.c 4611686018427387904)), .true), ((.le (.v 1) (.v 0)), .true)], (.some (.bo (.c .true)))⟩, ⟨[((.eq (.wk .u64 (.op .sub (.wk .u64 (.v 0)) (.wk .u64 (.v 1)))) (.op .add (.op .add (.v 0) (.op .sub (.c (-1)) (.v 1))) (.c 1))), .false), ((.le (.c 0) (.v 0)), .true), ((.lt (.v 1) (.c 0)), .true), ((.le (.v 2) (.c 4611686018427387904)), .true), ((.le (.v 1) (.v 0)), .true)], (.some (.bo (.c .false)))⟩, ⟨[((.eq (.wk .u64 (.op .sub (.wk .u64 (.v 0)) (.wk .u64 (.v 1)))) (.wk .u64 (.op .sub (.v 0) (.v 1)))), .true), ((.le (.c 0) (.v 0)), .false), ((.lt (.v 1) (.c 0)), .true), ((.le (.v 2) (.c 4611686018427387904)), .true), ((.le (.v 1) (.v 0)), .true)], (.some (.bo (.c .true)))⟩, ⟨[((.eq (.wk .u64 (.op .sub (.wk .u64 (.v 0)) (.wk .u64 (.v 1)))) (.wk .u64 (.op .sub (.v 0) (.v 1)))), .false), ((.le (.c 0) (.v 0)), .false), ((.lt (.v 1) (.c 0)), .true), ((.le (.v 2) (.c 4611686018427387904)), .true), ((.le (.v 1) (.v 0)), .true)], (.some (.bo (.c .false)))⟩, ⟨[((.eq (.wk .u64 (.op .sub (.wk .u64 (.v 0)) (.wk .u64 (.v 1)))) (.wk .u64 (.wk .i64 (.op .sub (.v 0) (.v 1))))), .true), ((.lt (.v 1) (.c 0)), .false), ((.le (.v 2) (.c 4611686018427387904)), .true), ((.le (.v 1) (.v 0)), .true)], (.some (.bo (.c .true)))⟩, ⟨[((.eq (.wk .u64 (.op .sub (.wk .u64 (.v 0)) (.wk .u64 (.v 1)))) (.wk .u64 (.wk .i64 (.op .sub (.v 0) (.v 1))))), .false), ((.lt (.v 1) (.c 0)), .false), ((.le (.v 2) (.c 4611686018427387904)), .true), ((.le (.v 1) (.v 0)), .true)], (.some (.bo (.c .false)))⟩, ⟨[((.le (.v 2) (.c 4611686018427387904)), .false), ((.le (.v 1) (.v 0)), .true)], (.some (.bo (.c .true)))⟩, ⟨[((.le (.v 1) (.v 0)), .false)], (.some (.bo (.c .true)))⟩]
set_option maxHeartbeats 4000000 in
set_option maxRecDepth 100000 in
theorem spares_ok : cSpares.Ok Try.prog FI FB := by
  refine Con.of (body := Try.f4.body.getD .skip) (n := 1000) (k := 4) (L := spares_ok_ways) pok bf0 (EntsFor.cons works_ok EntsFor.nil) cSpares Try.func4 (by kernel_rfl) (by kernel_rfl) fun iv bv hin => ?_
  have h0 := hin 0 (-9223372036854775808) (9223372036854775807) (by simp [cSpares, b3, b4])
  have h1 := hin 1 (-9223372036854775808) (9223372036854775807) (by simp [cSpares, b3, b4])
  have h2 := hin 2 (0) (18446744073709551615) (by simp [cSpares, b3, b4])
  unfold spares_ok_ways
  refine List.forall_mem_cons.2 ⟨?_, List.forall_mem_cons.2 ⟨?_, List.forall_mem_cons.2 ⟨?_, List.forall_mem_cons.2 ⟨?_, List.forall_mem_cons.2 ⟨?_, List.forall_mem_cons.2 ⟨?_, List.forall_mem_cons.2 ⟨?_, List.forall_mem_cons.2 ⟨?_, List.forall_mem_nil _⟩⟩⟩⟩⟩⟩⟩⟩
  all_goals
    intro ρ hk
    simp only [Known, List.forall_mem_cons, List.forall_mem_nil, and_true, SB.den, SI.den, sta, IB.eval, Option.bind_some, Option.some.injEq, decide_eq_true_eq, decide_eq_false_iff_not, Bool.not_eq_true', Bool.not_eq_false', Bool.and_eq_true, Bool.or_eq_true, wrap_i64, wrap_u64] at hk
    first
      | (simp only [cSpares, SV.Eqv, SV.EqvL, SB.den, SI.den, and_self]; done)
      | omega
      | (simp only [cSpares, SV.Eqv, SV.EqvL, SB.den, SI.den, sta, IB.eval, Option.bind_some, Option.some.injEq, and_true, true_and, wrap_i64, wrap_u64]; omega)
end Go.Sx.Esc
