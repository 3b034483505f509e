/- Escrow: the law on changes. -/
import Derived.Test.YtimdcofalpglbaaEsc3
namespace Go.Sx.Esc
set_option linter.unusedSimpArgs false
set_option linter.unusedVariables false
open Go Go.Sx Go.Proofs
noncomputable def ents : Ents := [cWorks.ent BF, eD.ent BF, rD.ent BF, eC.ent BF, rC.ent BF, eX.ent BF, rX.ent BF]
theorem ents_for : EntsFor Try.prog FI FB BF ents := .cons works_ok (.cons eD_ok (.cons rD_ok (.cons eC_ok (.cons rC_ok (.cons eX_ok (.cons rX_ok .nil))))))
noncomputable def cChanges : Con := ⟨3, [ctr, .it .i64 (.v 3)], b4, .bo (.c true)⟩
noncomputable def changes_ok_ways : List Wy :=
  [⟨[((.le (.v 2) (.c 4611686018427387904)), .true), ((.le (.v 1) (.v 0)), .true)], (.some (.bo (.c .true)))⟩, ⟨[((.le (.v 2) (.c 4611686018427387904)), .false), ((.le (.v 1) (.v 0)), .true)], (.some (.bo (.c .true)))⟩, ⟨[((.le (.v 1) (.v 0)), .false)], (.some (.bo (.c .true)))⟩]
set_option maxHeartbeats 4000000 in
set_option maxRecDepth 100000 in
theorem changes_ok : cChanges.Ok Try.prog FI FB := by
  refine Con.of (body := Try.f3.body.getD .skip) (n := 1000) (k := 4) (L := changes_ok_ways) pok bf ents_for cChanges Try.func3 (by kernel_rfl) (by kernel_rfl) fun iv bv hin => ?_
  have h0 := hin 0 (-9223372036854775808) (9223372036854775807) (by simp [cChanges, b3, b4])
  have h1 := hin 1 (-9223372036854775808) (9223372036854775807) (by simp [cChanges, b3, b4])
  have h2 := hin 2 (0) (18446744073709551615) (by simp [cChanges, b3, b4])
  have h3 := hin 3 (-9223372036854775808) (9223372036854775807) (by simp [cChanges, b3, b4])
  unfold changes_ok_ways
  refine List.forall_mem_cons.2 ⟨?_, List.forall_mem_cons.2 ⟨?_, List.forall_mem_cons.2 ⟨?_, List.forall_mem_nil _⟩⟩⟩
  all_goals
    intro ρ hk
    simp only [Known, List.forall_mem_cons, List.forall_mem_nil, and_true, SB.den, SI.den, sta, IB.eval, Option.bind_some, Option.some.injEq, decide_eq_true_eq, decide_eq_false_iff_not, Bool.not_eq_true', Bool.not_eq_false', Bool.and_eq_true, Bool.or_eq_true, wrap_i64, wrap_u64] at hk
    first
      | (simp only [cChanges, SV.Eqv, SV.EqvL, SB.den, SI.den, and_self]; done)
      | omega
      | (simp only [cChanges, SV.Eqv, SV.EqvL, SB.den, SI.den, sta, IB.eval, Option.bind_some, Option.some.injEq, and_true, true_and, wrap_i64, wrap_u64]; omega)
end Go.Sx.Esc
