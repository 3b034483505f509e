/- EscrowChanges: the statement. -/
import Derived.Test.YtimdcofalpglbaaEsc4
import Derived.Test.YtimdcofalpglbaaSxV
import Derived.Test.YtimdcofalpglbaaRows
import Derived.WalkKit
import Derived.ProofKit
import Derived.OpenShut
import Derived.Lib.SmallJoins
namespace Go.Proofs.Ytimdcofalpglbaa.Changes
open Go.ChangeShapes Go.WideShapes Go.ChangeAt Go.RowKit Go.Joins
set_option linter.unusedVariables false

theorem own : ownKnob Try.prog.godebug = none := by kernel_rfl
theorem cells24 : Try.prog.cellsOf 24 = 3 := by kernel_rfl

theorem walk (x y z n : Int) (wx : (Lit.int .i64 x).wf = true) (wy : (Lit.int .i64 y).wf = true) (wz : (Lit.int .u64 z).wf = true) (wn : (Lit.int .i64 n).wf = true) (w : World) :
    Calls Try.prog 3 #[.agg #[.int .i64 x, .int .i64 y, .int .u64 z], .int .i64 n] w fun e w' => e = .returned (.bool true) ∧ Below w.heap.size w w' := by
  have hin : Go.Sx.InB Go.Sx.Esc.cChanges.B (fun i => match i with | 0 => x | 1 => y | 2 => z | _ => n) := by
    simp [Lit.wf, IntKind.min, IntKind.max, IntKind.signed, IntKind.bits] at wx wy wz wn
    intro i a b hm
    simp only [Go.Sx.Esc.cChanges, Go.Sx.Esc.b3, Go.Sx.Esc.b4, List.mem_cons, List.not_mem_nil, or_false, Prod.mk.injEq] at hm
    rcases hm with ⟨rfl, rfl, rfl⟩ | ⟨rfl, rfl, rfl⟩ | ⟨rfl, rfl, rfl⟩ | ⟨rfl, rfl, rfl⟩ <;> simp only <;> omega
  have h := Go.Sx.Esc.changes_ok _ (fun _ => false) hin [.agg #[.int .i64 x, .int .i64 y, .int .u64 z], .int .i64 n] (by
    simp only [Go.Sx.Esc.cChanges, Go.Sx.Esc.ctr, Go.Sx.SV.isL_cons, Go.Sx.SV.isL_nil, Go.Sx.SV.Is, Go.Sx.SI.den, Go.Sx.sta]
    exact ⟨_, _, rfl, ⟨[_, _, _], ⟨_, _, rfl, ⟨_, rfl, rfl⟩, _, _, rfl, ⟨_, rfl, rfl⟩, _, _, rfl, ⟨_, rfl, rfl⟩, rfl⟩, rfl⟩, _, [], rfl, ⟨_, rfl, rfl⟩, rfl⟩) w
  refine h.mono fun e w' ⟨u, he, hu, hb⟩ => ⟨?_, hb⟩
  simp only [Go.Sx.Esc.cChanges, Go.Sx.SV.Is, Go.Sx.SB.den] at hu
  obtain ⟨q, hq, rfl⟩ := hu
  cases hq
  exact he

set_option maxRecDepth 100000 in
theorem lifted (os : Os) (started : os.Started) (H : Type) (enc : TypeId × Value → H) :
    ReturnsInHanded {} Try.checked os 3 .any (Rows.escrowChangesSpec.pre6 enc Try.prog Try.f3 Rows.escrowChangesRow.domain false) (Rows.escrowChangesSpec.post enc Try.prog Try.f3 false true false false) := by
  refine returnsInHanded_of_change (C := Try.checked) own started (by kernel_rfl) Try.func3
    (ChangeSpec.witness6 (enc := enc) (C := Try.checked) false ⟨#[], #[.agg #[.int .i64 0, .int .i64 0, .int .u64 0], .int .i64 0], []⟩ 8 (by kernel_rfl) (by kernel_rfl) (by kernel_rfl) (by kernel_rfl)) ?_
  intro W base args ds gs before hval0 hW hcnd _
  have hval : ∀ (j : Nat) t v, Try.f3.params[j]? = some t → args[j]? = some v → Value.okWide Try.prog W .any base t v := hval0
  have hW' := hW
  obtain ⟨p, q, hA0, hV, rfl, hfz, hnd⟩ := hW
  have hA : DataW.TrodAll enc Try.prog W 0 (fun _ => true) true Try.f3.params.toList args.toList ds p := hA0
  rw [Try.params3] at hA hval
  obtain ⟨v0, vs0, d0, ds0, p0, q0, hargs, rfl, rfl, h0, r0⟩ := trodAll_cons hA
  obtain ⟨v1, vs1, d1, ds1, p1, q1, rfl, rfl, rfl, h1, r1⟩ := trodAll_cons r0
  obtain ⟨rfl, rfl, rfl⟩ := trodAll_nil r1
  obtain rfl : args = #[v0, v1] := by cases args; simp_all
  obtain ⟨rfl, rfl⟩ := trodVars_none hV
  obtain ⟨c0, c1, c2, y0, y1, y2, m, rfl, rfl, rfl, hy0, hy1, hy2⟩ := open_agg3 Try.underlying24 (by kernel_rfl) cells24 (hval 0 24 v0 rfl rfl) h0
  obtain ⟨x, e0, rfl, wx⟩ := DataW.trod_int Try.underlying2 hy0
  obtain ⟨y, e1, rfl, wy⟩ := DataW.trod_int Try.underlying2 hy1
  obtain ⟨z, e2, rfl, wz⟩ := DataW.trod_int Try.underlying22 hy2
  obtain ⟨n, rfl, rfl, rfl, wn⟩ := open_int Try.underlying2 (hval 1 2 v1 rfl rfl) h1
  simp at e0 e1 e2
  subst e0 e1 e2
  clear hA0 hval0
  simp only [List.append_nil] at hW'
  refine (walk x y z n wx wy wz wn W).mono fun e W' ⟨he, hb⟩ => ?_
  subst he

  exact ⟨_, rfl, Go.Sx.post_of_below (pa := []) (ds := _) (pv := []) hW' (fun _ _ _ => (trodAll_cons_mk (shut_bool Try.underlying4 _) trodAll_mk0))
    (fun sp _ => (trodAll_cons_mk (shut_agg3 (y0 := (.lit (.int .i64 x), [])) (y1 := (.lit (.int .i64 y), [])) (y2 := (.lit (.int .u64 z), [])) Try.underlying24 (by kernel_rfl) cells24 ⟨1, by simp [DataW.trod, Try.underlying2, wx]⟩ ⟨1, by simp [DataW.trod, Try.underlying2, wy]⟩ ⟨1, by simp [DataW.trod, Try.underlying22, wz]⟩) (trodAll_cons_mk (shut_int Try.underlying2 wn) trodAll_mk0))) (fun _ _ => rfl) rfl
    hb (ok_one (by kernel_rfl) rfl (okWide_bool_mk Try.underlying4 _))⟩

theorem proved : Rows.EscrowChangesSaid :=
  OpenClaim.holds_of_wide 3 Try.f3 rfl rfl rfl rfl rfl rfl rfl ⟨rfl, rfl, rfl, rfl, rfl⟩ rfl rfl rfl rfl rfl (by kernel_rfl) Try.func3 (by kernel_rfl)
    (of_decide_eq_true (by kernel_rfl)) (by unfold Func.isWrapper; first | (rw [if_pos (by decide +kernel)]; kernel_rfl) | (rw [if_neg (by decide +kernel)]; exact ⟨rfl, rfl⟩))
    (fun os started H enc _ => lifted os started H enc)
#print axioms proved
end Go.Proofs.Ytimdcofalpglbaa.Changes
