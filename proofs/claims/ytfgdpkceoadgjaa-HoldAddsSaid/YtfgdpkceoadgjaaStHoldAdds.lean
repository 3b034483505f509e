/- HoldAdds: the statement: for every input the law returns true, and each argument reads as it did. -/
import Derived.Test.YtfgdpkceoadgjaaMhS
import Derived.Test.YtfgdpkceoadgjaaHoC
import Derived.Test.YtfgdpkceoadgjaaRows
namespace Go.Proofs.Ytfgdpkceoadgjaa.HoldAdds
open Go Go.ChangeShapes Go.WideShapes Go.ChangeAt Go.RowKit Go.Joins Go.Sx
set_option linter.unusedVariables false
set_option linter.unusedSimpArgs false
open Go.Proofs.Ytfgdpkceoadgjaa
theorem walk1 (W : World) {b0 o0 n0 k0 : Nat} {c0 : Int} (l0 : n0 ≤ k0) (m0 : k0 ≤ maxLen) (g0 : ∀ j, j < n0 → ∀ (f : Nat) (κ : Kd), ([.nt .i64, .nt .i64, .nt .i64] : List Kd)[f]? = some κ → W.cell? ⟨b0, o0 + j * ([.nt .i64, .nt .i64, .nt .i64] : List Kd).length + f, none⟩ = some (κ.of (gt c0 j f))) {x1_0 : Int} (w1_0 : (Lit.int .i64 x1_0).wf = true) {x1_1 : Int} (w1_1 : (Lit.int .i64 x1_1).wf = true) {x1_2 : Int} (w1_2 : (Lit.int .i64 x1_2).wf = true) : Calls Try.prog 10 #[.slice (some ⟨b0, o0, none⟩) n0 k0, .agg #[.int .i64 x1_0, .int .i64 x1_1, .int .i64 x1_2]] W fun e W' => e = .returned (.bool true) ∧ Below W.heap.size W W' := by
  unfold maxLen at m0
  have h1_0 := wf64 w1_0
  have h1_1 := wf64 w1_1
  have h1_2 := wf64 w1_2
  refine (Go.Sx.Mhw.lAdds_ok ⟨fun i => match i with | 0 => b0 | _ => 0, fun _ => ByteArray.empty⟩ (fun i => match i with | 0 => c0 | 1 => Int.ofNat n0 | 2 => Int.ofNat o0 | 3 => Int.ofNat k0 | 4 => x1_0 | 5 => x1_1 | 6 => x1_2 | _ => 0) (fun _ => false) (fun i a b hm => ?_) (fun p hp => ?_) W (fun G hG => ?_) [.slice (some ⟨b0, o0, none⟩) n0 k0, .agg #[.int .i64 x1_0, .int .i64 x1_1, .int .i64 x1_2]] ?_).mono fun e w' h => ret_true rfl h
  · simp only [Go.Sx.Mhw.lAdds, Go.Sx.Mhw.bL3, Go.Sx.Mhw.bH, Go.Sx.Mhw.fM, Go.Sx.Mhw.gH, Go.Sx.Mhw.lH, Go.Sx.Mhw.hV, Go.Sx.Mhw.i64b, Go.Sx.Mhw.o1, List.mem_cons, List.not_mem_nil, or_false, Prod.mk.injEq] at hm
    all_goals (first | exact hm.elim | (repeat' (rcases hm with ⟨rfl, rfl, rfl⟩ | hm)) <;> (try obtain ⟨rfl, rfl, rfl⟩ := hm) <;> simp only [Int.ofNat_eq_natCast] <;> omega)
  · simp only [Go.Sx.Mhw.lAdds, Go.Sx.Mhw.bL3, Go.Sx.Mhw.bH, Go.Sx.Mhw.fM, Go.Sx.Mhw.gH, Go.Sx.Mhw.lH, Go.Sx.Mhw.hV, Go.Sx.Mhw.i64b, Go.Sx.Mhw.o1, List.mem_cons, List.not_mem_nil, or_false] at hp
    all_goals (first | exact hp.elim | (repeat' (rcases hp with rfl | hp)) <;> (try subst hp) <;> simp [SB.den, SI.den, sta] <;> omega)
  · simp only [Go.Sx.Mhw.lAdds, Go.Sx.Mhw.bL3, Go.Sx.Mhw.bH, Go.Sx.Mhw.fM, Go.Sx.Mhw.gH, Go.Sx.Mhw.lH, Go.Sx.Mhw.hV, Go.Sx.Mhw.i64b, Go.Sx.Mhw.o1, List.mem_cons, List.not_mem_nil, or_false] at hG
    all_goals (subst hG; exact gvIs_of (lay := [.nt .i64, .nt .i64, .nt .i64]) rfl rfl rfl g0)
  · simp only [Go.Sx.Mhw.lAdds, Go.Sx.Mhw.bL3, Go.Sx.Mhw.bH, Go.Sx.Mhw.fM, Go.Sx.Mhw.gH, Go.Sx.Mhw.lH, Go.Sx.Mhw.hV, Go.Sx.Mhw.i64b, Go.Sx.Mhw.o1, SV.isL_cons, SV.isL_nil, SV.Is, SR.den, SI.den, SB.den, SS.den, sta]
    exact ⟨_, _, rfl, ⟨_, _, _, _, rfl, rfl, rfl, rfl, rfl⟩, ⟨_, _, rfl, ⟨[_, _, _], ⟨_, _, rfl, ⟨_, rfl, rfl⟩, ⟨_, _, rfl, ⟨_, rfl, rfl⟩, ⟨_, _, rfl, ⟨_, rfl, rfl⟩, rfl⟩⟩⟩, rfl⟩, rfl⟩⟩
theorem walk0 (W : World) {x1_0 : Int} (w1_0 : (Lit.int .i64 x1_0).wf = true) {x1_1 : Int} (w1_1 : (Lit.int .i64 x1_1).wf = true) {x1_2 : Int} (w1_2 : (Lit.int .i64 x1_2).wf = true) : Calls Try.prog 10 #[.slice none 0 0, .agg #[.int .i64 x1_0, .int .i64 x1_1, .int .i64 x1_2]] W fun e W' => e = .returned (.bool true) ∧ Below W.heap.size W W' := by
  have h1_0 := wf64 w1_0
  have h1_1 := wf64 w1_1
  have h1_2 := wf64 w1_2
  refine (Go.Sx.Mhw.lAdds0_ok ⟨fun _ => 0, fun _ => ByteArray.empty⟩ (fun i => match i with | 4 => x1_0 | 5 => x1_1 | 6 => x1_2 | _ => 0) (fun _ => false) (fun i a b hm => ?_) (fun p hp => ?_) W (fun G hG => ?_) [.slice none 0 0, .agg #[.int .i64 x1_0, .int .i64 x1_1, .int .i64 x1_2]] ?_).mono fun e w' h => ret_true rfl h
  · simp only [Go.Sx.Mhw.lAdds0, Go.Sx.Mhw.bL3, Go.Sx.Mhw.bH, Go.Sx.Mhw.fM, Go.Sx.Mhw.gH, Go.Sx.Mhw.lH, Go.Sx.Mhw.hV, Go.Sx.Mhw.i64b, Go.Sx.Mhw.o1, List.mem_cons, List.not_mem_nil, or_false, Prod.mk.injEq] at hm
    all_goals (first | exact hm.elim | (repeat' (rcases hm with ⟨rfl, rfl, rfl⟩ | hm)) <;> (try obtain ⟨rfl, rfl, rfl⟩ := hm) <;> simp only [Int.ofNat_eq_natCast] <;> omega)
  · simp only [Go.Sx.Mhw.lAdds0, Go.Sx.Mhw.bL3, Go.Sx.Mhw.bH, Go.Sx.Mhw.fM, Go.Sx.Mhw.gH, Go.Sx.Mhw.lH, Go.Sx.Mhw.hV, Go.Sx.Mhw.i64b, Go.Sx.Mhw.o1, List.mem_cons, List.not_mem_nil, or_false] at hp
    all_goals (first | exact hp.elim | (repeat' (rcases hp with rfl | hp)) <;> (try subst hp) <;> simp [SB.den, SI.den, sta] <;> omega)
  · simp only [Go.Sx.Mhw.lAdds0, Go.Sx.Mhw.bL3, Go.Sx.Mhw.bH, Go.Sx.Mhw.fM, Go.Sx.Mhw.gH, Go.Sx.Mhw.lH, Go.Sx.Mhw.hV, Go.Sx.Mhw.i64b, Go.Sx.Mhw.o1, List.mem_cons, List.not_mem_nil, or_false] at hG
    all_goals (exact hG.elim)
  · simp only [Go.Sx.Mhw.lAdds0, Go.Sx.Mhw.bL3, Go.Sx.Mhw.bH, Go.Sx.Mhw.fM, Go.Sx.Mhw.gH, Go.Sx.Mhw.lH, Go.Sx.Mhw.hV, Go.Sx.Mhw.i64b, Go.Sx.Mhw.o1, SV.isL_cons, SV.isL_nil, SV.Is, SR.den, SI.den, SB.den, SS.den, sta]
    exact ⟨_, _, rfl, rfl, ⟨_, _, rfl, ⟨[_, _, _], ⟨_, _, rfl, ⟨_, rfl, rfl⟩, ⟨_, _, rfl, ⟨_, rfl, rfl⟩, ⟨_, _, rfl, ⟨_, rfl, rfl⟩, rfl⟩⟩⟩, rfl⟩, rfl⟩⟩
set_option maxRecDepth 100000 in
theorem lifted (os : Os) (started : os.Started) (H : Type) (enc : TypeId × Value → H) :
    ReturnsInHanded {} Try.checked os 10 .any (Rows.holdAddsSpec.pre6 enc Try.prog Try.f10 Rows.holdAddsRow.domain false) (Rows.holdAddsSpec.post enc Try.prog Try.f10 false true false false) := by
  refine returnsInHanded_of_change (C := Try.checked) own started (by kernel_rfl) Try.func10
    (ChangeSpec.witness6 (enc := enc) (C := Try.checked) false ⟨#[], #[.slice none 0 0, .agg #[.int .i64 0, .int .i64 0, .int .i64 0]], []⟩ 8 (by kernel_rfl) (by kernel_rfl) (by kernel_rfl) (by kernel_rfl)) ?_
  intro W base args ds gs before hval0 hW hcnd _
  have hval : ∀ (j : Nat) t v, Try.f10.params[j]? = some t → args[j]? = some v → Value.okWide Try.prog W .any base t v := hval0
  have hW' := hW
  obtain ⟨p, q, hA0, hV, rfl, hfz, hnd⟩ := hW
  have hA : DataW.TrodAll enc Try.prog W 0 (fun _ => true) true Try.f10.params.toList args.toList ds p := hA0
  rw [Try.params10] at hA hval
  obtain ⟨v0, vs0, d0, ds0, p0, q0, hargs, rfl, rfl, h0, r0⟩ := trodAll_cons hA
  obtain ⟨v1, vs1, d1, ds1, p1, q1, rfl, rfl, rfl, h1, r1⟩ := trodAll_cons r0
  obtain ⟨rfl, rfl, rfl⟩ := trodAll_nil r1
  obtain rfl : args = #[v0, v1] := by cases args; simp_all
  obtain ⟨rfl, rfl⟩ := trodVars_none hV
  rw [List.append_nil] at hW'
  obtain ⟨c1_0, c1_1, c1_2, y1_0, y1_1, y1_2, m1, rfl, rfl, rfl, hy1_0, hy1_1, hy1_2⟩ := open_agg3 Try.underlying58 (by kernel_rfl) (show Try.prog.cellsOf 58 = 3 by kernel_rfl) (hval 1 58 v1 rfl rfl) h1
  obtain ⟨x1_0, e1_0, rfl, w1_0⟩ := DataW.trod_int Try.underlying3 hy1_0
  obtain ⟨x1_1, e1_1, rfl, w1_1⟩ := DataW.trod_int Try.underlying2 hy1_1
  obtain ⟨x1_2, e1_2, rfl, w1_2⟩ := DataW.trod_int Try.underlying22 hy1_2
  simp at e1_0 e1_1 e1_2
  subst e1_0 e1_1 e1_2
  rcases open_rows kids (d := 5) (lay := [.nt .i64, .nt .i64, .nt .i64]) Try.underlying49 (by decide +kernel) (by kernel_rfl) (by kernel_rfl) (hval 0 49 v0 rfl rfl) h0 with rfl | ⟨b0, o0, n0, k0, c0, rfl, l0, m0, g0⟩
  · refine (walk0 W w1_0 w1_1 w1_2).mono fun e W' hh => ?_
    obtain ⟨he, hb⟩ := hh
    subst he
    exact ⟨_, rfl, law_post laid rowed full (by kernel_rfl) rfl (by kernel_rfl) Try.underlying4 hW' hA0 rfl hb⟩
  · refine (walk1 W l0 m0 g0 w1_0 w1_1 w1_2).mono fun e W' hh => ?_
    obtain ⟨he, hb⟩ := hh
    subst he
    exact ⟨_, rfl, law_post laid rowed full (by kernel_rfl) rfl (by kernel_rfl) Try.underlying4 hW' hA0 rfl hb⟩
theorem proved : Rows.HoldAddsSaid :=
  OpenClaim.holds_of_wide 10 Try.f10 rfl rfl rfl rfl rfl rfl rfl ⟨rfl, rfl, rfl, rfl, rfl⟩ rfl rfl rfl rfl rfl (by kernel_rfl) Try.func10 (by kernel_rfl)
    (of_decide_eq_true (by kernel_rfl)) (by unfold Func.isWrapper; first | (rw [if_pos (by decide +kernel)]; kernel_rfl) | (rw [if_neg (by decide +kernel)]; exact ⟨rfl, rfl⟩))
    (fun os started H enc _ => lifted os started H enc)
#print axioms proved
end Go.Proofs.Ytfgdpkceoadgjaa.HoldAdds
