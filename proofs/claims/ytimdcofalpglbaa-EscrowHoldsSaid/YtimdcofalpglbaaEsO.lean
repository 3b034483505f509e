/- EscrowHolds: the statement. -/
import Derived.Test.YtimdcofalpglbaaEsS
import Derived.Test.YtimdcofalpglbaaEsL
namespace Go.Proofs.Ytimdcofalpglbaa.Holds
set_option linter.unusedSimpArgs false
open Go Go.ChangeShapes Go.WideShapes Go.ChangeAt Go.RowKit Go.Joins
set_option linter.unusedVariables false
open Go.Proofs.Ytimdcofalpglbaa

theorem walk (x y z : Int) (wx : (Lit.int .i64 x).wf = true) (wy : (Lit.int .i64 y).wf = true) (wz : (Lit.int .u64 z).wf = true) {n : Int} (wn : (Lit.int .i64 n).wf = true) {b off len cap : Nat} {zs : List Int} (hl : len ≤ cap) (hm : cap ≤ maxLen) (w : World)
    (hc : ∀ j, j < len → w.cell? ⟨b, off + j, none⟩ = some (.int .i64 (zs.getD j 0))) (hw : ∀ j, j < len → (Lit.int .i64 (zs.getD j 0)).wf = true) :
    Calls Try.prog 7 #[.agg #[.int .i64 x, .int .i64 y, .int .u64 z], .int .i64 n, .slice (some ⟨b, off, none⟩) len cap] w fun e w' => e = .returned (.bool true) ∧ Below w.heap.size w w' := by
  have hx := wf64 wx; have hy := wf64 wy; have hz := wfu64 wz; have hn := wf64 wn
  unfold maxLen at hm
  have h := Go.Sx.Esc.lHolds_ok (fun _ => b) (fun i => match i with | 0 => x | 1 => y | 2 => z | 3 => Int.ofNat len | 4 => Int.ofNat off | 5 => Int.ofNat cap | 7 => n | _ => codeOf len zs) (fun _ => false) (by
    intro i a c hmem
    simp only [Go.Sx.Esc.lHolds, Go.Sx.Esc.bE, Go.Sx.Esc.bW, Go.Sx.Esc.b3, List.mem_cons, List.not_mem_nil, or_false, Prod.mk.injEq] at hmem
    rcases hmem with ⟨rfl, rfl, rfl⟩ | ⟨rfl, rfl, rfl⟩ | ⟨rfl, rfl, rfl⟩ | ⟨rfl, rfl, rfl⟩ | ⟨rfl, rfl, rfl⟩ | ⟨rfl, rfl, rfl⟩ <;> simp only [Int.ofNat_eq_natCast] <;> omega) (by
    intro p hp
    simp only [Go.Sx.Esc.lHolds, List.mem_cons, List.not_mem_nil, or_false] at hp
    rcases hp with rfl | rfl <;> simp [Go.Sx.SB.den, Go.Sx.SI.den, Go.Sx.sta] <;> omega) w (by
    intro G hG
    simp only [Go.Sx.Esc.lHolds, List.mem_cons, List.not_mem_nil, or_false] at hG
    subst hG
    exact gv_of rfl rfl rfl rfl hc hw) [.agg #[.int .i64 x, .int .i64 y, .int .u64 z], .int .i64 n, .slice (some ⟨b, off, none⟩) len cap] (by
    simp only [Go.Sx.Esc.lHolds, Go.Sx.Esc.ctr, Go.Sx.SV.isL_cons, Go.Sx.SV.isL_nil, Go.Sx.SV.Is, Go.Sx.SR.den, Go.Sx.SI.den, Go.Sx.sta]
    exact ⟨_, _, rfl, ⟨[_, _, _], ⟨_, _, rfl, ⟨_, rfl, rfl⟩, _, _, rfl, ⟨_, rfl, rfl⟩, _, _, rfl, ⟨_, rfl, rfl⟩, rfl⟩, rfl⟩, _, _, rfl, ⟨_, rfl, rfl⟩, _, [], rfl, ⟨b, off, len, cap, rfl, rfl, rfl, rfl, rfl⟩, rfl⟩)
  exact h.mono fun e w' h => ret_true rfl h
theorem walk0 (x y z : Int) (wx : (Lit.int .i64 x).wf = true) (wy : (Lit.int .i64 y).wf = true) (wz : (Lit.int .u64 z).wf = true) {n : Int} (wn : (Lit.int .i64 n).wf = true) (w : World) :
    Calls Try.prog 7 #[.agg #[.int .i64 x, .int .i64 y, .int .u64 z], .int .i64 n, .slice none 0 0] w fun e w' => e = .returned (.bool true) ∧ Below w.heap.size w w' := by
  have hx := wf64 wx; have hy := wf64 wy; have hz := wfu64 wz; have hn := wf64 wn
  have h := Go.Sx.Esc.lHolds0_ok (fun _ => 0) (fun i => match i with | 0 => x | 1 => y | 2 => z | _ => n) (fun _ => false) (by
    intro i a c hmem
    simp only [Go.Sx.Esc.lHolds0, Go.Sx.Esc.b4, Go.Sx.Esc.b3, List.mem_cons, List.not_mem_nil, or_false, Prod.mk.injEq] at hmem
    rcases hmem with ⟨rfl, rfl, rfl⟩ | ⟨rfl, rfl, rfl⟩ | ⟨rfl, rfl, rfl⟩ | ⟨rfl, rfl, rfl⟩ <;> simp only <;> omega) (by
    intro p hp; cases hp) w (by
    intro G hG; cases hG) [.agg #[.int .i64 x, .int .i64 y, .int .u64 z], .int .i64 n, .slice none 0 0] (by
    simp only [Go.Sx.Esc.lHolds0, Go.Sx.Esc.ctr, Go.Sx.SV.isL_cons, Go.Sx.SV.isL_nil, Go.Sx.SV.Is, Go.Sx.SR.den, Go.Sx.SI.den, Go.Sx.sta]
    exact ⟨_, _, rfl, ⟨[_, _, _], ⟨_, _, rfl, ⟨_, rfl, rfl⟩, _, _, rfl, ⟨_, rfl, rfl⟩, _, _, rfl, ⟨_, rfl, rfl⟩, rfl⟩, rfl⟩, _, _, rfl, ⟨_, rfl, rfl⟩, _, [], rfl, rfl, rfl⟩)
  exact h.mono fun e w' h => ret_true rfl h

set_option maxRecDepth 100000 in
theorem lifted (os : Os) (started : os.Started) (H : Type) (enc : TypeId × Value → H) :
    ReturnsInHanded {} Try.checked os 7 .any (Rows.escrowHoldsSpec.pre6 enc Try.prog Try.f7 Rows.escrowHoldsRow.domain false) (Rows.escrowHoldsSpec.post enc Try.prog Try.f7 false true false false) := by
  refine returnsInHanded_of_change (C := Try.checked) own started (by kernel_rfl) Try.func7
    (ChangeSpec.witness6 (enc := enc) (C := Try.checked) false ⟨#[], #[.agg #[.int .i64 0, .int .i64 0, .int .u64 0], .int .i64 0, .slice none 0 0], []⟩ 8 (by kernel_rfl) (by kernel_rfl) (by kernel_rfl) (by kernel_rfl)) ?_
  intro W base args ds gs before hval0 hW hcnd _
  have hval : ∀ (j : Nat) t v, Try.f7.params[j]? = some t → args[j]? = some v → Value.okWide Try.prog W .any base t v := hval0
  have hW' := hW
  obtain ⟨p, q, hA0, hV, rfl, hfz, hnd⟩ := hW
  have hA : DataW.TrodAll enc Try.prog W 0 (fun _ => true) true Try.f7.params.toList args.toList ds p := hA0
  rw [Try.params7] at hA hval
  obtain ⟨v0, vs0, d0, ds0, p0, q0, hargs, rfl, rfl, h0, r0⟩ := trodAll_cons hA
  obtain ⟨v1, vs1, d1, ds1, p1, q1, rfl, rfl, rfl, h1, r1⟩ := trodAll_cons r0
  obtain ⟨v2, vs2, d2, ds2, p2, q2, rfl, rfl, rfl, h2, r2⟩ := trodAll_cons r1
  obtain ⟨rfl, rfl, rfl⟩ := trodAll_nil r2
  obtain rfl : args = #[v0, v1, v2] := by cases args; simp_all
  obtain ⟨rfl, rfl⟩ := trodVars_none hV
  obtain ⟨c0, c1, c2, y0, y1, y2, m, rfl, rfl, rfl, hy0, hy1, hy2⟩ := open_agg3 Try.underlying24 (by kernel_rfl) cells24 (hval 0 24 v0 rfl rfl) h0
  obtain ⟨x, e0, rfl, wx⟩ := DataW.trod_int Try.underlying2 hy0
  obtain ⟨y, e1, rfl, wy⟩ := DataW.trod_int Try.underlying2 hy1
  obtain ⟨z, e2, rfl, wz⟩ := DataW.trod_int Try.underlying22 hy2
  obtain ⟨n, rfl, rfl, rfl, wn⟩ := open_int Try.underlying2 (hval 1 2 v1 rfl rfl) h1
  have ok1 := hval 2 38 v2 rfl rfl
  obtain ⟨a, len, cap, rfl⟩ := okWide_slice Try.underlying38 ok1
  obtain ⟨fuel, hf⟩ := h2
  simp at e0 e1 e2
  subst e0 e1 e2
  clear hA0 hval0
  simp only [Value.cells] at hf
  rcases open_ints Try.underlying38 Try.underlying2 cells2 hf with ⟨hcs, hx⟩ | ⟨a', len', cap', zs, hcs, _, hl, hm, hz, hx, hcell, hwz⟩
  · simp only [List.cons.injEq, Value.slice.injEq, and_true] at hcs
    obtain ⟨rfl, rfl, rfl⟩ := hcs
    simp only [Prod.mk.injEq] at hx
    obtain ⟨rfl, rfl⟩ := hx
    simp only [List.append_nil] at hW'
    refine (walk0 x y z wx wy wz wn W).mono fun e W' ⟨he, hb⟩ => ?_
    subst he
    exact ⟨_, rfl, Go.Sx.post_of_below (pa := []) (ds := _) (pv := []) hW' (fun _ _ _ => (trodAll_cons_mk (shut_bool Try.underlying4 _) trodAll_mk0))
      (fun sp _ => (trodAll_cons_mk (ctrT wx wy wz) (trodAll_cons_mk (shut_int Try.underlying2 wn) (trodAll_cons_mk (shut_slice_nil Try.underlying38) trodAll_mk0)))) (fun _ _ => rfl) rfl
      hb (ok_one (by kernel_rfl) rfl (okWide_bool_mk Try.underlying4 _))⟩
  · simp only [List.cons.injEq, Value.slice.injEq, and_true] at hcs
    obtain ⟨rfl, rfl, rfl⟩ := hcs
    simp only [Prod.mk.injEq] at hx
    obtain ⟨rfl, rfl⟩ := hx
    obtain ⟨b, off, sp⟩ := a'
    have hs : sp = none := spot_none Try.underlying38 ok1
    subst hs
    simp only [if_true] at hz
    simp only [add_plain] at hcell
    have hz' : zs.length = cap := by simpa using hz
    simp only [List.append_nil] at hW'
    have hlt := hW'.lt
    refine (walk x y z wx wy wz wn hl hm W (fun j hj => hcell j (by omega)) (fun j hj => hwz _ (by rw [List.getD_eq_getElem?_getD, List.getElem?_eq_getElem (by omega)]; exact List.getElem_mem _))).mono fun e W' ⟨he, hb⟩ => ?_
    subst he
    refine ⟨_, rfl, Go.Sx.post_of_below (pa := MemPlace.row ⟨b, off, none⟩ zs.length) (ds := _) (pv := []) hW' (fun _ _ _ => (trodAll_cons_mk (shut_bool Try.underlying4 _) trodAll_mk0))
      (fun sp hsp => ?_) (fun _ _ => rfl) ?_
      hb (ok_one (by kernel_rfl) rfl (okWide_bool_mk Try.underlying4 _))⟩
    · have t1 := again (enc := enc) hb hl hm hz' hcell hwz hlt hsp (fun p hp => by simpa using hp)
      have := (trodAll_cons_mk (ctrT wx wy wz) (trodAll_cons_mk (shut_int Try.underlying2 wn) (trodAll_cons_mk t1 trodAll_mk0)))
      simp only [List.nil_append, List.append_nil] at this
      exact this
    · simp

theorem proved : Rows.EscrowHoldsSaid :=
  OpenClaim.holds_of_wide 7 Try.f7 rfl rfl rfl rfl rfl rfl rfl ⟨rfl, rfl, rfl, rfl, rfl⟩ rfl rfl rfl rfl rfl (by kernel_rfl) Try.func7 (by kernel_rfl)
    (of_decide_eq_true (by kernel_rfl)) (by unfold Func.isWrapper; first | (rw [if_pos (by decide +kernel)]; kernel_rfl) | (rw [if_neg (by decide +kernel)]; exact ⟨rfl, rfl⟩))
    (fun os started H enc _ => lifted os started H enc)
#print axioms proved
end Go.Proofs.Ytimdcofalpglbaa.Holds
