/- Escrow: a list that came in. -/
import Derived.Test.YtimdcofalpglbaaEsI
import Derived.Test.YtimdcofalpglbaaSxV
import Derived.Test.YtimdcofalpglbaaRows
import Derived.WalkKit
import Derived.ProofKit
import Derived.OpenShut
import Derived.Lib.SmallJoins
namespace Go.Proofs.Ytimdcofalpglbaa
set_option linter.unusedSimpArgs false
open Go Go.ChangeShapes Go.WideShapes Go.ChangeAt Go.RowKit Go.Joins
set_option linter.unusedVariables false
theorem own : ownKnob Try.prog.godebug = none := by kernel_rfl
theorem cells24 : Try.prog.cellsOf 24 = 3 := by kernel_rfl
theorem cells2 : Try.prog.cellsOf 2 = 1 := by kernel_rfl
theorem spot_none {P : Program} {W : World} {base : Nat} {t e : TypeId} {a : Addr} {len cap : Nat} (ht : P.underlying t = some (.slice e)) (h : Value.okWide P W .any base t (.slice (some a) len cap)) : a.spot = none := by
  simp only [Value.okWide, ht, Cell.okWide, Cell.ok] at h
  exact h.2.2.2.1
theorem wf64 {z : Int} (h : (Lit.int .i64 z).wf = true) : -9223372036854775808 ≤ z ∧ z ≤ 9223372036854775807 := by
  simp [Lit.wf, IntKind.min, IntKind.max, IntKind.signed, IntKind.bits] at h
  omega
theorem wfu64 {z : Int} (h : (Lit.int .u64 z).wf = true) : 0 ≤ z ∧ z ≤ 18446744073709551615 := by
  simp [Lit.wf, IntKind.min, IntKind.max, IntKind.signed, IntKind.bits] at h
  omega
noncomputable def codeOf (len : Nat) (zs : List Int) : Int := Go.Sx.arrC len 1 fun j _ => zs.getD j 0
theorem gv_of {W : World} {kv : Nat → Nat} {iv : Nat → Int} {bv : Nat → Bool} {b off len : Nat} {zs : List Int} (h0 : kv 0 = b) (h4 : iv 4 = Int.ofNat off) (h3 : iv 3 = Int.ofNat len) (h6 : iv 6 = codeOf len zs)
    (hc : ∀ j, j < len → W.cell? ⟨b, off + j, none⟩ = some (.int .i64 (zs.getD j 0))) (hw : ∀ j, j < len → (Lit.int .i64 (zs.getD j 0)).wf = true) :
    Go.Sx.GvIs (Go.Sx.sta Go.Sx.Esc.FI Go.Sx.Esc.FB kv iv bv) W ⟨0, .v 4, [.nt .i64], 6, .v 3⟩ := by
  refine ⟨off, len, by simp [Go.Sx.SI.den, Go.Sx.sta, h4], by simp [Go.Sx.SI.den, Go.Sx.sta, h3], fun j hj f κ hf => ?_⟩
  match f, hf with
  | 0, hf =>
    simp only [List.getElem?_cons_zero, Option.some.injEq] at hf
    subst hf
    show W.cell? ⟨kv 0, off + j * 1 + 0, none⟩ = some (.int .i64 (Go.Sx.Esc.FI 3 (iv 6) j 0 0 0 0))
    have hz := wf64 (hw j hj)
    rw [h0, h6, Nat.mul_one, Nat.add_zero, hc j hj, Go.Sx.Esc.FI_3, Int.toNat_natCast, Int.toNat_zero]
    unfold codeOf
    rw [Go.Sx.gt_arrC, if_pos ⟨hj, by omega⟩, Go.Sx.wrap_i64]
    congr 2; omega
  | f + 1, hf => simp at hf
/-- the given list, read again -/
theorem again {H : Type} {enc : TypeId × Value → H} {W W' : World} {b off len cap : Nat} {zs : List Int} {before : List MemPlace} {sp : Nat → Bool} (hb : Below W.heap.size W W') (hl : len ≤ cap) (hm : cap ≤ maxLen) (hz : zs.length = cap)
    (hc : ∀ i, i < zs.length → W.cell? ⟨b, off + i, none⟩ = some (.int .i64 (zs.getD i 0))) (hw : ∀ n ∈ zs, (Lit.int .i64 n).wf = true) (hlt : ∀ p ∈ before, p.block < W.heap.size) (hsp : ∀ p ∈ before, sp p.block = true) (hin : ∀ p ∈ MemPlace.row ⟨b, off, none⟩ zs.length, p ∈ before) :
    DataW.Trod enc Try.prog W' 0 sp true 38 (.slice (some ⟨b, off, none⟩) len cap) (.slice (lits .i64 (zs.take len)) (lits .i64 (zs.drop len))) (MemPlace.row ⟨b, off, none⟩ zs.length) := by
  have h := shut_ints' (enc := enc) (P := Try.prog) (w := W') (base := 0) (spare := sp) (held := true) (b := b) (off := off) (len := len) (cap := cap) (zs := zs) 0 Try.underlying38 Try.underlying2 cells2 (Nat.zero_le _) hl hm (by
    by_cases h0 : cap = 0
    · split <;> omega
    · have : sp b = true := hsp (MemPlace.cell b (off + 0)) (hin _ (MemPlace.mem_row.2 ⟨0, by omega, rfl⟩))
      rw [this]; exact hz) (fun i hi => by
      rw [← hc i hi]
      exact hb.cell (p := ⟨b, off + i, none⟩) (hlt (MemPlace.cell b (off + i)) (hin _ (MemPlace.mem_row.2 ⟨i, hi, rfl⟩)))) hw
  exact ⟨_, by simpa [Value.cells] using h⟩
theorem ctrT {H : Type} {enc : TypeId × Value → H} {w : World} {base : Nat} {sp : Nat → Bool} {hd : Bool} {x y z : Int} (wx : (Lit.int .i64 x).wf = true) (wy : (Lit.int .i64 y).wf = true) (wz : (Lit.int .u64 z).wf = true) :
    DataW.Trod enc Try.prog w base sp hd 24 (.agg #[.int .i64 x, .int .i64 y, .int .u64 z]) (.agg [(.lit (.int .i64 x)), (.lit (.int .i64 y)), (.lit (.int .u64 z))]) [] :=
  shut_agg3 (y0 := (.lit (.int .i64 x), [])) (y1 := (.lit (.int .i64 y), [])) (y2 := (.lit (.int .u64 z), [])) Try.underlying24 (by kernel_rfl) cells24 ⟨1, by simp [DataW.trod, Try.underlying2, wx]⟩ ⟨1, by simp [DataW.trod, Try.underlying2, wy]⟩ ⟨1, by simp [DataW.trod, Try.underlying22, wz]⟩
theorem ret_true {c : Go.Sx.Con} {σ : Go.Sx.Sta} {w w' : World} {e : Ending} (hos : c.os = Go.Sx.Esc.o1 (.bo (.c true))) (h : c.Post σ w e w') : e = .returned (.bool true) ∧ Below w.heap.size w w' := by
  obtain ⟨u, he, hb, ho⟩ := h
  refine ⟨?_, hb⟩
  have hu := ho ⟨[], .bo (.c true), [], 0, 0, []⟩ (by rw [hos]; exact List.mem_cons_self ..) (fun p hp => by cases hp)
  obtain ⟨ρ, _, _, _, _, _, _, _, hz⟩ := hu
  simp only [Go.Sx.SV.Is, Go.Sx.SB.den] at hz
  obtain ⟨q, hq, rfl⟩ := hz
  cases hq
  exact he
end Go.Proofs.Ytimdcofalpglbaa
