import Derived.Test.YtimdcofalpglbaaEsH
namespace Go.Sx.Esc
set_option linter.unusedVariables false
set_option linter.unusedSimpArgs false
open Go Go.Sx Go.Proofs 
noncomputable def lRuns0 : Con := ⟨5, [0, 1, 2], [ctr, .sn], [], b3, [], o1 (.bo (.c true))⟩
noncomputable def lRuns0_L0 : List Lf :=
  [(.fin [((.eq (.ap 23 (.v 0) (.v 1) (.v 2) (.c 0) (.c 0) (.c 0)) (.c 0)), .true), ((.eq (.ap 22 (.v 0) (.v 1) (.v 2) (.c 0) (.c 0) (.c 0)) (.c 0)), .true), ((.eq (.ap 27 (.v 0) (.v 1) (.v 2) (.c 0) (.c 0) (.c 0)) (.v 2)), .true), ((.eq (.ap 26 (.v 0) (.v 1) (.v 2) (.c 0) (.c 0) (.c 0)) (.v 1)), .true), ((.eq (.ap 25 (.v 0) (.v 1) (.v 2) (.c 0) (.c 0) (.c 0)) (.v 0)), .true), ((.le (.v 2) (.c 4611686018427387904)), .true), ((.le (.v 1) (.v 0)), .true), ((.le (.c 1) (.d 0)), .true)] 0 ⟨⟨[], []⟩, [], [], []⟩ [] []), (.fin [((.eq (.ap 23 (.v 0) (.v 1) (.v 2) (.c 0) (.c 0) (.c 0)) (.c 0)), .false), ((.eq (.ap 22 (.v 0) (.v 1) (.v 2) (.c 0) (.c 0) (.c 0)) (.c 0)), .true), ((.eq (.ap 27 (.v 0) (.v 1) (.v 2) (.c 0) (.c 0) (.c 0)) (.v 2)), .true), ((.eq (.ap 26 (.v 0) (.v 1) (.v 2) (.c 0) (.c 0) (.c 0)) (.v 1)), .true), ((.eq (.ap 25 (.v 0) (.v 1) (.v 2) (.c 0) (.c 0) (.c 0)) (.v 0)), .true), ((.le (.v 2) (.c 4611686018427387904)), .true), ((.le (.v 1) (.v 0)), .true), ((.le (.c 1) (.d 0)), .true)] 0 ⟨⟨[], []⟩, [], [], []⟩ [(.eb (.c .true) (.c .false))] []), (.fin [((.eq (.ap 22 (.v 0) (.v 1) (.v 2) (.c 0) (.c 0) (.c 0)) (.c 0)), .false), ((.eq (.ap 27 (.v 0) (.v 1) (.v 2) (.c 0) (.c 0) (.c 0)) (.v 2)), .true), ((.eq (.ap 26 (.v 0) (.v 1) (.v 2) (.c 0) (.c 0) (.c 0)) (.v 1)), .true), ((.eq (.ap 25 (.v 0) (.v 1) (.v 2) (.c 0) (.c 0) (.c 0)) (.v 0)), .true), ((.le (.v 2) (.c 4611686018427387904)), .true), ((.le (.v 1) (.v 0)), .true), ((.le (.c 1) (.d 0)), .true)] 0 ⟨⟨[], []⟩, [], [], []⟩ [(.eb (.c .true) (.c .false))] []), (.fin [((.eq (.ap 27 (.v 0) (.v 1) (.v 2) (.c 0) (.c 0) (.c 0)) (.v 2)), .false), ((.eq (.ap 26 (.v 0) (.v 1) (.v 2) (.c 0) (.c 0) (.c 0)) (.v 1)), .true), ((.eq (.ap 25 (.v 0) (.v 1) (.v 2) (.c 0) (.c 0) (.c 0)) (.v 0)), .true), ((.le (.v 2) (.c 4611686018427387904)), .true), ((.le (.v 1) (.v 0)), .true), ((.le (.c 1) (.d 0)), .true)] 0 ⟨⟨[], []⟩, [], [], []⟩ [(.eb (.c .true) (.c .false))] []), (.fin [((.eq (.ap 26 (.v 0) (.v 1) (.v 2) (.c 0) (.c 0) (.c 0)) (.v 1)), .false), ((.eq (.ap 25 (.v 0) (.v 1) (.v 2) (.c 0) (.c 0) (.c 0)) (.v 0)), .true), ((.le (.v 2) (.c 4611686018427387904)), .true), ((.le (.v 1) (.v 0)), .true), ((.le (.c 1) (.d 0)), .true)] 0 ⟨⟨[], []⟩, [], [], []⟩ [(.eb (.c .true) (.c .false))] []), (.fin [((.eq (.ap 25 (.v 0) (.v 1) (.v 2) (.c 0) (.c 0) (.c 0)) (.v 0)), .false), ((.le (.v 2) (.c 4611686018427387904)), .true), ((.le (.v 1) (.v 0)), .true), ((.le (.c 1) (.d 0)), .true)] 0 ⟨⟨[], []⟩, [], [], []⟩ [(.eb (.c .true) (.c .false))] []), (.fin [((.le (.v 2) (.c 4611686018427387904)), .false), ((.le (.v 1) (.v 0)), .true), ((.le (.c 1) (.d 0)), .true)] 0 ⟨⟨[], []⟩, [], [], []⟩ [] []), (.fin [((.le (.v 1) (.v 0)), .false), ((.le (.c 1) (.d 0)), .true)] 0 ⟨⟨[], []⟩, [], [], []⟩ [] [])]
set_option maxRecDepth 100000 in
theorem lRuns0_h0 : (ex (ccOf Try.prog BF [24] lRuns0) (ents3 (ccOf Try.prog BF [24] lRuns0)) (dw (ccOf Try.prog BF [24] lRuns0) (ents3 (ccOf Try.prog BF [24] lRuns0)) 1000 4) (stopL []) 4000 (tm0 lRuns0 Try.f5 (Try.f5.body.getD .skip)).f (tm0 lRuns0 Try.f5 (Try.f5.body.getD .skip)).fs (tm0 lRuns0 Try.f5 (Try.f5.body.getD .skip)).H).lfs (ccOf Try.prog BF [24] lRuns0) ((tm0 lRuns0 Try.f5 (Try.f5.body.getD .skip)) :: []) lRuns0.os = some lRuns0_L0 := by kernel_rfl
def lRuns0_inv : (Nat → Int) → (Nat → Bool) → Nat → (Nat → Int) → (Nat → Bool) → Prop := fun _ _ _ _ _ => True
def lRuns0_mu : (Nat → Int) → (Nat → Bool) → Nat → (Nat → Int) → (Nat → Bool) → Nat := fun _ _ _ _ _ => 0
set_option maxHeartbeats 1000000 in
theorem lRuns0_o0_0 (kv : Nat → Nat) (iv0 : Nat → Int) (bv0 : Nat → Bool) (hin : InB lRuns0.B iv0) (hF : FT (sta FI FB kv iv0 bv0) (dlt dyn0) lRuns0.F) (iv : Nat → Int) (bv : Nat → Bool) (ha : Agr 3 iv0 bv0 iv bv) (hi : lRuns0_inv iv0 bv0 0 iv bv) :
    LfT (sta FI FB kv) lRuns0.os (lRuns0_inv iv0 bv0) (lRuns0_mu iv0 bv0) 0 iv bv (.fin [((.eq (.ap 23 (.v 0) (.v 1) (.v 2) (.c 0) (.c 0) (.c 0)) (.c 0)), .true), ((.eq (.ap 22 (.v 0) (.v 1) (.v 2) (.c 0) (.c 0) (.c 0)) (.c 0)), .true), ((.eq (.ap 27 (.v 0) (.v 1) (.v 2) (.c 0) (.c 0) (.c 0)) (.v 2)), .true), ((.eq (.ap 26 (.v 0) (.v 1) (.v 2) (.c 0) (.c 0) (.c 0)) (.v 1)), .true), ((.eq (.ap 25 (.v 0) (.v 1) (.v 2) (.c 0) (.c 0) (.c 0)) (.v 0)), .true), ((.le (.v 2) (.c 4611686018427387904)), .true), ((.le (.v 1) (.v 0)), .true), ((.le (.c 1) (.d 0)), .true)] 0 ⟨⟨[], []⟩, [], [], []⟩ [] []) := by
  intro δ hf
  simp only [FT, TP, SB.tp, SI.tv, sta, IB.eval, and_true, true_and, ObsT, Ob.Tv, rowT, kix, In.tiv, In.tbv, get_cons, get_nil, reduceIte, Nat.reduceEqDiff, Int.reduceToNat, Int.reduceAdd, ap5, ne_eq, Bool.false_eq_true, not_true_eq_false, not_false_eq_true, FI_3, FI_7, FI_8, FI_9, FI_10, FI_11, FI_12, FI_13, FI_14, FI_15, FI_16, FI_17, FI_18, FI_19, FI_20, FI_21, FI_22, FI_23, FI_24, FI_25, FI_26, FI_27] at hf
  have a0 := ha.1 0 (by omega)
  have a1 := ha.1 1 (by omega)
  have a2 := ha.1 2 (by omega)
  have b0 := hin 0 (-9223372036854775808) 9223372036854775807 (by simp [lRuns0, b3])
  have b1 := hin 1 (-9223372036854775808) 9223372036854775807 (by simp [lRuns0, b3])
  have b2 := hin 2 0 18446744073709551615 (by simp [lRuns0, b3])
  simp only [FT, TP, SB.tp, SI.tv, sta, IB.eval, and_true, true_and, ObsT, Ob.Tv, rowT, kix, In.tiv, In.tbv, get_cons, get_nil, reduceIte, Nat.reduceEqDiff, Int.reduceToNat, Int.reduceAdd, ap5, ne_eq, Bool.false_eq_true, not_true_eq_false, not_false_eq_true, FI_3, FI_7, FI_8, FI_9, FI_10, FI_11, FI_12, FI_13, FI_14, FI_15, FI_16, FI_17, FI_18, FI_19, FI_20, FI_21, FI_22, FI_23, FI_24, FI_25, FI_26, FI_27, lRuns0, othT, a0, a1, a2] at hf ⊢
  simp [othT, o1]

set_option maxHeartbeats 1000000 in
theorem lRuns0_o0_1 (kv : Nat → Nat) (iv0 : Nat → Int) (bv0 : Nat → Bool) (hin : InB lRuns0.B iv0) (hF : FT (sta FI FB kv iv0 bv0) (dlt dyn0) lRuns0.F) (iv : Nat → Int) (bv : Nat → Bool) (ha : Agr 3 iv0 bv0 iv bv) (hi : lRuns0_inv iv0 bv0 0 iv bv) :
    LfT (sta FI FB kv) lRuns0.os (lRuns0_inv iv0 bv0) (lRuns0_mu iv0 bv0) 0 iv bv (.fin [((.eq (.ap 23 (.v 0) (.v 1) (.v 2) (.c 0) (.c 0) (.c 0)) (.c 0)), .false), ((.eq (.ap 22 (.v 0) (.v 1) (.v 2) (.c 0) (.c 0) (.c 0)) (.c 0)), .true), ((.eq (.ap 27 (.v 0) (.v 1) (.v 2) (.c 0) (.c 0) (.c 0)) (.v 2)), .true), ((.eq (.ap 26 (.v 0) (.v 1) (.v 2) (.c 0) (.c 0) (.c 0)) (.v 1)), .true), ((.eq (.ap 25 (.v 0) (.v 1) (.v 2) (.c 0) (.c 0) (.c 0)) (.v 0)), .true), ((.le (.v 2) (.c 4611686018427387904)), .true), ((.le (.v 1) (.v 0)), .true), ((.le (.c 1) (.d 0)), .true)] 0 ⟨⟨[], []⟩, [], [], []⟩ [(.eb (.c .true) (.c .false))] []) := by
  intro δ hf
  simp only [FT, TP, SB.tp, SI.tv, sta, IB.eval, and_true, true_and, ObsT, Ob.Tv, rowT, kix, In.tiv, In.tbv, get_cons, get_nil, reduceIte, Nat.reduceEqDiff, Int.reduceToNat, Int.reduceAdd, ap5, ne_eq, Bool.false_eq_true, not_true_eq_false, not_false_eq_true, FI_3, FI_7, FI_8, FI_9, FI_10, FI_11, FI_12, FI_13, FI_14, FI_15, FI_16, FI_17, FI_18, FI_19, FI_20, FI_21, FI_22, FI_23, FI_24, FI_25, FI_26, FI_27] at hf
  have a0 := ha.1 0 (by omega)
  have a1 := ha.1 1 (by omega)
  have a2 := ha.1 2 (by omega)
  have b0 := hin 0 (-9223372036854775808) 9223372036854775807 (by simp [lRuns0, b3])
  have b1 := hin 1 (-9223372036854775808) 9223372036854775807 (by simp [lRuns0, b3])
  have b2 := hin 2 0 18446744073709551615 (by simp [lRuns0, b3])
  simp only [FT, TP, SB.tp, SI.tv, sta, IB.eval, and_true, true_and, ObsT, Ob.Tv, rowT, kix, In.tiv, In.tbv, get_cons, get_nil, reduceIte, Nat.reduceEqDiff, Int.reduceToNat, Int.reduceAdd, ap5, ne_eq, Bool.false_eq_true, not_true_eq_false, not_false_eq_true, FI_3, FI_7, FI_8, FI_9, FI_10, FI_11, FI_12, FI_13, FI_14, FI_15, FI_16, FI_17, FI_18, FI_19, FI_20, FI_21, FI_22, FI_23, FI_24, FI_25, FI_26, FI_27, lRuns0, othT, a0, a1, a2] at hf ⊢
  obtain ⟨h0, h1, h2, h3, h4⟩ := M_none (c := 0) (n := 0) b0 b1 b2 (by omega) (by omega) (fun h => absurd h (by omega))
  simp only [h0, h1, h2, h3, h4, Int.lt_irrefl, if_false, not_true_eq_false, false_and, and_false, true_and] at hf
  all_goals (exfalso; omega)

set_option maxHeartbeats 1000000 in
theorem lRuns0_o0_2 (kv : Nat → Nat) (iv0 : Nat → Int) (bv0 : Nat → Bool) (hin : InB lRuns0.B iv0) (hF : FT (sta FI FB kv iv0 bv0) (dlt dyn0) lRuns0.F) (iv : Nat → Int) (bv : Nat → Bool) (ha : Agr 3 iv0 bv0 iv bv) (hi : lRuns0_inv iv0 bv0 0 iv bv) :
    LfT (sta FI FB kv) lRuns0.os (lRuns0_inv iv0 bv0) (lRuns0_mu iv0 bv0) 0 iv bv (.fin [((.eq (.ap 22 (.v 0) (.v 1) (.v 2) (.c 0) (.c 0) (.c 0)) (.c 0)), .false), ((.eq (.ap 27 (.v 0) (.v 1) (.v 2) (.c 0) (.c 0) (.c 0)) (.v 2)), .true), ((.eq (.ap 26 (.v 0) (.v 1) (.v 2) (.c 0) (.c 0) (.c 0)) (.v 1)), .true), ((.eq (.ap 25 (.v 0) (.v 1) (.v 2) (.c 0) (.c 0) (.c 0)) (.v 0)), .true), ((.le (.v 2) (.c 4611686018427387904)), .true), ((.le (.v 1) (.v 0)), .true), ((.le (.c 1) (.d 0)), .true)] 0 ⟨⟨[], []⟩, [], [], []⟩ [(.eb (.c .true) (.c .false))] []) := by
  intro δ hf
  simp only [FT, TP, SB.tp, SI.tv, sta, IB.eval, and_true, true_and, ObsT, Ob.Tv, rowT, kix, In.tiv, In.tbv, get_cons, get_nil, reduceIte, Nat.reduceEqDiff, Int.reduceToNat, Int.reduceAdd, ap5, ne_eq, Bool.false_eq_true, not_true_eq_false, not_false_eq_true, FI_3, FI_7, FI_8, FI_9, FI_10, FI_11, FI_12, FI_13, FI_14, FI_15, FI_16, FI_17, FI_18, FI_19, FI_20, FI_21, FI_22, FI_23, FI_24, FI_25, FI_26, FI_27] at hf
  have a0 := ha.1 0 (by omega)
  have a1 := ha.1 1 (by omega)
  have a2 := ha.1 2 (by omega)
  have b0 := hin 0 (-9223372036854775808) 9223372036854775807 (by simp [lRuns0, b3])
  have b1 := hin 1 (-9223372036854775808) 9223372036854775807 (by simp [lRuns0, b3])
  have b2 := hin 2 0 18446744073709551615 (by simp [lRuns0, b3])
  simp only [FT, TP, SB.tp, SI.tv, sta, IB.eval, and_true, true_and, ObsT, Ob.Tv, rowT, kix, In.tiv, In.tbv, get_cons, get_nil, reduceIte, Nat.reduceEqDiff, Int.reduceToNat, Int.reduceAdd, ap5, ne_eq, Bool.false_eq_true, not_true_eq_false, not_false_eq_true, FI_3, FI_7, FI_8, FI_9, FI_10, FI_11, FI_12, FI_13, FI_14, FI_15, FI_16, FI_17, FI_18, FI_19, FI_20, FI_21, FI_22, FI_23, FI_24, FI_25, FI_26, FI_27, lRuns0, othT, a0, a1, a2] at hf ⊢
  obtain ⟨h0, h1, h2, h3, h4⟩ := M_none (c := 0) (n := 0) b0 b1 b2 (by omega) (by omega) (fun h => absurd h (by omega))
  simp only [h0, h1, h2, h3, h4, Int.lt_irrefl, if_false, not_true_eq_false, false_and, and_false, true_and] at hf
  all_goals (exfalso; omega)

set_option maxHeartbeats 1000000 in
theorem lRuns0_o0_3 (kv : Nat → Nat) (iv0 : Nat → Int) (bv0 : Nat → Bool) (hin : InB lRuns0.B iv0) (hF : FT (sta FI FB kv iv0 bv0) (dlt dyn0) lRuns0.F) (iv : Nat → Int) (bv : Nat → Bool) (ha : Agr 3 iv0 bv0 iv bv) (hi : lRuns0_inv iv0 bv0 0 iv bv) :
    LfT (sta FI FB kv) lRuns0.os (lRuns0_inv iv0 bv0) (lRuns0_mu iv0 bv0) 0 iv bv (.fin [((.eq (.ap 27 (.v 0) (.v 1) (.v 2) (.c 0) (.c 0) (.c 0)) (.v 2)), .false), ((.eq (.ap 26 (.v 0) (.v 1) (.v 2) (.c 0) (.c 0) (.c 0)) (.v 1)), .true), ((.eq (.ap 25 (.v 0) (.v 1) (.v 2) (.c 0) (.c 0) (.c 0)) (.v 0)), .true), ((.le (.v 2) (.c 4611686018427387904)), .true), ((.le (.v 1) (.v 0)), .true), ((.le (.c 1) (.d 0)), .true)] 0 ⟨⟨[], []⟩, [], [], []⟩ [(.eb (.c .true) (.c .false))] []) := by
  intro δ hf
  simp only [FT, TP, SB.tp, SI.tv, sta, IB.eval, and_true, true_and, ObsT, Ob.Tv, rowT, kix, In.tiv, In.tbv, get_cons, get_nil, reduceIte, Nat.reduceEqDiff, Int.reduceToNat, Int.reduceAdd, ap5, ne_eq, Bool.false_eq_true, not_true_eq_false, not_false_eq_true, FI_3, FI_7, FI_8, FI_9, FI_10, FI_11, FI_12, FI_13, FI_14, FI_15, FI_16, FI_17, FI_18, FI_19, FI_20, FI_21, FI_22, FI_23, FI_24, FI_25, FI_26, FI_27] at hf
  have a0 := ha.1 0 (by omega)
  have a1 := ha.1 1 (by omega)
  have a2 := ha.1 2 (by omega)
  have b0 := hin 0 (-9223372036854775808) 9223372036854775807 (by simp [lRuns0, b3])
  have b1 := hin 1 (-9223372036854775808) 9223372036854775807 (by simp [lRuns0, b3])
  have b2 := hin 2 0 18446744073709551615 (by simp [lRuns0, b3])
  simp only [FT, TP, SB.tp, SI.tv, sta, IB.eval, and_true, true_and, ObsT, Ob.Tv, rowT, kix, In.tiv, In.tbv, get_cons, get_nil, reduceIte, Nat.reduceEqDiff, Int.reduceToNat, Int.reduceAdd, ap5, ne_eq, Bool.false_eq_true, not_true_eq_false, not_false_eq_true, FI_3, FI_7, FI_8, FI_9, FI_10, FI_11, FI_12, FI_13, FI_14, FI_15, FI_16, FI_17, FI_18, FI_19, FI_20, FI_21, FI_22, FI_23, FI_24, FI_25, FI_26, FI_27, lRuns0, othT, a0, a1, a2] at hf ⊢
  obtain ⟨h0, h1, h2, h3, h4⟩ := M_none (c := 0) (n := 0) b0 b1 b2 (by omega) (by omega) (fun h => absurd h (by omega))
  simp only [h0, h1, h2, h3, h4, Int.lt_irrefl, if_false, not_true_eq_false, false_and, and_false, true_and] at hf
  all_goals (exfalso; omega)

set_option maxHeartbeats 1000000 in
theorem lRuns0_o0_4 (kv : Nat → Nat) (iv0 : Nat → Int) (bv0 : Nat → Bool) (hin : InB lRuns0.B iv0) (hF : FT (sta FI FB kv iv0 bv0) (dlt dyn0) lRuns0.F) (iv : Nat → Int) (bv : Nat → Bool) (ha : Agr 3 iv0 bv0 iv bv) (hi : lRuns0_inv iv0 bv0 0 iv bv) :
    LfT (sta FI FB kv) lRuns0.os (lRuns0_inv iv0 bv0) (lRuns0_mu iv0 bv0) 0 iv bv (.fin [((.eq (.ap 26 (.v 0) (.v 1) (.v 2) (.c 0) (.c 0) (.c 0)) (.v 1)), .false), ((.eq (.ap 25 (.v 0) (.v 1) (.v 2) (.c 0) (.c 0) (.c 0)) (.v 0)), .true), ((.le (.v 2) (.c 4611686018427387904)), .true), ((.le (.v 1) (.v 0)), .true), ((.le (.c 1) (.d 0)), .true)] 0 ⟨⟨[], []⟩, [], [], []⟩ [(.eb (.c .true) (.c .false))] []) := by
  intro δ hf
  simp only [FT, TP, SB.tp, SI.tv, sta, IB.eval, and_true, true_and, ObsT, Ob.Tv, rowT, kix, In.tiv, In.tbv, get_cons, get_nil, reduceIte, Nat.reduceEqDiff, Int.reduceToNat, Int.reduceAdd, ap5, ne_eq, Bool.false_eq_true, not_true_eq_false, not_false_eq_true, FI_3, FI_7, FI_8, FI_9, FI_10, FI_11, FI_12, FI_13, FI_14, FI_15, FI_16, FI_17, FI_18, FI_19, FI_20, FI_21, FI_22, FI_23, FI_24, FI_25, FI_26, FI_27] at hf
  have a0 := ha.1 0 (by omega)
  have a1 := ha.1 1 (by omega)
  have a2 := ha.1 2 (by omega)
  have b0 := hin 0 (-9223372036854775808) 9223372036854775807 (by simp [lRuns0, b3])
  have b1 := hin 1 (-9223372036854775808) 9223372036854775807 (by simp [lRuns0, b3])
  have b2 := hin 2 0 18446744073709551615 (by simp [lRuns0, b3])
  simp only [FT, TP, SB.tp, SI.tv, sta, IB.eval, and_true, true_and, ObsT, Ob.Tv, rowT, kix, In.tiv, In.tbv, get_cons, get_nil, reduceIte, Nat.reduceEqDiff, Int.reduceToNat, Int.reduceAdd, ap5, ne_eq, Bool.false_eq_true, not_true_eq_false, not_false_eq_true, FI_3, FI_7, FI_8, FI_9, FI_10, FI_11, FI_12, FI_13, FI_14, FI_15, FI_16, FI_17, FI_18, FI_19, FI_20, FI_21, FI_22, FI_23, FI_24, FI_25, FI_26, FI_27, lRuns0, othT, a0, a1, a2] at hf ⊢
  obtain ⟨h0, h1, h2, h3, h4⟩ := M_none (c := 0) (n := 0) b0 b1 b2 (by omega) (by omega) (fun h => absurd h (by omega))
  simp only [h0, h1, h2, h3, h4, Int.lt_irrefl, if_false, not_true_eq_false, false_and, and_false, true_and] at hf
  all_goals (exfalso; omega)

set_option maxHeartbeats 1000000 in
theorem lRuns0_o0_5 (kv : Nat → Nat) (iv0 : Nat → Int) (bv0 : Nat → Bool) (hin : InB lRuns0.B iv0) (hF : FT (sta FI FB kv iv0 bv0) (dlt dyn0) lRuns0.F) (iv : Nat → Int) (bv : Nat → Bool) (ha : Agr 3 iv0 bv0 iv bv) (hi : lRuns0_inv iv0 bv0 0 iv bv) :
    LfT (sta FI FB kv) lRuns0.os (lRuns0_inv iv0 bv0) (lRuns0_mu iv0 bv0) 0 iv bv (.fin [((.eq (.ap 25 (.v 0) (.v 1) (.v 2) (.c 0) (.c 0) (.c 0)) (.v 0)), .false), ((.le (.v 2) (.c 4611686018427387904)), .true), ((.le (.v 1) (.v 0)), .true), ((.le (.c 1) (.d 0)), .true)] 0 ⟨⟨[], []⟩, [], [], []⟩ [(.eb (.c .true) (.c .false))] []) := by
  intro δ hf
  simp only [FT, TP, SB.tp, SI.tv, sta, IB.eval, and_true, true_and, ObsT, Ob.Tv, rowT, kix, In.tiv, In.tbv, get_cons, get_nil, reduceIte, Nat.reduceEqDiff, Int.reduceToNat, Int.reduceAdd, ap5, ne_eq, Bool.false_eq_true, not_true_eq_false, not_false_eq_true, FI_3, FI_7, FI_8, FI_9, FI_10, FI_11, FI_12, FI_13, FI_14, FI_15, FI_16, FI_17, FI_18, FI_19, FI_20, FI_21, FI_22, FI_23, FI_24, FI_25, FI_26, FI_27] at hf
  have a0 := ha.1 0 (by omega)
  have a1 := ha.1 1 (by omega)
  have a2 := ha.1 2 (by omega)
  have b0 := hin 0 (-9223372036854775808) 9223372036854775807 (by simp [lRuns0, b3])
  have b1 := hin 1 (-9223372036854775808) 9223372036854775807 (by simp [lRuns0, b3])
  have b2 := hin 2 0 18446744073709551615 (by simp [lRuns0, b3])
  simp only [FT, TP, SB.tp, SI.tv, sta, IB.eval, and_true, true_and, ObsT, Ob.Tv, rowT, kix, In.tiv, In.tbv, get_cons, get_nil, reduceIte, Nat.reduceEqDiff, Int.reduceToNat, Int.reduceAdd, ap5, ne_eq, Bool.false_eq_true, not_true_eq_false, not_false_eq_true, FI_3, FI_7, FI_8, FI_9, FI_10, FI_11, FI_12, FI_13, FI_14, FI_15, FI_16, FI_17, FI_18, FI_19, FI_20, FI_21, FI_22, FI_23, FI_24, FI_25, FI_26, FI_27, lRuns0, othT, a0, a1, a2] at hf ⊢
  obtain ⟨h0, h1, h2, h3, h4⟩ := M_none (c := 0) (n := 0) b0 b1 b2 (by omega) (by omega) (fun h => absurd h (by omega))
  simp only [h0, h1, h2, h3, h4, Int.lt_irrefl, if_false, not_true_eq_false, false_and, and_false, true_and] at hf
  all_goals (exfalso; omega)

set_option maxHeartbeats 1000000 in
theorem lRuns0_o0_6 (kv : Nat → Nat) (iv0 : Nat → Int) (bv0 : Nat → Bool) (hin : InB lRuns0.B iv0) (hF : FT (sta FI FB kv iv0 bv0) (dlt dyn0) lRuns0.F) (iv : Nat → Int) (bv : Nat → Bool) (ha : Agr 3 iv0 bv0 iv bv) (hi : lRuns0_inv iv0 bv0 0 iv bv) :
    LfT (sta FI FB kv) lRuns0.os (lRuns0_inv iv0 bv0) (lRuns0_mu iv0 bv0) 0 iv bv (.fin [((.le (.v 2) (.c 4611686018427387904)), .false), ((.le (.v 1) (.v 0)), .true), ((.le (.c 1) (.d 0)), .true)] 0 ⟨⟨[], []⟩, [], [], []⟩ [] []) := by
  intro δ hf
  simp only [FT, TP, SB.tp, SI.tv, sta, IB.eval, and_true, true_and, ObsT, Ob.Tv, rowT, kix, In.tiv, In.tbv, get_cons, get_nil, reduceIte, Nat.reduceEqDiff, Int.reduceToNat, Int.reduceAdd, ap5, ne_eq, Bool.false_eq_true, not_true_eq_false, not_false_eq_true, FI_3, FI_7, FI_8, FI_9, FI_10, FI_11, FI_12, FI_13, FI_14, FI_15, FI_16, FI_17, FI_18, FI_19, FI_20, FI_21, FI_22, FI_23, FI_24, FI_25, FI_26, FI_27] at hf
  have a0 := ha.1 0 (by omega)
  have a1 := ha.1 1 (by omega)
  have a2 := ha.1 2 (by omega)
  have b0 := hin 0 (-9223372036854775808) 9223372036854775807 (by simp [lRuns0, b3])
  have b1 := hin 1 (-9223372036854775808) 9223372036854775807 (by simp [lRuns0, b3])
  have b2 := hin 2 0 18446744073709551615 (by simp [lRuns0, b3])
  simp only [FT, TP, SB.tp, SI.tv, sta, IB.eval, and_true, true_and, ObsT, Ob.Tv, rowT, kix, In.tiv, In.tbv, get_cons, get_nil, reduceIte, Nat.reduceEqDiff, Int.reduceToNat, Int.reduceAdd, ap5, ne_eq, Bool.false_eq_true, not_true_eq_false, not_false_eq_true, FI_3, FI_7, FI_8, FI_9, FI_10, FI_11, FI_12, FI_13, FI_14, FI_15, FI_16, FI_17, FI_18, FI_19, FI_20, FI_21, FI_22, FI_23, FI_24, FI_25, FI_26, FI_27, lRuns0, othT, a0, a1, a2] at hf ⊢
  simp [othT, o1]

set_option maxHeartbeats 1000000 in
theorem lRuns0_o0_7 (kv : Nat → Nat) (iv0 : Nat → Int) (bv0 : Nat → Bool) (hin : InB lRuns0.B iv0) (hF : FT (sta FI FB kv iv0 bv0) (dlt dyn0) lRuns0.F) (iv : Nat → Int) (bv : Nat → Bool) (ha : Agr 3 iv0 bv0 iv bv) (hi : lRuns0_inv iv0 bv0 0 iv bv) :
    LfT (sta FI FB kv) lRuns0.os (lRuns0_inv iv0 bv0) (lRuns0_mu iv0 bv0) 0 iv bv (.fin [((.le (.v 1) (.v 0)), .false), ((.le (.c 1) (.d 0)), .true)] 0 ⟨⟨[], []⟩, [], [], []⟩ [] []) := by
  intro δ hf
  simp only [FT, TP, SB.tp, SI.tv, sta, IB.eval, and_true, true_and, ObsT, Ob.Tv, rowT, kix, In.tiv, In.tbv, get_cons, get_nil, reduceIte, Nat.reduceEqDiff, Int.reduceToNat, Int.reduceAdd, ap5, ne_eq, Bool.false_eq_true, not_true_eq_false, not_false_eq_true, FI_3, FI_7, FI_8, FI_9, FI_10, FI_11, FI_12, FI_13, FI_14, FI_15, FI_16, FI_17, FI_18, FI_19, FI_20, FI_21, FI_22, FI_23, FI_24, FI_25, FI_26, FI_27] at hf
  have a0 := ha.1 0 (by omega)
  have a1 := ha.1 1 (by omega)
  have a2 := ha.1 2 (by omega)
  have b0 := hin 0 (-9223372036854775808) 9223372036854775807 (by simp [lRuns0, b3])
  have b1 := hin 1 (-9223372036854775808) 9223372036854775807 (by simp [lRuns0, b3])
  have b2 := hin 2 0 18446744073709551615 (by simp [lRuns0, b3])
  simp only [FT, TP, SB.tp, SI.tv, sta, IB.eval, and_true, true_and, ObsT, Ob.Tv, rowT, kix, In.tiv, In.tbv, get_cons, get_nil, reduceIte, Nat.reduceEqDiff, Int.reduceToNat, Int.reduceAdd, ap5, ne_eq, Bool.false_eq_true, not_true_eq_false, not_false_eq_true, FI_3, FI_7, FI_8, FI_9, FI_10, FI_11, FI_12, FI_13, FI_14, FI_15, FI_16, FI_17, FI_18, FI_19, FI_20, FI_21, FI_22, FI_23, FI_24, FI_25, FI_26, FI_27, lRuns0, othT, a0, a1, a2] at hf ⊢
  simp [othT, o1]

set_option maxRecDepth 100000 in
theorem lRuns0_c : LsC ((tm0 lRuns0 Try.f5 (Try.f5.body.getD .skip)) :: []) lRuns0.os [lRuns0_L0] := by
  unfold lRuns0_L0
  exact ⟨List.forall_mem_cons.2 ⟨⟨⟨_, rfl, rfl⟩, by kernel_rfl⟩, List.forall_mem_cons.2 ⟨⟨⟨_, rfl, rfl⟩, by kernel_rfl⟩, List.forall_mem_cons.2 ⟨⟨⟨_, rfl, rfl⟩, by kernel_rfl⟩, List.forall_mem_cons.2 ⟨⟨⟨_, rfl, rfl⟩, by kernel_rfl⟩, List.forall_mem_cons.2 ⟨⟨⟨_, rfl, rfl⟩, by kernel_rfl⟩, List.forall_mem_cons.2 ⟨⟨⟨_, rfl, rfl⟩, by kernel_rfl⟩, List.forall_mem_cons.2 ⟨⟨⟨_, rfl, rfl⟩, by kernel_rfl⟩, List.forall_mem_cons.2 ⟨⟨⟨_, rfl, rfl⟩, by kernel_rfl⟩, List.forall_mem_nil _⟩⟩⟩⟩⟩⟩⟩⟩, trivial⟩
theorem lRuns0_ok : lRuns0.Ok Try.prog FI FB :=
  Con.of_plain (body := Try.f5.body.getD .skip) pok fiok ents_for3 lRuns0 Try.func5 (by kernel_rfl) 3 [] (by kernel_rfl) [lRuns0_L0] ⟨lRuns0_h0, trivial⟩ lRuns0_c
    lRuns0_inv lRuns0_mu (fun _ _ _ => trivial) fun kv iv0 bv0 hin hF k l iv bv hk ha hi => match k, hk, hi with
    | 0, hk, hi => by
      cases hk
      exact List.forall_mem_cons.2 ⟨lRuns0_o0_0 kv iv0 bv0 hin hF iv bv ha hi, List.forall_mem_cons.2 ⟨lRuns0_o0_1 kv iv0 bv0 hin hF iv bv ha hi, List.forall_mem_cons.2 ⟨lRuns0_o0_2 kv iv0 bv0 hin hF iv bv ha hi, List.forall_mem_cons.2 ⟨lRuns0_o0_3 kv iv0 bv0 hin hF iv bv ha hi, List.forall_mem_cons.2 ⟨lRuns0_o0_4 kv iv0 bv0 hin hF iv bv ha hi, List.forall_mem_cons.2 ⟨lRuns0_o0_5 kv iv0 bv0 hin hF iv bv ha hi, List.forall_mem_cons.2 ⟨lRuns0_o0_6 kv iv0 bv0 hin hF iv bv ha hi, List.forall_mem_cons.2 ⟨lRuns0_o0_7 kv iv0 bv0 hin hF iv bv ha hi, List.forall_mem_nil _⟩⟩⟩⟩⟩⟩⟩⟩
    | k + 1, hk, _ => by simp at hk
end Go.Sx.Esc
