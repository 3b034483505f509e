import Derived.Test.YtimdcofalpglbaaEsJ
namespace Go.Sx.Esc
set_option linter.unusedVariables false
set_option linter.unusedSimpArgs false
open Go Go.Sx Go.Proofs 
noncomputable def lEach0 : Con := ⟨6, [0, 1, 2, 3], [ctr, .sn, .it .i64 (.v 3)], [], b4, [], o1 (.bo (.c true))⟩
noncomputable def lEach0_T1 : Tm := ⟨⟨6, 86, [(9, (.pt (.n 13) (.c 0))), (8, (.fn 31 [] [(.pt (.n 6) (.c 0)), (.pt (.n 7) (.c 0))])), (7, (.pt (.n 3) (.c 0))), (6, (.pt (.n 2) (.c 0))), (5, (.pt (.n 1) (.c 0)))], [(.inLoop (atC Try.f6 [1, 1, 1, 1, 1, 1, 0, 1, 0, 0])), (.inBlock 0), (.code (atC Try.f6 [1, 1, 1, 1, 1, 1, 1]))], [10], .none⟩, [],
    ⟨[(1, (.cells [(.it .i64 (.v 3))] 3)), (2, (.cells [(.bo (.c .false))] 4)), (3, (.cells [.sn] 41)), (6, (.cells [(.it .i64 (.v 0)), (.it .i64 (.v 1)), (.it .u64 (.v 2))] 24)), (7, (.cells [.sn] 38)), (10, .dfr), (13, (.cells [(.it .i64 (.c 1))] 3))], 14, 0, 0, [((.eq (.c 0) (.op .imin (.c 0) (.op .imax (.c 1) (.v 3)))), .true)], [0], [(2, (0, 18446744073709551615)), (3, ((-9223372036854775808), 9223372036854775807)), (0, ((-9223372036854775808), 9223372036854775807)), (1, ((-9223372036854775808), 9223372036854775807))]⟩, []⟩
noncomputable def lEach0_T2 : Tm := ⟨⟨6, 86, [(9, (.pt (.n 18) (.c 0))), (8, (.fn 31 [] [(.pt (.n 6) (.c 0)), (.pt (.n 7) (.c 0))])), (7, (.pt (.n 3) (.c 0))), (6, (.pt (.n 2) (.c 0))), (5, (.pt (.n 1) (.c 0)))], [(.inLoop (atC Try.f6 [1, 1, 1, 1, 1, 1, 0, 1, 0, 0])), (.inBlock 0), (.code (atC Try.f6 [1, 1, 1, 1, 1, 1, 1]))], [15, 10], .none⟩, [],
    ⟨[(1, (.cells [(.it .i64 (.v 3))] 3)), (2, (.cells [(.bo (.c .false))] 4)), (3, (.cells [.sn] 41)), (6, (.cells [(.it .i64 (.v 0)), (.it .i64 (.v 1)), (.it .u64 (.v 2))] 24)), (7, (.cells [.sn] 38)), (10, .dfr), (15, .dfr), (18, (.cells [(.it .i64 (.c 2))] 3))], 19, 0, 0, [((.eq (.c 0) (.op .imin (.c 0) (.op .imax (.c 1) (.v 3)))), .true)], [0], [(2, (0, 18446744073709551615)), (3, ((-9223372036854775808), 9223372036854775807)), (0, ((-9223372036854775808), 9223372036854775807)), (1, ((-9223372036854775808), 9223372036854775807))]⟩, []⟩
noncomputable def lEach0_L0 : List Lf :=
  [(.cut [((.eq (.c 0) (.op .imin (.c 0) (.op .imax (.c 1) (.v 3)))), .true), ((.le (.v 2) (.c 4611686018427387904)), .true), ((.le (.v 1) (.v 0)), .true)] 1 ⟨⟨[], []⟩, [(10, 10), (1, 1), (2, 2), (3, 3), (7, 7), (6, 6), (13, 13)], [], []⟩ [] (shT lEach0_T1 ⟨⟨[], []⟩, [(10, 10), (1, 1), (2, 2), (3, 3), (7, 7), (6, 6), (13, 13)], [], []⟩)), (.fin [((.eq (.c 0) (.op .imin (.c 0) (.op .imax (.c 1) (.v 3)))), .false), ((.le (.v 2) (.c 4611686018427387904)), .true), ((.le (.v 1) (.v 0)), .true)] 0 ⟨⟨[], []⟩, [], [], []⟩ [(.eb (.c .true) (.c .false))] []), (.cut [((.eq (.c 0) (.op .imin (.c 0) (.op .imax (.c 1) (.v 3)))), .true), ((.le (.v 2) (.c 4611686018427387904)), .false), ((.le (.v 1) (.v 0)), .true)] 1 ⟨⟨[], []⟩, [(10, 9), (1, 1), (2, 2), (3, 3), (7, 6), (6, 5), (13, 12)], [], []⟩ [] (shT lEach0_T1 ⟨⟨[], []⟩, [(10, 9), (1, 1), (2, 2), (3, 3), (7, 6), (6, 5), (13, 12)], [], []⟩)), (.fin [((.eq (.c 0) (.op .imin (.c 0) (.op .imax (.c 1) (.v 3)))), .false), ((.le (.v 2) (.c 4611686018427387904)), .false), ((.le (.v 1) (.v 0)), .true)] 0 ⟨⟨[], []⟩, [], [], []⟩ [(.eb (.c .true) (.c .false))] []), (.cut [((.eq (.c 0) (.op .imin (.c 0) (.op .imax (.c 1) (.v 3)))), .true), ((.le (.v 1) (.v 0)), .false)] 1 ⟨⟨[], []⟩, [(10, 9), (1, 1), (2, 2), (3, 3), (7, 6), (6, 5), (13, 12)], [], []⟩ [] (shT lEach0_T1 ⟨⟨[], []⟩, [(10, 9), (1, 1), (2, 2), (3, 3), (7, 6), (6, 5), (13, 12)], [], []⟩)), (.fin [((.eq (.c 0) (.op .imin (.c 0) (.op .imax (.c 1) (.v 3)))), .false), ((.le (.v 1) (.v 0)), .false)] 0 ⟨⟨[], []⟩, [], [], []⟩ [(.eb (.c .true) (.c .false))] [])]
noncomputable def lEach0_L1 : List Lf :=
  [(.cut [((.eq (.c 0) (.op .imin (.c 0) (.op .imax (.c 1) (.v 3)))), .true)] 2 ⟨⟨[], []⟩, [(10, 10), (15, 15), (1, 1), (2, 2), (3, 3), (7, 7), (6, 6), (18, 18)], [], []⟩ [] (shT lEach0_T2 ⟨⟨[], []⟩, [(10, 10), (15, 15), (1, 1), (2, 2), (3, 3), (7, 7), (6, 6), (18, 18)], [], []⟩))]
noncomputable def lEach0_L2 : List Lf :=
  [(.fin [((.eq (.c 0) (.op .imin (.c 0) (.op .imax (.c 1) (.v 3)))), .true)] 0 ⟨⟨[], []⟩, [], [], []⟩ [] [])]
set_option maxRecDepth 100000 in
theorem lEach0_h0 : (ex (ccOf Try.prog BF [24] lEach0) (ents4 (ccOf Try.prog BF [24] lEach0)) (dw (ccOf Try.prog BF [24] lEach0) (ents4 (ccOf Try.prog BF [24] lEach0)) 1000 4) (stopL [(6, 3, 0)]) 4000 (tm0 lEach0 Try.f6 (Try.f6.body.getD .skip)).f (tm0 lEach0 Try.f6 (Try.f6.body.getD .skip)).fs (tm0 lEach0 Try.f6 (Try.f6.body.getD .skip)).H).lfs (ccOf Try.prog BF [24] lEach0) ((tm0 lEach0 Try.f6 (Try.f6.body.getD .skip)) :: [lEach0_T1, lEach0_T2]) lEach0.os = some lEach0_L0 := by kernel_rfl
set_option maxRecDepth 100000 in
theorem lEach0_h1 : (ex (ccOf Try.prog BF [24] lEach0) (ents4 (ccOf Try.prog BF [24] lEach0)) (dw (ccOf Try.prog BF [24] lEach0) (ents4 (ccOf Try.prog BF [24] lEach0)) 1000 4) (stopL [(6, 3, 0)]) 4000 lEach0_T1.f lEach0_T1.fs lEach0_T1.H).lfs (ccOf Try.prog BF [24] lEach0) ((tm0 lEach0 Try.f6 (Try.f6.body.getD .skip)) :: [lEach0_T1, lEach0_T2]) lEach0.os = some lEach0_L1 := by kernel_rfl
set_option maxRecDepth 100000 in
theorem lEach0_h2 : (ex (ccOf Try.prog BF [24] lEach0) (ents4 (ccOf Try.prog BF [24] lEach0)) (dw (ccOf Try.prog BF [24] lEach0) (ents4 (ccOf Try.prog BF [24] lEach0)) 1000 4) (stopL [(6, 3, 0)]) 4000 lEach0_T2.f lEach0_T2.fs lEach0_T2.H).lfs (ccOf Try.prog BF [24] lEach0) ((tm0 lEach0 Try.f6 (Try.f6.body.getD .skip)) :: [lEach0_T1, lEach0_T2]) lEach0.os = some lEach0_L2 := by kernel_rfl
def lEach0_inv : (Nat → Int) → (Nat → Bool) → Nat → (Nat → Int) → (Nat → Bool) → Prop := fun _ _ _ _ _ => True
def lEach0_mu : (Nat → Int) → (Nat → Bool) → Nat → (Nat → Int) → (Nat → Bool) → Nat := fun _ _ k _ _ => 10 - k
set_option maxHeartbeats 1000000 in
theorem lEach0_o0_0 (kv : Nat → Nat) (iv0 : Nat → Int) (bv0 : Nat → Bool) (hin : InB lEach0.B iv0) (hF : FT (sta FI FB kv iv0 bv0) (dlt dyn0) lEach0.F) (iv : Nat → Int) (bv : Nat → Bool) (ha : Agr 4 iv0 bv0 iv bv) (hi : lEach0_inv iv0 bv0 0 iv bv) :
    LfT (sta FI FB kv) lEach0.os (lEach0_inv iv0 bv0) (lEach0_mu iv0 bv0) 0 iv bv (.cut [((.eq (.c 0) (.op .imin (.c 0) (.op .imax (.c 1) (.v 3)))), .true), ((.le (.v 2) (.c 4611686018427387904)), .true), ((.le (.v 1) (.v 0)), .true)] 1 ⟨⟨[], []⟩, [(10, 10), (1, 1), (2, 2), (3, 3), (7, 7), (6, 6), (13, 13)], [], []⟩ [] (shT lEach0_T1 ⟨⟨[], []⟩, [(10, 10), (1, 1), (2, 2), (3, 3), (7, 7), (6, 6), (13, 13)], [], []⟩)) := by
  intro δ hf
  intros
  simp only [FT, TP, SB.tp, SI.tv, sta, IB.eval, and_true, true_and, ObsT, Ob.Tv, rowT, kix, In.tiv, In.tbv, get_cons, get_nil, reduceIte, Nat.reduceEqDiff, Int.reduceToNat, Int.reduceAdd, ap5, ne_eq, Bool.false_eq_true, not_true_eq_false, not_false_eq_true, FI_3, FI_7, FI_8, FI_9, FI_10, FI_11, FI_12, FI_13, FI_14, FI_15, FI_16, FI_17, FI_18, FI_19, FI_20, FI_21, FI_22, FI_23, FI_24, FI_25, FI_26, FI_27, lEach0, othT, lEach0_inv, lEach0_mu, o1] at hf ⊢
  first | omega | (simp; done) | (simp at hf; done) | (simp at hf ⊢; omega)

set_option maxHeartbeats 1000000 in
theorem lEach0_o0_1 (kv : Nat → Nat) (iv0 : Nat → Int) (bv0 : Nat → Bool) (hin : InB lEach0.B iv0) (hF : FT (sta FI FB kv iv0 bv0) (dlt dyn0) lEach0.F) (iv : Nat → Int) (bv : Nat → Bool) (ha : Agr 4 iv0 bv0 iv bv) (hi : lEach0_inv iv0 bv0 0 iv bv) :
    LfT (sta FI FB kv) lEach0.os (lEach0_inv iv0 bv0) (lEach0_mu iv0 bv0) 0 iv bv (.fin [((.eq (.c 0) (.op .imin (.c 0) (.op .imax (.c 1) (.v 3)))), .false), ((.le (.v 2) (.c 4611686018427387904)), .true), ((.le (.v 1) (.v 0)), .true)] 0 ⟨⟨[], []⟩, [], [], []⟩ [(.eb (.c .true) (.c .false))] []) := by
  intro δ hf
  intros
  simp only [FT, TP, SB.tp, SI.tv, sta, IB.eval, and_true, true_and, ObsT, Ob.Tv, rowT, kix, In.tiv, In.tbv, get_cons, get_nil, reduceIte, Nat.reduceEqDiff, Int.reduceToNat, Int.reduceAdd, ap5, ne_eq, Bool.false_eq_true, not_true_eq_false, not_false_eq_true, FI_3, FI_7, FI_8, FI_9, FI_10, FI_11, FI_12, FI_13, FI_14, FI_15, FI_16, FI_17, FI_18, FI_19, FI_20, FI_21, FI_22, FI_23, FI_24, FI_25, FI_26, FI_27, lEach0, othT, lEach0_inv, lEach0_mu, o1] at hf ⊢
  first | omega | (simp; done) | (simp at hf; done) | (simp at hf ⊢; omega)

set_option maxHeartbeats 1000000 in
theorem lEach0_o0_2 (kv : Nat → Nat) (iv0 : Nat → Int) (bv0 : Nat → Bool) (hin : InB lEach0.B iv0) (hF : FT (sta FI FB kv iv0 bv0) (dlt dyn0) lEach0.F) (iv : Nat → Int) (bv : Nat → Bool) (ha : Agr 4 iv0 bv0 iv bv) (hi : lEach0_inv iv0 bv0 0 iv bv) :
    LfT (sta FI FB kv) lEach0.os (lEach0_inv iv0 bv0) (lEach0_mu iv0 bv0) 0 iv bv (.cut [((.eq (.c 0) (.op .imin (.c 0) (.op .imax (.c 1) (.v 3)))), .true), ((.le (.v 2) (.c 4611686018427387904)), .false), ((.le (.v 1) (.v 0)), .true)] 1 ⟨⟨[], []⟩, [(10, 9), (1, 1), (2, 2), (3, 3), (7, 6), (6, 5), (13, 12)], [], []⟩ [] (shT lEach0_T1 ⟨⟨[], []⟩, [(10, 9), (1, 1), (2, 2), (3, 3), (7, 6), (6, 5), (13, 12)], [], []⟩)) := by
  intro δ hf
  intros
  simp only [FT, TP, SB.tp, SI.tv, sta, IB.eval, and_true, true_and, ObsT, Ob.Tv, rowT, kix, In.tiv, In.tbv, get_cons, get_nil, reduceIte, Nat.reduceEqDiff, Int.reduceToNat, Int.reduceAdd, ap5, ne_eq, Bool.false_eq_true, not_true_eq_false, not_false_eq_true, FI_3, FI_7, FI_8, FI_9, FI_10, FI_11, FI_12, FI_13, FI_14, FI_15, FI_16, FI_17, FI_18, FI_19, FI_20, FI_21, FI_22, FI_23, FI_24, FI_25, FI_26, FI_27, lEach0, othT, lEach0_inv, lEach0_mu, o1] at hf ⊢
  first | omega | (simp; done) | (simp at hf; done) | (simp at hf ⊢; omega)

set_option maxHeartbeats 1000000 in
theorem lEach0_o0_3 (kv : Nat → Nat) (iv0 : Nat → Int) (bv0 : Nat → Bool) (hin : InB lEach0.B iv0) (hF : FT (sta FI FB kv iv0 bv0) (dlt dyn0) lEach0.F) (iv : Nat → Int) (bv : Nat → Bool) (ha : Agr 4 iv0 bv0 iv bv) (hi : lEach0_inv iv0 bv0 0 iv bv) :
    LfT (sta FI FB kv) lEach0.os (lEach0_inv iv0 bv0) (lEach0_mu iv0 bv0) 0 iv bv (.fin [((.eq (.c 0) (.op .imin (.c 0) (.op .imax (.c 1) (.v 3)))), .false), ((.le (.v 2) (.c 4611686018427387904)), .false), ((.le (.v 1) (.v 0)), .true)] 0 ⟨⟨[], []⟩, [], [], []⟩ [(.eb (.c .true) (.c .false))] []) := by
  intro δ hf
  intros
  simp only [FT, TP, SB.tp, SI.tv, sta, IB.eval, and_true, true_and, ObsT, Ob.Tv, rowT, kix, In.tiv, In.tbv, get_cons, get_nil, reduceIte, Nat.reduceEqDiff, Int.reduceToNat, Int.reduceAdd, ap5, ne_eq, Bool.false_eq_true, not_true_eq_false, not_false_eq_true, FI_3, FI_7, FI_8, FI_9, FI_10, FI_11, FI_12, FI_13, FI_14, FI_15, FI_16, FI_17, FI_18, FI_19, FI_20, FI_21, FI_22, FI_23, FI_24, FI_25, FI_26, FI_27, lEach0, othT, lEach0_inv, lEach0_mu, o1] at hf ⊢
  first | omega | (simp; done) | (simp at hf; done) | (simp at hf ⊢; omega)

set_option maxHeartbeats 1000000 in
theorem lEach0_o0_4 (kv : Nat → Nat) (iv0 : Nat → Int) (bv0 : Nat → Bool) (hin : InB lEach0.B iv0) (hF : FT (sta FI FB kv iv0 bv0) (dlt dyn0) lEach0.F) (iv : Nat → Int) (bv : Nat → Bool) (ha : Agr 4 iv0 bv0 iv bv) (hi : lEach0_inv iv0 bv0 0 iv bv) :
    LfT (sta FI FB kv) lEach0.os (lEach0_inv iv0 bv0) (lEach0_mu iv0 bv0) 0 iv bv (.cut [((.eq (.c 0) (.op .imin (.c 0) (.op .imax (.c 1) (.v 3)))), .true), ((.le (.v 1) (.v 0)), .false)] 1 ⟨⟨[], []⟩, [(10, 9), (1, 1), (2, 2), (3, 3), (7, 6), (6, 5), (13, 12)], [], []⟩ [] (shT lEach0_T1 ⟨⟨[], []⟩, [(10, 9), (1, 1), (2, 2), (3, 3), (7, 6), (6, 5), (13, 12)], [], []⟩)) := by
  intro δ hf
  intros
  simp only [FT, TP, SB.tp, SI.tv, sta, IB.eval, and_true, true_and, ObsT, Ob.Tv, rowT, kix, In.tiv, In.tbv, get_cons, get_nil, reduceIte, Nat.reduceEqDiff, Int.reduceToNat, Int.reduceAdd, ap5, ne_eq, Bool.false_eq_true, not_true_eq_false, not_false_eq_true, FI_3, FI_7, FI_8, FI_9, FI_10, FI_11, FI_12, FI_13, FI_14, FI_15, FI_16, FI_17, FI_18, FI_19, FI_20, FI_21, FI_22, FI_23, FI_24, FI_25, FI_26, FI_27, lEach0, othT, lEach0_inv, lEach0_mu, o1] at hf ⊢
  first | omega | (simp; done) | (simp at hf; done) | (simp at hf ⊢; omega)

set_option maxHeartbeats 1000000 in
theorem lEach0_o0_5 (kv : Nat → Nat) (iv0 : Nat → Int) (bv0 : Nat → Bool) (hin : InB lEach0.B iv0) (hF : FT (sta FI FB kv iv0 bv0) (dlt dyn0) lEach0.F) (iv : Nat → Int) (bv : Nat → Bool) (ha : Agr 4 iv0 bv0 iv bv) (hi : lEach0_inv iv0 bv0 0 iv bv) :
    LfT (sta FI FB kv) lEach0.os (lEach0_inv iv0 bv0) (lEach0_mu iv0 bv0) 0 iv bv (.fin [((.eq (.c 0) (.op .imin (.c 0) (.op .imax (.c 1) (.v 3)))), .false), ((.le (.v 1) (.v 0)), .false)] 0 ⟨⟨[], []⟩, [], [], []⟩ [(.eb (.c .true) (.c .false))] []) := by
  intro δ hf
  intros
  simp only [FT, TP, SB.tp, SI.tv, sta, IB.eval, and_true, true_and, ObsT, Ob.Tv, rowT, kix, In.tiv, In.tbv, get_cons, get_nil, reduceIte, Nat.reduceEqDiff, Int.reduceToNat, Int.reduceAdd, ap5, ne_eq, Bool.false_eq_true, not_true_eq_false, not_false_eq_true, FI_3, FI_7, FI_8, FI_9, FI_10, FI_11, FI_12, FI_13, FI_14, FI_15, FI_16, FI_17, FI_18, FI_19, FI_20, FI_21, FI_22, FI_23, FI_24, FI_25, FI_26, FI_27, lEach0, othT, lEach0_inv, lEach0_mu, o1] at hf ⊢
  first | omega | (simp; done) | (simp at hf; done) | (simp at hf ⊢; omega)

set_option maxHeartbeats 1000000 in
theorem lEach0_o1_0 (kv : Nat → Nat) (iv0 : Nat → Int) (bv0 : Nat → Bool) (hin : InB lEach0.B iv0) (hF : FT (sta FI FB kv iv0 bv0) (dlt dyn0) lEach0.F) (iv : Nat → Int) (bv : Nat → Bool) (ha : Agr 4 iv0 bv0 iv bv) (hi : lEach0_inv iv0 bv0 1 iv bv) :
    LfT (sta FI FB kv) lEach0.os (lEach0_inv iv0 bv0) (lEach0_mu iv0 bv0) 1 iv bv (.cut [((.eq (.c 0) (.op .imin (.c 0) (.op .imax (.c 1) (.v 3)))), .true)] 2 ⟨⟨[], []⟩, [(10, 10), (15, 15), (1, 1), (2, 2), (3, 3), (7, 7), (6, 6), (18, 18)], [], []⟩ [] (shT lEach0_T2 ⟨⟨[], []⟩, [(10, 10), (15, 15), (1, 1), (2, 2), (3, 3), (7, 7), (6, 6), (18, 18)], [], []⟩)) := by
  intro δ hf
  intros
  simp only [FT, TP, SB.tp, SI.tv, sta, IB.eval, and_true, true_and, ObsT, Ob.Tv, rowT, kix, In.tiv, In.tbv, get_cons, get_nil, reduceIte, Nat.reduceEqDiff, Int.reduceToNat, Int.reduceAdd, ap5, ne_eq, Bool.false_eq_true, not_true_eq_false, not_false_eq_true, FI_3, FI_7, FI_8, FI_9, FI_10, FI_11, FI_12, FI_13, FI_14, FI_15, FI_16, FI_17, FI_18, FI_19, FI_20, FI_21, FI_22, FI_23, FI_24, FI_25, FI_26, FI_27, lEach0, othT, lEach0_inv, lEach0_mu, o1] at hf ⊢
  first | omega | (simp; done) | (simp at hf; done) | (simp at hf ⊢; omega)

set_option maxHeartbeats 1000000 in
theorem lEach0_o2_0 (kv : Nat → Nat) (iv0 : Nat → Int) (bv0 : Nat → Bool) (hin : InB lEach0.B iv0) (hF : FT (sta FI FB kv iv0 bv0) (dlt dyn0) lEach0.F) (iv : Nat → Int) (bv : Nat → Bool) (ha : Agr 4 iv0 bv0 iv bv) (hi : lEach0_inv iv0 bv0 2 iv bv) :
    LfT (sta FI FB kv) lEach0.os (lEach0_inv iv0 bv0) (lEach0_mu iv0 bv0) 2 iv bv (.fin [((.eq (.c 0) (.op .imin (.c 0) (.op .imax (.c 1) (.v 3)))), .true)] 0 ⟨⟨[], []⟩, [], [], []⟩ [] []) := by
  intro δ hf
  intros
  simp only [FT, TP, SB.tp, SI.tv, sta, IB.eval, and_true, true_and, ObsT, Ob.Tv, rowT, kix, In.tiv, In.tbv, get_cons, get_nil, reduceIte, Nat.reduceEqDiff, Int.reduceToNat, Int.reduceAdd, ap5, ne_eq, Bool.false_eq_true, not_true_eq_false, not_false_eq_true, FI_3, FI_7, FI_8, FI_9, FI_10, FI_11, FI_12, FI_13, FI_14, FI_15, FI_16, FI_17, FI_18, FI_19, FI_20, FI_21, FI_22, FI_23, FI_24, FI_25, FI_26, FI_27, lEach0, othT, lEach0_inv, lEach0_mu, o1] at hf ⊢
  first | omega | (simp; done) | (simp at hf; done) | (simp at hf ⊢; omega)

set_option maxRecDepth 100000 in
theorem lEach0_c : LsC ((tm0 lEach0 Try.f6 (Try.f6.body.getD .skip)) :: [lEach0_T1, lEach0_T2]) lEach0.os [lEach0_L0, lEach0_L1, lEach0_L2] := by
  unfold lEach0_L0 lEach0_L1 lEach0_L2
  exact ⟨List.forall_mem_cons.2 ⟨⟨⟨_, rfl, rfl⟩, by kernel_rfl⟩, List.forall_mem_cons.2 ⟨⟨⟨_, rfl, rfl⟩, by kernel_rfl⟩, List.forall_mem_cons.2 ⟨⟨⟨_, rfl, rfl⟩, by kernel_rfl⟩, List.forall_mem_cons.2 ⟨⟨⟨_, rfl, rfl⟩, by kernel_rfl⟩, List.forall_mem_cons.2 ⟨⟨⟨_, rfl, rfl⟩, by kernel_rfl⟩, List.forall_mem_cons.2 ⟨⟨⟨_, rfl, rfl⟩, by kernel_rfl⟩, List.forall_mem_nil _⟩⟩⟩⟩⟩⟩, List.forall_mem_cons.2 ⟨⟨⟨_, rfl, rfl⟩, by kernel_rfl⟩, List.forall_mem_nil _⟩, List.forall_mem_cons.2 ⟨⟨⟨_, rfl, rfl⟩, by kernel_rfl⟩, List.forall_mem_nil _⟩, trivial⟩
theorem lEach0_ok : lEach0.Ok Try.prog FI FB :=
  Con.of_plain (body := Try.f6.body.getD .skip) pok fiok ents_for4 lEach0 Try.func6 (by kernel_rfl) 4 [lEach0_T1, lEach0_T2] (by kernel_rfl) [lEach0_L0, lEach0_L1, lEach0_L2] ⟨lEach0_h0, lEach0_h1, lEach0_h2, trivial⟩ lEach0_c
    lEach0_inv lEach0_mu (fun _ _ _ => trivial) fun kv iv0 bv0 hin hF k l iv bv hk ha hi => match k, hk, hi with
    | 0, hk, hi => by
      cases hk
      exact List.forall_mem_cons.2 ⟨lEach0_o0_0 kv iv0 bv0 hin hF iv bv ha hi, List.forall_mem_cons.2 ⟨lEach0_o0_1 kv iv0 bv0 hin hF iv bv ha hi, List.forall_mem_cons.2 ⟨lEach0_o0_2 kv iv0 bv0 hin hF iv bv ha hi, List.forall_mem_cons.2 ⟨lEach0_o0_3 kv iv0 bv0 hin hF iv bv ha hi, List.forall_mem_cons.2 ⟨lEach0_o0_4 kv iv0 bv0 hin hF iv bv ha hi, List.forall_mem_cons.2 ⟨lEach0_o0_5 kv iv0 bv0 hin hF iv bv ha hi, List.forall_mem_nil _⟩⟩⟩⟩⟩⟩
    | 1, hk, hi => by
      cases hk
      exact List.forall_mem_cons.2 ⟨lEach0_o1_0 kv iv0 bv0 hin hF iv bv ha hi, List.forall_mem_nil _⟩
    | 2, hk, hi => by
      cases hk
      exact List.forall_mem_cons.2 ⟨lEach0_o2_0 kv iv0 bv0 hin hF iv bv ha hi, List.forall_mem_nil _⟩
    | k + 3, hk, _ => by simp at hk
end Go.Sx.Esc
