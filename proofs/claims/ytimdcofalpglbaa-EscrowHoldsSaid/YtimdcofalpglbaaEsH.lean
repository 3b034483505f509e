import Derived.Test.YtimdcofalpglbaaEsG
namespace Go.Sx.Esc
set_option linter.unusedVariables false
set_option linter.unusedSimpArgs false
open Go Go.Sx Go.Proofs 
noncomputable def bW : List (Nat × Int × Int) := (3, 0, 9223372036854775807) :: (4, 0, -1) :: b3
noncomputable def lRuns : Con := ⟨5, [0, 1, 2, 3, 4, 5], [ctr, .sl (.k 0) (.v 4) (.v 3) (.v 5)], [⟨0, .v 4, [.nt .i64], 6, .v 3⟩], bW, [(.le (.c 0) (.v 5), true), (.le (.v 3) (.v 5), true)], o1 (.bo (.c true))⟩
noncomputable def ents3 (cc : Cc) : Ents := [cWorks.ent cc, eRun.ent cc, rRun.ent cc]
theorem ents_for3 : EntsFor Try.prog FI FB ents3 := EntsFor.cons cWorks_ok (EntsFor.cons eRun_ok (EntsFor.cons rRun_ok EntsFor.nil))
theorem seq_setC {s : Int × Int × Int} {c n x : Int} (h0 : 0 ≤ n) : ∀ k : Nat, (k : Int) ≤ n → seq s (setC c n 0 x) k = seq s c k
  | 0, _ => rfl
  | k + 1, h => by
    show nxt (seq s _ k) (el _ k) = nxt (seq s c k) (el c k)
    rw [seq_setC h0 k (by omega)]
    have : el (setC c n 0 x) k = el c k := by
      unfold el
      rw [gt_setI, if_neg (by omega)]
    rw [this]
theorem er_setC {s : Int × Int × Int} {c n x : Int} (h0 : 0 ≤ n) (k : Nat) (h : (k : Int) < n) : er s (setC c n 0 x) k = er s c k := by
  unfold er
  rw [seq_setC h0 k (by omega)]
  have : el (setC c n 0 x) k = el c k := by
    unfold el
    rw [gt_setI, if_neg (by omega)]
  rw [this]
theorem M_len {v f r c n : Int} (h0 : 0 ≤ n) : (M v f r c n : Int) ≤ n := by
  unfold M
  split
  · have := mny_le (v, f, r) c n.toNat; omega
  · omega
theorem run_same (v f r c n x : Int) (h0 : 0 ≤ n) : M v f r (setC c n 0 x) n = M v f r c n ∧ seq (v, f, r) (setC c n 0 x) (M v f r c n) = seq (v, f, r) c (M v f r c n) ∧
    (if (M v f r c n : Int) < n then er (v, f, r) (setC c n 0 x) (M v f r c n) else 0) = if (M v f r c n : Int) < n then er (v, f, r) c (M v f r c n) else 0 := by
  have hl := M_len (v := v) (f := f) (r := r) (c := c) h0
  refine ⟨?_, seq_setC h0 _ hl, ?_⟩
  · unfold M
    by_cases h : n ≤ 50
    · rw [if_pos h, if_pos h]
      refine mny_eq (mny_le _ _ _) (fun j hj => ?_) ?_
      · have := mny_le (v, f, r) c n.toNat
        rw [er_setC h0 j (by omega)]
        exact mny_fine _ _ _ j hj
      · rcases Nat.lt_or_ge (mny (v, f, r) c n.toNat) n.toNat with h2 | h2
        · exact .inr (by rw [er_setC h0 _ (by omega)]; exact mny_stop _ _ _ h2)
        · exact .inl (Nat.le_antisymm (mny_le _ _ _) h2)
    · rw [if_neg h, if_neg h]
  · by_cases h : (M v f r c n : Int) < n
    · rw [if_pos h, if_pos h, er_setC h0 _ h]
    · rw [if_neg h, if_neg h]
theorem arr_last {m : Nat} {F : Nat → Nat → Int} (h : 0 < m) (a : Nat) (ha : a < 3) : gt (arrC m 3 F) ((m : Int) + -1).toNat a = F (m - 1) a := by
  have e : ((m : Int) + -1).toNat = m - 1 := by omega
  rw [e, gt_arrC, if_pos ⟨by omega, ha⟩]
theorem want_last (s : Int × Int × Int) (c : Int) {m : Nat} (h : 0 < m) :
    gt (arrC m 3 (outF s c)) ((m : Int) + -1).toNat 0 = (seq s c m).1 ∧
    gt (arrC m 3 (outF s c)) ((m : Int) + -1).toNat 1 = (seq s c m).2.1 ∧
    gt (arrC m 3 (outF s c)) ((m : Int) + -1).toNat 2 = (seq s c m).2.2 := by
  have e : m - 1 + 1 = m := by omega
  refine ⟨?_, ?_, ?_⟩
  · rw [arr_last h 0 (by omega)]; simp only [outF, e]
  · rw [arr_last h 1 (by omega)]; simp only [outF, e]
  · rw [arr_last h 2 (by omega)]; simp only [outF, e]
theorem wraps {a b d : Int} (b0 : -9223372036854775808 ≤ a ∧ a ≤ 9223372036854775807) (b1 : -9223372036854775808 ≤ b ∧ b ≤ 9223372036854775807) (b2 : 0 ≤ d ∧ d ≤ 18446744073709551615) :
    IntKind.i64.wrap a = a ∧ IntKind.i64.wrap b = b ∧ IntKind.u64.wrap d = d := by
  refine ⟨?_, ?_, ?_⟩ <;> simp only [wrap_i64, wrap_u64] <;> omega
theorem wrap77 : IntKind.i64.wrap 77 = 77 := by decide
noncomputable def lRuns_L0 : List Lf :=
  [(.fin [((.lt (.c 50) (.v 3)), .true), ((.le (.c 0) (.v 5)), .true), ((.le (.v 3) (.v 5)), .true)] 0 ⟨⟨[], []⟩, [], [], []⟩ [] []), (.fin [((.eq (.ap 3 (.ap 8 (.v 6) (.v 3) (.c 0) (.c 77) (.c 0) (.c 0)) (.v 3) (.c 0) (.c 0) (.c 0) (.c 0)) (.c 77)), .true), ((.lt (.v 3) (.op .add (.v 3) (.c 1))), .true), ((.eq (.ap 23 (.v 0) (.v 1) (.v 2) (.ap 8 (.v 6) (.v 3) (.c 0) (.c 77) (.c 0) (.c 0)) (.v 3) (.c 0)) (.ap 23 (.v 0) (.v 1) (.v 2) (.v 6) (.v 3) (.c 0))), .true), ((.eq (.ap 22 (.v 0) (.v 1) (.v 2) (.ap 8 (.v 6) (.v 3) (.c 0) (.c 77) (.c 0) (.c 0)) (.v 3) (.c 0)) (.c 0)), .true), ((.eq (.ap 27 (.v 0) (.v 1) (.v 2) (.ap 8 (.v 6) (.v 3) (.c 0) (.c 77) (.c 0) (.c 0)) (.v 3) (.c 0)) (.v 2)), .true), ((.eq (.ap 26 (.v 0) (.v 1) (.v 2) (.ap 8 (.v 6) (.v 3) (.c 0) (.c 77) (.c 0) (.c 0)) (.v 3) (.c 0)) (.v 1)), .true), ((.eq (.ap 25 (.v 0) (.v 1) (.v 2) (.ap 8 (.v 6) (.v 3) (.c 0) (.c 77) (.c 0) (.c 0)) (.v 3) (.c 0)) (.v 0)), .true), ((.eq (.ap 22 (.v 0) (.v 1) (.v 2) (.v 6) (.v 3) (.c 0)) (.c 0)), .true), ((.le (.v 2) (.c 4611686018427387904)), .true), ((.le (.v 1) (.v 0)), .true), ((.le (.v 3) (.d 1)), .true), ((.le (.op .add (.v 3) (.c 1)) (.d 1)), .true), ((.le (.v 3) (.d 0)), .true), ((.lt (.c 50) (.v 3)), .false), ((.le (.c 0) (.v 5)), .true), ((.le (.v 3) (.v 5)), .true)] 0 ⟨⟨[], []⟩, [], [], []⟩ [] []), (.fin [((.eq (.ap 3 (.ap 8 (.v 6) (.v 3) (.c 0) (.c 77) (.c 0) (.c 0)) (.v 3) (.c 0) (.c 0) (.c 0) (.c 0)) (.c 77)), .false), ((.lt (.v 3) (.op .add (.v 3) (.c 1))), .true), ((.eq (.ap 23 (.v 0) (.v 1) (.v 2) (.ap 8 (.v 6) (.v 3) (.c 0) (.c 77) (.c 0) (.c 0)) (.v 3) (.c 0)) (.ap 23 (.v 0) (.v 1) (.v 2) (.v 6) (.v 3) (.c 0))), .true), ((.eq (.ap 22 (.v 0) (.v 1) (.v 2) (.ap 8 (.v 6) (.v 3) (.c 0) (.c 77) (.c 0) (.c 0)) (.v 3) (.c 0)) (.c 0)), .true), ((.eq (.ap 27 (.v 0) (.v 1) (.v 2) (.ap 8 (.v 6) (.v 3) (.c 0) (.c 77) (.c 0) (.c 0)) (.v 3) (.c 0)) (.v 2)), .true), ((.eq (.ap 26 (.v 0) (.v 1) (.v 2) (.ap 8 (.v 6) (.v 3) (.c 0) (.c 77) (.c 0) (.c 0)) (.v 3) (.c 0)) (.v 1)), .true), ((.eq (.ap 25 (.v 0) (.v 1) (.v 2) (.ap 8 (.v 6) (.v 3) (.c 0) (.c 77) (.c 0) (.c 0)) (.v 3) (.c 0)) (.v 0)), .true), ((.eq (.ap 22 (.v 0) (.v 1) (.v 2) (.v 6) (.v 3) (.c 0)) (.c 0)), .true), ((.le (.v 2) (.c 4611686018427387904)), .true), ((.le (.v 1) (.v 0)), .true), ((.le (.v 3) (.d 1)), .true), ((.le (.op .add (.v 3) (.c 1)) (.d 1)), .true), ((.le (.v 3) (.d 0)), .true), ((.lt (.c 50) (.v 3)), .false), ((.le (.c 0) (.v 5)), .true), ((.le (.v 3) (.v 5)), .true)] 0 ⟨⟨[], []⟩, [], [], []⟩ [(.eb (.c .true) (.c .false))] []), (.bad [((.lt (.v 3) (.op .add (.v 3) (.c 1))), .false), ((.eq (.ap 23 (.v 0) (.v 1) (.v 2) (.ap 8 (.v 6) (.v 3) (.c 0) (.c 77) (.c 0) (.c 0)) (.v 3) (.c 0)) (.ap 23 (.v 0) (.v 1) (.v 2) (.v 6) (.v 3) (.c 0))), .true), ((.eq (.ap 22 (.v 0) (.v 1) (.v 2) (.ap 8 (.v 6) (.v 3) (.c 0) (.c 77) (.c 0) (.c 0)) (.v 3) (.c 0)) (.c 0)), .true), ((.eq (.ap 27 (.v 0) (.v 1) (.v 2) (.ap 8 (.v 6) (.v 3) (.c 0) (.c 77) (.c 0) (.c 0)) (.v 3) (.c 0)) (.v 2)), .true), ((.eq (.ap 26 (.v 0) (.v 1) (.v 2) (.ap 8 (.v 6) (.v 3) (.c 0) (.c 77) (.c 0) (.c 0)) (.v 3) (.c 0)) (.v 1)), .true), ((.eq (.ap 25 (.v 0) (.v 1) (.v 2) (.ap 8 (.v 6) (.v 3) (.c 0) (.c 77) (.c 0) (.c 0)) (.v 3) (.c 0)) (.v 0)), .true), ((.eq (.ap 22 (.v 0) (.v 1) (.v 2) (.v 6) (.v 3) (.c 0)) (.c 0)), .true), ((.le (.v 2) (.c 4611686018427387904)), .true), ((.le (.v 1) (.v 0)), .true), ((.le (.v 3) (.d 1)), .true), ((.le (.op .add (.v 3) (.c 1)) (.d 1)), .true), ((.le (.v 3) (.d 0)), .true), ((.lt (.c 50) (.v 3)), .false), ((.le (.c 0) (.v 5)), .true), ((.le (.v 3) (.v 5)), .true)]), (.fin [((.eq (.ap 23 (.v 0) (.v 1) (.v 2) (.ap 8 (.v 6) (.v 3) (.c 0) (.c 77) (.c 0) (.c 0)) (.v 3) (.c 0)) (.ap 23 (.v 0) (.v 1) (.v 2) (.v 6) (.v 3) (.c 0))), .false), ((.eq (.ap 22 (.v 0) (.v 1) (.v 2) (.ap 8 (.v 6) (.v 3) (.c 0) (.c 77) (.c 0) (.c 0)) (.v 3) (.c 0)) (.c 0)), .true), ((.eq (.ap 27 (.v 0) (.v 1) (.v 2) (.ap 8 (.v 6) (.v 3) (.c 0) (.c 77) (.c 0) (.c 0)) (.v 3) (.c 0)) (.v 2)), .true), ((.eq (.ap 26 (.v 0) (.v 1) (.v 2) (.ap 8 (.v 6) (.v 3) (.c 0) (.c 77) (.c 0) (.c 0)) (.v 3) (.c 0)) (.v 1)), .true), ((.eq (.ap 25 (.v 0) (.v 1) (.v 2) (.ap 8 (.v 6) (.v 3) (.c 0) (.c 77) (.c 0) (.c 0)) (.v 3) (.c 0)) (.v 0)), .true), ((.eq (.ap 22 (.v 0) (.v 1) (.v 2) (.v 6) (.v 3) (.c 0)) (.c 0)), .true), ((.le (.v 2) (.c 4611686018427387904)), .true), ((.le (.v 1) (.v 0)), .true), ((.le (.v 3) (.d 1)), .true), ((.le (.op .add (.v 3) (.c 1)) (.d 1)), .true), ((.le (.v 3) (.d 0)), .true), ((.lt (.c 50) (.v 3)), .false), ((.le (.c 0) (.v 5)), .true), ((.le (.v 3) (.v 5)), .true)] 0 ⟨⟨[], []⟩, [], [], []⟩ [(.eb (.c .true) (.c .false))] []), (.fin [((.eq (.ap 22 (.v 0) (.v 1) (.v 2) (.ap 8 (.v 6) (.v 3) (.c 0) (.c 77) (.c 0) (.c 0)) (.v 3) (.c 0)) (.c 0)), .false), ((.eq (.ap 27 (.v 0) (.v 1) (.v 2) (.ap 8 (.v 6) (.v 3) (.c 0) (.c 77) (.c 0) (.c 0)) (.v 3) (.c 0)) (.v 2)), .true), ((.eq (.ap 26 (.v 0) (.v 1) (.v 2) (.ap 8 (.v 6) (.v 3) (.c 0) (.c 77) (.c 0) (.c 0)) (.v 3) (.c 0)) (.v 1)), .true), ((.eq (.ap 25 (.v 0) (.v 1) (.v 2) (.ap 8 (.v 6) (.v 3) (.c 0) (.c 77) (.c 0) (.c 0)) (.v 3) (.c 0)) (.v 0)), .true), ((.eq (.ap 22 (.v 0) (.v 1) (.v 2) (.v 6) (.v 3) (.c 0)) (.c 0)), .true), ((.le (.v 2) (.c 4611686018427387904)), .true), ((.le (.v 1) (.v 0)), .true), ((.le (.v 3) (.d 1)), .true), ((.le (.op .add (.v 3) (.c 1)) (.d 1)), .true), ((.le (.v 3) (.d 0)), .true), ((.lt (.c 50) (.v 3)), .false), ((.le (.c 0) (.v 5)), .true), ((.le (.v 3) (.v 5)), .true)] 0 ⟨⟨[], []⟩, [], [], []⟩ [(.eb (.c .true) (.c .false))] []), (.fin [((.eq (.ap 27 (.v 0) (.v 1) (.v 2) (.ap 8 (.v 6) (.v 3) (.c 0) (.c 77) (.c 0) (.c 0)) (.v 3) (.c 0)) (.v 2)), .false), ((.eq (.ap 26 (.v 0) (.v 1) (.v 2) (.ap 8 (.v 6) (.v 3) (.c 0) (.c 77) (.c 0) (.c 0)) (.v 3) (.c 0)) (.v 1)), .true), ((.eq (.ap 25 (.v 0) (.v 1) (.v 2) (.ap 8 (.v 6) (.v 3) (.c 0) (.c 77) (.c 0) (.c 0)) (.v 3) (.c 0)) (.v 0)), .true), ((.eq (.ap 22 (.v 0) (.v 1) (.v 2) (.v 6) (.v 3) (.c 0)) (.c 0)), .true), ((.le (.v 2) (.c 4611686018427387904)), .true), ((.le (.v 1) (.v 0)), .true), ((.le (.v 3) (.d 1)), .true), ((.le (.op .add (.v 3) (.c 1)) (.d 1)), .true), ((.le (.v 3) (.d 0)), .true), ((.lt (.c 50) (.v 3)), .false), ((.le (.c 0) (.v 5)), .true), ((.le (.v 3) (.v 5)), .true)] 0 ⟨⟨[], []⟩, [], [], []⟩ [(.eb (.c .true) (.c .false))] []), (.fin [((.eq (.ap 26 (.v 0) (.v 1) (.v 2) (.ap 8 (.v 6) (.v 3) (.c 0) (.c 77) (.c 0) (.c 0)) (.v 3) (.c 0)) (.v 1)), .false), ((.eq (.ap 25 (.v 0) (.v 1) (.v 2) (.ap 8 (.v 6) (.v 3) (.c 0) (.c 77) (.c 0) (.c 0)) (.v 3) (.c 0)) (.v 0)), .true), ((.eq (.ap 22 (.v 0) (.v 1) (.v 2) (.v 6) (.v 3) (.c 0)) (.c 0)), .true), ((.le (.v 2) (.c 4611686018427387904)), .true), ((.le (.v 1) (.v 0)), .true), ((.le (.v 3) (.d 1)), .true), ((.le (.op .add (.v 3) (.c 1)) (.d 1)), .true), ((.le (.v 3) (.d 0)), .true), ((.lt (.c 50) (.v 3)), .false), ((.le (.c 0) (.v 5)), .true), ((.le (.v 3) (.v 5)), .true)] 0 ⟨⟨[], []⟩, [], [], []⟩ [(.eb (.c .true) (.c .false))] []), (.fin [((.eq (.ap 25 (.v 0) (.v 1) (.v 2) (.ap 8 (.v 6) (.v 3) (.c 0) (.c 77) (.c 0) (.c 0)) (.v 3) (.c 0)) (.v 0)), .false), ((.eq (.ap 22 (.v 0) (.v 1) (.v 2) (.v 6) (.v 3) (.c 0)) (.c 0)), .true), ((.le (.v 2) (.c 4611686018427387904)), .true), ((.le (.v 1) (.v 0)), .true), ((.le (.v 3) (.d 1)), .true), ((.le (.op .add (.v 3) (.c 1)) (.d 1)), .true), ((.le (.v 3) (.d 0)), .true), ((.lt (.c 50) (.v 3)), .false), ((.le (.c 0) (.v 5)), .true), ((.le (.v 3) (.v 5)), .true)] 0 ⟨⟨[], []⟩, [], [], []⟩ [(.eb (.c .true) (.c .false))] []), (.fin [((.eq (.ap 3 (.ap 8 (.v 6) (.v 3) (.c 0) (.c 77) (.c 0) (.c 0)) (.v 3) (.c 0) (.c 0) (.c 0) (.c 0)) (.c 77)), .true), ((.lt (.v 3) (.op .add (.v 3) (.c 1))), .true), ((.eq (.ap 23 (.v 0) (.v 1) (.v 2) (.ap 8 (.v 6) (.v 3) (.c 0) (.c 77) (.c 0) (.c 0)) (.v 3) (.c 0)) (.ap 23 (.v 0) (.v 1) (.v 2) (.v 6) (.v 3) (.c 0))), .true), ((.eq (.ap 22 (.v 0) (.v 1) (.v 2) (.ap 8 (.v 6) (.v 3) (.c 0) (.c 77) (.c 0) (.c 0)) (.v 3) (.c 0)) (.ap 22 (.v 0) (.v 1) (.v 2) (.v 6) (.v 3) (.c 0))), .true), ((.eq (.ap 27 (.v 0) (.v 1) (.v 2) (.ap 8 (.v 6) (.v 3) (.c 0) (.c 77) (.c 0) (.c 0)) (.v 3) (.c 0)) (.ap 7 (.ap 24 (.v 0) (.v 1) (.v 2) (.v 6) (.v 3) (.c 0)) (.op .add (.ap 22 (.v 0) (.v 1) (.v 2) (.v 6) (.v 3) (.c 0)) (.c (-1))) (.c 2) (.c 0) (.c 0) (.c 0))), .true), ((.eq (.ap 26 (.v 0) (.v 1) (.v 2) (.ap 8 (.v 6) (.v 3) (.c 0) (.c 77) (.c 0) (.c 0)) (.v 3) (.c 0)) (.ap 3 (.ap 24 (.v 0) (.v 1) (.v 2) (.v 6) (.v 3) (.c 0)) (.op .add (.ap 22 (.v 0) (.v 1) (.v 2) (.v 6) (.v 3) (.c 0)) (.c (-1))) (.c 1) (.c 0) (.c 0) (.c 0))), .true), ((.eq (.ap 25 (.v 0) (.v 1) (.v 2) (.ap 8 (.v 6) (.v 3) (.c 0) (.c 77) (.c 0) (.c 0)) (.v 3) (.c 0)) (.ap 3 (.ap 24 (.v 0) (.v 1) (.v 2) (.v 6) (.v 3) (.c 0)) (.op .add (.ap 22 (.v 0) (.v 1) (.v 2) (.v 6) (.v 3) (.c 0)) (.c (-1))) (.c 0) (.c 0) (.c 0) (.c 0))), .true), ((.lt (.op .add (.ap 22 (.v 0) (.v 1) (.v 2) (.v 6) (.v 3) (.c 0)) (.c (-1))) (.ap 22 (.v 0) (.v 1) (.v 2) (.v 6) (.v 3) (.c 0))), .true), ((.le (.c 0) (.op .add (.ap 22 (.v 0) (.v 1) (.v 2) (.v 6) (.v 3) (.c 0)) (.c (-1)))), .true), ((.lt (.c 0) (.ap 22 (.v 0) (.v 1) (.v 2) (.v 6) (.v 3) (.c 0))), .true), ((.le (.ap 22 (.v 0) (.v 1) (.v 2) (.v 6) (.v 3) (.c 0)) (.d 2)), .true), ((.eq (.ap 22 (.v 0) (.v 1) (.v 2) (.v 6) (.v 3) (.c 0)) (.c 0)), .false), ((.le (.v 2) (.c 4611686018427387904)), .true), ((.le (.v 1) (.v 0)), .true), ((.le (.v 3) (.d 1)), .true), ((.le (.op .add (.v 3) (.c 1)) (.d 1)), .true), ((.le (.v 3) (.d 0)), .true), ((.lt (.c 50) (.v 3)), .false), ((.le (.c 0) (.v 5)), .true), ((.le (.v 3) (.v 5)), .true)] 0 ⟨⟨[], []⟩, [], [], []⟩ [] []), (.fin [((.eq (.ap 3 (.ap 8 (.v 6) (.v 3) (.c 0) (.c 77) (.c 0) (.c 0)) (.v 3) (.c 0) (.c 0) (.c 0) (.c 0)) (.c 77)), .false), ((.lt (.v 3) (.op .add (.v 3) (.c 1))), .true), ((.eq (.ap 23 (.v 0) (.v 1) (.v 2) (.ap 8 (.v 6) (.v 3) (.c 0) (.c 77) (.c 0) (.c 0)) (.v 3) (.c 0)) (.ap 23 (.v 0) (.v 1) (.v 2) (.v 6) (.v 3) (.c 0))), .true), ((.eq (.ap 22 (.v 0) (.v 1) (.v 2) (.ap 8 (.v 6) (.v 3) (.c 0) (.c 77) (.c 0) (.c 0)) (.v 3) (.c 0)) (.ap 22 (.v 0) (.v 1) (.v 2) (.v 6) (.v 3) (.c 0))), .true), ((.eq (.ap 27 (.v 0) (.v 1) (.v 2) (.ap 8 (.v 6) (.v 3) (.c 0) (.c 77) (.c 0) (.c 0)) (.v 3) (.c 0)) (.ap 7 (.ap 24 (.v 0) (.v 1) (.v 2) (.v 6) (.v 3) (.c 0)) (.op .add (.ap 22 (.v 0) (.v 1) (.v 2) (.v 6) (.v 3) (.c 0)) (.c (-1))) (.c 2) (.c 0) (.c 0) (.c 0))), .true), ((.eq (.ap 26 (.v 0) (.v 1) (.v 2) (.ap 8 (.v 6) (.v 3) (.c 0) (.c 77) (.c 0) (.c 0)) (.v 3) (.c 0)) (.ap 3 (.ap 24 (.v 0) (.v 1) (.v 2) (.v 6) (.v 3) (.c 0)) (.op .add (.ap 22 (.v 0) (.v 1) (.v 2) (.v 6) (.v 3) (.c 0)) (.c (-1))) (.c 1) (.c 0) (.c 0) (.c 0))), .true), ((.eq (.ap 25 (.v 0) (.v 1) (.v 2) (.ap 8 (.v 6) (.v 3) (.c 0) (.c 77) (.c 0) (.c 0)) (.v 3) (.c 0)) (.ap 3 (.ap 24 (.v 0) (.v 1) (.v 2) (.v 6) (.v 3) (.c 0)) (.op .add (.ap 22 (.v 0) (.v 1) (.v 2) (.v 6) (.v 3) (.c 0)) (.c (-1))) (.c 0) (.c 0) (.c 0) (.c 0))), .true), ((.lt (.op .add (.ap 22 (.v 0) (.v 1) (.v 2) (.v 6) (.v 3) (.c 0)) (.c (-1))) (.ap 22 (.v 0) (.v 1) (.v 2) (.v 6) (.v 3) (.c 0))), .true), ((.le (.c 0) (.op .add (.ap 22 (.v 0) (.v 1) (.v 2) (.v 6) (.v 3) (.c 0)) (.c (-1)))), .true), ((.lt (.c 0) (.ap 22 (.v 0) (.v 1) (.v 2) (.v 6) (.v 3) (.c 0))), .true), ((.le (.ap 22 (.v 0) (.v 1) (.v 2) (.v 6) (.v 3) (.c 0)) (.d 2)), .true), ((.eq (.ap 22 (.v 0) (.v 1) (.v 2) (.v 6) (.v 3) (.c 0)) (.c 0)), .false), ((.le (.v 2) (.c 4611686018427387904)), .true), ((.le (.v 1) (.v 0)), .true), ((.le (.v 3) (.d 1)), .true), ((.le (.op .add (.v 3) (.c 1)) (.d 1)), .true), ((.le (.v 3) (.d 0)), .true), ((.lt (.c 50) (.v 3)), .false), ((.le (.c 0) (.v 5)), .true), ((.le (.v 3) (.v 5)), .true)] 0 ⟨⟨[], []⟩, [], [], []⟩ [(.eb (.c .true) (.c .false))] []), (.bad [((.lt (.v 3) (.op .add (.v 3) (.c 1))), .false), ((.eq (.ap 23 (.v 0) (.v 1) (.v 2) (.ap 8 (.v 6) (.v 3) (.c 0) (.c 77) (.c 0) (.c 0)) (.v 3) (.c 0)) (.ap 23 (.v 0) (.v 1) (.v 2) (.v 6) (.v 3) (.c 0))), .true), ((.eq (.ap 22 (.v 0) (.v 1) (.v 2) (.ap 8 (.v 6) (.v 3) (.c 0) (.c 77) (.c 0) (.c 0)) (.v 3) (.c 0)) (.ap 22 (.v 0) (.v 1) (.v 2) (.v 6) (.v 3) (.c 0))), .true), ((.eq (.ap 27 (.v 0) (.v 1) (.v 2) (.ap 8 (.v 6) (.v 3) (.c 0) (.c 77) (.c 0) (.c 0)) (.v 3) (.c 0)) (.ap 7 (.ap 24 (.v 0) (.v 1) (.v 2) (.v 6) (.v 3) (.c 0)) (.op .add (.ap 22 (.v 0) (.v 1) (.v 2) (.v 6) (.v 3) (.c 0)) (.c (-1))) (.c 2) (.c 0) (.c 0) (.c 0))), .true), ((.eq (.ap 26 (.v 0) (.v 1) (.v 2) (.ap 8 (.v 6) (.v 3) (.c 0) (.c 77) (.c 0) (.c 0)) (.v 3) (.c 0)) (.ap 3 (.ap 24 (.v 0) (.v 1) (.v 2) (.v 6) (.v 3) (.c 0)) (.op .add (.ap 22 (.v 0) (.v 1) (.v 2) (.v 6) (.v 3) (.c 0)) (.c (-1))) (.c 1) (.c 0) (.c 0) (.c 0))), .true), ((.eq (.ap 25 (.v 0) (.v 1) (.v 2) (.ap 8 (.v 6) (.v 3) (.c 0) (.c 77) (.c 0) (.c 0)) (.v 3) (.c 0)) (.ap 3 (.ap 24 (.v 0) (.v 1) (.v 2) (.v 6) (.v 3) (.c 0)) (.op .add (.ap 22 (.v 0) (.v 1) (.v 2) (.v 6) (.v 3) (.c 0)) (.c (-1))) (.c 0) (.c 0) (.c 0) (.c 0))), .true), ((.lt (.op .add (.ap 22 (.v 0) (.v 1) (.v 2) (.v 6) (.v 3) (.c 0)) (.c (-1))) (.ap 22 (.v 0) (.v 1) (.v 2) (.v 6) (.v 3) (.c 0))), .true), ((.le (.c 0) (.op .add (.ap 22 (.v 0) (.v 1) (.v 2) (.v 6) (.v 3) (.c 0)) (.c (-1)))), .true), ((.lt (.c 0) (.ap 22 (.v 0) (.v 1) (.v 2) (.v 6) (.v 3) (.c 0))), .true), ((.le (.ap 22 (.v 0) (.v 1) (.v 2) (.v 6) (.v 3) (.c 0)) (.d 2)), .true), ((.eq (.ap 22 (.v 0) (.v 1) (.v 2) (.v 6) (.v 3) (.c 0)) (.c 0)), .false), ((.le (.v 2) (.c 4611686018427387904)), .true), ((.le (.v 1) (.v 0)), .true), ((.le (.v 3) (.d 1)), .true), ((.le (.op .add (.v 3) (.c 1)) (.d 1)), .true), ((.le (.v 3) (.d 0)), .true), ((.lt (.c 50) (.v 3)), .false), ((.le (.c 0) (.v 5)), .true), ((.le (.v 3) (.v 5)), .true)]), (.fin [((.eq (.ap 23 (.v 0) (.v 1) (.v 2) (.ap 8 (.v 6) (.v 3) (.c 0) (.c 77) (.c 0) (.c 0)) (.v 3) (.c 0)) (.ap 23 (.v 0) (.v 1) (.v 2) (.v 6) (.v 3) (.c 0))), .false), ((.eq (.ap 22 (.v 0) (.v 1) (.v 2) (.ap 8 (.v 6) (.v 3) (.c 0) (.c 77) (.c 0) (.c 0)) (.v 3) (.c 0)) (.ap 22 (.v 0) (.v 1) (.v 2) (.v 6) (.v 3) (.c 0))), .true), ((.eq (.ap 27 (.v 0) (.v 1) (.v 2) (.ap 8 (.v 6) (.v 3) (.c 0) (.c 77) (.c 0) (.c 0)) (.v 3) (.c 0)) (.ap 7 (.ap 24 (.v 0) (.v 1) (.v 2) (.v 6) (.v 3) (.c 0)) (.op .add (.ap 22 (.v 0) (.v 1) (.v 2) (.v 6) (.v 3) (.c 0)) (.c (-1))) (.c 2) (.c 0) (.c 0) (.c 0))), .true), ((.eq (.ap 26 (.v 0) (.v 1) (.v 2) (.ap 8 (.v 6) (.v 3) (.c 0) (.c 77) (.c 0) (.c 0)) (.v 3) (.c 0)) (.ap 3 (.ap 24 (.v 0) (.v 1) (.v 2) (.v 6) (.v 3) (.c 0)) (.op .add (.ap 22 (.v 0) (.v 1) (.v 2) (.v 6) (.v 3) (.c 0)) (.c (-1))) (.c 1) (.c 0) (.c 0) (.c 0))), .true), ((.eq (.ap 25 (.v 0) (.v 1) (.v 2) (.ap 8 (.v 6) (.v 3) (.c 0) (.c 77) (.c 0) (.c 0)) (.v 3) (.c 0)) (.ap 3 (.ap 24 (.v 0) (.v 1) (.v 2) (.v 6) (.v 3) (.c 0)) (.op .add (.ap 22 (.v 0) (.v 1) (.v 2) (.v 6) (.v 3) (.c 0)) (.c (-1))) (.c 0) (.c 0) (.c 0) (.c 0))), .true), ((.lt (.op .add (.ap 22 (.v 0) (.v 1) (.v 2) (.v 6) (.v 3) (.c 0)) (.c (-1))) (.ap 22 (.v 0) (.v 1) (.v 2) (.v 6) (.v 3) (.c 0))), .true), ((.le (.c 0) (.op .add (.ap 22 (.v 0) (.v 1) (.v 2) (.v 6) (.v 3) (.c 0)) (.c (-1)))), .true), ((.lt (.c 0) (.ap 22 (.v 0) (.v 1) (.v 2) (.v 6) (.v 3) (.c 0))), .true), ((.le (.ap 22 (.v 0) (.v 1) (.v 2) (.v 6) (.v 3) (.c 0)) (.d 2)), .true), ((.eq (.ap 22 (.v 0) (.v 1) (.v 2) (.v 6) (.v 3) (.c 0)) (.c 0)), .false), ((.le (.v 2) (.c 4611686018427387904)), .true), ((.le (.v 1) (.v 0)), .true), ((.le (.v 3) (.d 1)), .true), ((.le (.op .add (.v 3) (.c 1)) (.d 1)), .true), ((.le (.v 3) (.d 0)), .true), ((.lt (.c 50) (.v 3)), .false), ((.le (.c 0) (.v 5)), .true), ((.le (.v 3) (.v 5)), .true)] 0 ⟨⟨[], []⟩, [], [], []⟩ [(.eb (.c .true) (.c .false))] []), (.fin [((.eq (.ap 22 (.v 0) (.v 1) (.v 2) (.ap 8 (.v 6) (.v 3) (.c 0) (.c 77) (.c 0) (.c 0)) (.v 3) (.c 0)) (.ap 22 (.v 0) (.v 1) (.v 2) (.v 6) (.v 3) (.c 0))), .false), ((.eq (.ap 27 (.v 0) (.v 1) (.v 2) (.ap 8 (.v 6) (.v 3) (.c 0) (.c 77) (.c 0) (.c 0)) (.v 3) (.c 0)) (.ap 7 (.ap 24 (.v 0) (.v 1) (.v 2) (.v 6) (.v 3) (.c 0)) (.op .add (.ap 22 (.v 0) (.v 1) (.v 2) (.v 6) (.v 3) (.c 0)) (.c (-1))) (.c 2) (.c 0) (.c 0) (.c 0))), .true), ((.eq (.ap 26 (.v 0) (.v 1) (.v 2) (.ap 8 (.v 6) (.v 3) (.c 0) (.c 77) (.c 0) (.c 0)) (.v 3) (.c 0)) (.ap 3 (.ap 24 (.v 0) (.v 1) (.v 2) (.v 6) (.v 3) (.c 0)) (.op .add (.ap 22 (.v 0) (.v 1) (.v 2) (.v 6) (.v 3) (.c 0)) (.c (-1))) (.c 1) (.c 0) (.c 0) (.c 0))), .true), ((.eq (.ap 25 (.v 0) (.v 1) (.v 2) (.ap 8 (.v 6) (.v 3) (.c 0) (.c 77) (.c 0) (.c 0)) (.v 3) (.c 0)) (.ap 3 (.ap 24 (.v 0) (.v 1) (.v 2) (.v 6) (.v 3) (.c 0)) (.op .add (.ap 22 (.v 0) (.v 1) (.v 2) (.v 6) (.v 3) (.c 0)) (.c (-1))) (.c 0) (.c 0) (.c 0) (.c 0))), .true), ((.lt (.op .add (.ap 22 (.v 0) (.v 1) (.v 2) (.v 6) (.v 3) (.c 0)) (.c (-1))) (.ap 22 (.v 0) (.v 1) (.v 2) (.v 6) (.v 3) (.c 0))), .true), ((.le (.c 0) (.op .add (.ap 22 (.v 0) (.v 1) (.v 2) (.v 6) (.v 3) (.c 0)) (.c (-1)))), .true), ((.lt (.c 0) (.ap 22 (.v 0) (.v 1) (.v 2) (.v 6) (.v 3) (.c 0))), .true), ((.le (.ap 22 (.v 0) (.v 1) (.v 2) (.v 6) (.v 3) (.c 0)) (.d 2)), .true), ((.eq (.ap 22 (.v 0) (.v 1) (.v 2) (.v 6) (.v 3) (.c 0)) (.c 0)), .false), ((.le (.v 2) (.c 4611686018427387904)), .true), ((.le (.v 1) (.v 0)), .true), ((.le (.v 3) (.d 1)), .true), ((.le (.op .add (.v 3) (.c 1)) (.d 1)), .true), ((.le (.v 3) (.d 0)), .true), ((.lt (.c 50) (.v 3)), .false), ((.le (.c 0) (.v 5)), .true), ((.le (.v 3) (.v 5)), .true)] 0 ⟨⟨[], []⟩, [], [], []⟩ [(.eb (.c .true) (.c .false))] []), (.fin [((.eq (.ap 27 (.v 0) (.v 1) (.v 2) (.ap 8 (.v 6) (.v 3) (.c 0) (.c 77) (.c 0) (.c 0)) (.v 3) (.c 0)) (.ap 7 (.ap 24 (.v 0) (.v 1) (.v 2) (.v 6) (.v 3) (.c 0)) (.op .add (.ap 22 (.v 0) (.v 1) (.v 2) (.v 6) (.v 3) (.c 0)) (.c (-1))) (.c 2) (.c 0) (.c 0) (.c 0))), .false), ((.eq (.ap 26 (.v 0) (.v 1) (.v 2) (.ap 8 (.v 6) (.v 3) (.c 0) (.c 77) (.c 0) (.c 0)) (.v 3) (.c 0)) (.ap 3 (.ap 24 (.v 0) (.v 1) (.v 2) (.v 6) (.v 3) (.c 0)) (.op .add (.ap 22 (.v 0) (.v 1) (.v 2) (.v 6) (.v 3) (.c 0)) (.c (-1))) (.c 1) (.c 0) (.c 0) (.c 0))), .true), ((.eq (.ap 25 (.v 0) (.v 1) (.v 2) (.ap 8 (.v 6) (.v 3) (.c 0) (.c 77) (.c 0) (.c 0)) (.v 3) (.c 0)) (.ap 3 (.ap 24 (.v 0) (.v 1) (.v 2) (.v 6) (.v 3) (.c 0)) (.op .add (.ap 22 (.v 0) (.v 1) (.v 2) (.v 6) (.v 3) (.c 0)) (.c (-1))) (.c 0) (.c 0) (.c 0) (.c 0))), .true), ((.lt (.op .add (.ap 22 (.v 0) (.v 1) (.v 2) (.v 6) (.v 3) (.c 0)) (.c (-1))) (.ap 22 (.v 0) (.v 1) (.v 2) (.v 6) (.v 3) (.c 0))), .true), ((.le (.c 0) (.op .add (.ap 22 (.v 0) (.v 1) (.v 2) (.v 6) (.v 3) (.c 0)) (.c (-1)))), .true), ((.lt (.c 0) (.ap 22 (.v 0) (.v 1) (.v 2) (.v 6) (.v 3) (.c 0))), .true), ((.le (.ap 22 (.v 0) (.v 1) (.v 2) (.v 6) (.v 3) (.c 0)) (.d 2)), .true), ((.eq (.ap 22 (.v 0) (.v 1) (.v 2) (.v 6) (.v 3) (.c 0)) (.c 0)), .false), ((.le (.v 2) (.c 4611686018427387904)), .true), ((.le (.v 1) (.v 0)), .true), ((.le (.v 3) (.d 1)), .true), ((.le (.op .add (.v 3) (.c 1)) (.d 1)), .true), ((.le (.v 3) (.d 0)), .true), ((.lt (.c 50) (.v 3)), .false), ((.le (.c 0) (.v 5)), .true), ((.le (.v 3) (.v 5)), .true)] 0 ⟨⟨[], []⟩, [], [], []⟩ [(.eb (.c .true) (.c .false))] []), (.fin [((.eq (.ap 26 (.v 0) (.v 1) (.v 2) (.ap 8 (.v 6) (.v 3) (.c 0) (.c 77) (.c 0) (.c 0)) (.v 3) (.c 0)) (.ap 3 (.ap 24 (.v 0) (.v 1) (.v 2) (.v 6) (.v 3) (.c 0)) (.op .add (.ap 22 (.v 0) (.v 1) (.v 2) (.v 6) (.v 3) (.c 0)) (.c (-1))) (.c 1) (.c 0) (.c 0) (.c 0))), .false), ((.eq (.ap 25 (.v 0) (.v 1) (.v 2) (.ap 8 (.v 6) (.v 3) (.c 0) (.c 77) (.c 0) (.c 0)) (.v 3) (.c 0)) (.ap 3 (.ap 24 (.v 0) (.v 1) (.v 2) (.v 6) (.v 3) (.c 0)) (.op .add (.ap 22 (.v 0) (.v 1) (.v 2) (.v 6) (.v 3) (.c 0)) (.c (-1))) (.c 0) (.c 0) (.c 0) (.c 0))), .true), ((.lt (.op .add (.ap 22 (.v 0) (.v 1) (.v 2) (.v 6) (.v 3) (.c 0)) (.c (-1))) (.ap 22 (.v 0) (.v 1) (.v 2) (.v 6) (.v 3) (.c 0))), .true), ((.le (.c 0) (.op .add (.ap 22 (.v 0) (.v 1) (.v 2) (.v 6) (.v 3) (.c 0)) (.c (-1)))), .true), ((.lt (.c 0) (.ap 22 (.v 0) (.v 1) (.v 2) (.v 6) (.v 3) (.c 0))), .true), ((.le (.ap 22 (.v 0) (.v 1) (.v 2) (.v 6) (.v 3) (.c 0)) (.d 2)), .true), ((.eq (.ap 22 (.v 0) (.v 1) (.v 2) (.v 6) (.v 3) (.c 0)) (.c 0)), .false), ((.le (.v 2) (.c 4611686018427387904)), .true), ((.le (.v 1) (.v 0)), .true), ((.le (.v 3) (.d 1)), .true), ((.le (.op .add (.v 3) (.c 1)) (.d 1)), .true), ((.le (.v 3) (.d 0)), .true), ((.lt (.c 50) (.v 3)), .false), ((.le (.c 0) (.v 5)), .true), ((.le (.v 3) (.v 5)), .true)] 0 ⟨⟨[], []⟩, [], [], []⟩ [(.eb (.c .true) (.c .false))] []), (.fin [((.eq (.ap 25 (.v 0) (.v 1) (.v 2) (.ap 8 (.v 6) (.v 3) (.c 0) (.c 77) (.c 0) (.c 0)) (.v 3) (.c 0)) (.ap 3 (.ap 24 (.v 0) (.v 1) (.v 2) (.v 6) (.v 3) (.c 0)) (.op .add (.ap 22 (.v 0) (.v 1) (.v 2) (.v 6) (.v 3) (.c 0)) (.c (-1))) (.c 0) (.c 0) (.c 0) (.c 0))), .false), ((.lt (.op .add (.ap 22 (.v 0) (.v 1) (.v 2) (.v 6) (.v 3) (.c 0)) (.c (-1))) (.ap 22 (.v 0) (.v 1) (.v 2) (.v 6) (.v 3) (.c 0))), .true), ((.le (.c 0) (.op .add (.ap 22 (.v 0) (.v 1) (.v 2) (.v 6) (.v 3) (.c 0)) (.c (-1)))), .true), ((.lt (.c 0) (.ap 22 (.v 0) (.v 1) (.v 2) (.v 6) (.v 3) (.c 0))), .true), ((.le (.ap 22 (.v 0) (.v 1) (.v 2) (.v 6) (.v 3) (.c 0)) (.d 2)), .true), ((.eq (.ap 22 (.v 0) (.v 1) (.v 2) (.v 6) (.v 3) (.c 0)) (.c 0)), .false), ((.le (.v 2) (.c 4611686018427387904)), .true), ((.le (.v 1) (.v 0)), .true), ((.le (.v 3) (.d 1)), .true), ((.le (.op .add (.v 3) (.c 1)) (.d 1)), .true), ((.le (.v 3) (.d 0)), .true), ((.lt (.c 50) (.v 3)), .false), ((.le (.c 0) (.v 5)), .true), ((.le (.v 3) (.v 5)), .true)] 0 ⟨⟨[], []⟩, [], [], []⟩ [(.eb (.c .true) (.c .false))] []), (.bad [((.lt (.op .add (.ap 22 (.v 0) (.v 1) (.v 2) (.v 6) (.v 3) (.c 0)) (.c (-1))) (.ap 22 (.v 0) (.v 1) (.v 2) (.v 6) (.v 3) (.c 0))), .false), ((.le (.c 0) (.op .add (.ap 22 (.v 0) (.v 1) (.v 2) (.v 6) (.v 3) (.c 0)) (.c (-1)))), .true), ((.lt (.c 0) (.ap 22 (.v 0) (.v 1) (.v 2) (.v 6) (.v 3) (.c 0))), .true), ((.le (.ap 22 (.v 0) (.v 1) (.v 2) (.v 6) (.v 3) (.c 0)) (.d 2)), .true), ((.eq (.ap 22 (.v 0) (.v 1) (.v 2) (.v 6) (.v 3) (.c 0)) (.c 0)), .false), ((.le (.v 2) (.c 4611686018427387904)), .true), ((.le (.v 1) (.v 0)), .true), ((.le (.v 3) (.d 1)), .true), ((.le (.op .add (.v 3) (.c 1)) (.d 1)), .true), ((.le (.v 3) (.d 0)), .true), ((.lt (.c 50) (.v 3)), .false), ((.le (.c 0) (.v 5)), .true), ((.le (.v 3) (.v 5)), .true)]), (.bad [((.le (.c 0) (.op .add (.ap 22 (.v 0) (.v 1) (.v 2) (.v 6) (.v 3) (.c 0)) (.c (-1)))), .false), ((.lt (.c 0) (.ap 22 (.v 0) (.v 1) (.v 2) (.v 6) (.v 3) (.c 0))), .true), ((.le (.ap 22 (.v 0) (.v 1) (.v 2) (.v 6) (.v 3) (.c 0)) (.d 2)), .true), ((.eq (.ap 22 (.v 0) (.v 1) (.v 2) (.v 6) (.v 3) (.c 0)) (.c 0)), .false), ((.le (.v 2) (.c 4611686018427387904)), .true), ((.le (.v 1) (.v 0)), .true), ((.le (.v 3) (.d 1)), .true), ((.le (.op .add (.v 3) (.c 1)) (.d 1)), .true), ((.le (.v 3) (.d 0)), .true), ((.lt (.c 50) (.v 3)), .false), ((.le (.c 0) (.v 5)), .true), ((.le (.v 3) (.v 5)), .true)]), (.fin [((.eq (.ap 3 (.ap 8 (.v 6) (.v 3) (.c 0) (.c 77) (.c 0) (.c 0)) (.v 3) (.c 0) (.c 0) (.c 0) (.c 0)) (.c 77)), .true), ((.lt (.v 3) (.op .add (.v 3) (.c 1))), .true), ((.eq (.ap 23 (.v 0) (.v 1) (.v 2) (.ap 8 (.v 6) (.v 3) (.c 0) (.c 77) (.c 0) (.c 0)) (.v 3) (.c 0)) (.ap 23 (.v 0) (.v 1) (.v 2) (.v 6) (.v 3) (.c 0))), .true), ((.eq (.ap 22 (.v 0) (.v 1) (.v 2) (.ap 8 (.v 6) (.v 3) (.c 0) (.c 77) (.c 0) (.c 0)) (.v 3) (.c 0)) (.ap 22 (.v 0) (.v 1) (.v 2) (.v 6) (.v 3) (.c 0))), .true), ((.eq (.ap 27 (.v 0) (.v 1) (.v 2) (.ap 8 (.v 6) (.v 3) (.c 0) (.c 77) (.c 0) (.c 0)) (.v 3) (.c 0)) (.v 2)), .true), ((.eq (.ap 26 (.v 0) (.v 1) (.v 2) (.ap 8 (.v 6) (.v 3) (.c 0) (.c 77) (.c 0) (.c 0)) (.v 3) (.c 0)) (.v 1)), .true), ((.eq (.ap 25 (.v 0) (.v 1) (.v 2) (.ap 8 (.v 6) (.v 3) (.c 0) (.c 77) (.c 0) (.c 0)) (.v 3) (.c 0)) (.v 0)), .true), ((.lt (.c 0) (.ap 22 (.v 0) (.v 1) (.v 2) (.v 6) (.v 3) (.c 0))), .false), ((.le (.ap 22 (.v 0) (.v 1) (.v 2) (.v 6) (.v 3) (.c 0)) (.d 2)), .true), ((.eq (.ap 22 (.v 0) (.v 1) (.v 2) (.v 6) (.v 3) (.c 0)) (.c 0)), .false), ((.le (.v 2) (.c 4611686018427387904)), .true), ((.le (.v 1) (.v 0)), .true), ((.le (.v 3) (.d 1)), .true), ((.le (.op .add (.v 3) (.c 1)) (.d 1)), .true), ((.le (.v 3) (.d 0)), .true), ((.lt (.c 50) (.v 3)), .false), ((.le (.c 0) (.v 5)), .true), ((.le (.v 3) (.v 5)), .true)] 0 ⟨⟨[], []⟩, [], [], []⟩ [] []), (.fin [((.eq (.ap 3 (.ap 8 (.v 6) (.v 3) (.c 0) (.c 77) (.c 0) (.c 0)) (.v 3) (.c 0) (.c 0) (.c 0) (.c 0)) (.c 77)), .false), ((.lt (.v 3) (.op .add (.v 3) (.c 1))), .true), ((.eq (.ap 23 (.v 0) (.v 1) (.v 2) (.ap 8 (.v 6) (.v 3) (.c 0) (.c 77) (.c 0) (.c 0)) (.v 3) (.c 0)) (.ap 23 (.v 0) (.v 1) (.v 2) (.v 6) (.v 3) (.c 0))), .true), ((.eq (.ap 22 (.v 0) (.v 1) (.v 2) (.ap 8 (.v 6) (.v 3) (.c 0) (.c 77) (.c 0) (.c 0)) (.v 3) (.c 0)) (.ap 22 (.v 0) (.v 1) (.v 2) (.v 6) (.v 3) (.c 0))), .true), ((.eq (.ap 27 (.v 0) (.v 1) (.v 2) (.ap 8 (.v 6) (.v 3) (.c 0) (.c 77) (.c 0) (.c 0)) (.v 3) (.c 0)) (.v 2)), .true), ((.eq (.ap 26 (.v 0) (.v 1) (.v 2) (.ap 8 (.v 6) (.v 3) (.c 0) (.c 77) (.c 0) (.c 0)) (.v 3) (.c 0)) (.v 1)), .true), ((.eq (.ap 25 (.v 0) (.v 1) (.v 2) (.ap 8 (.v 6) (.v 3) (.c 0) (.c 77) (.c 0) (.c 0)) (.v 3) (.c 0)) (.v 0)), .true), ((.lt (.c 0) (.ap 22 (.v 0) (.v 1) (.v 2) (.v 6) (.v 3) (.c 0))), .false), ((.le (.ap 22 (.v 0) (.v 1) (.v 2) (.v 6) (.v 3) (.c 0)) (.d 2)), .true), ((.eq (.ap 22 (.v 0) (.v 1) (.v 2) (.v 6) (.v 3) (.c 0)) (.c 0)), .false), ((.le (.v 2) (.c 4611686018427387904)), .true), ((.le (.v 1) (.v 0)), .true), ((.le (.v 3) (.d 1)), .true), ((.le (.op .add (.v 3) (.c 1)) (.d 1)), .true), ((.le (.v 3) (.d 0)), .true), ((.lt (.c 50) (.v 3)), .false), ((.le (.c 0) (.v 5)), .true), ((.le (.v 3) (.v 5)), .true)] 0 ⟨⟨[], []⟩, [], [], []⟩ [(.eb (.c .true) (.c .false))] []), (.bad [((.lt (.v 3) (.op .add (.v 3) (.c 1))), .false), ((.eq (.ap 23 (.v 0) (.v 1) (.v 2) (.ap 8 (.v 6) (.v 3) (.c 0) (.c 77) (.c 0) (.c 0)) (.v 3) (.c 0)) (.ap 23 (.v 0) (.v 1) (.v 2) (.v 6) (.v 3) (.c 0))), .true), ((.eq (.ap 22 (.v 0) (.v 1) (.v 2) (.ap 8 (.v 6) (.v 3) (.c 0) (.c 77) (.c 0) (.c 0)) (.v 3) (.c 0)) (.ap 22 (.v 0) (.v 1) (.v 2) (.v 6) (.v 3) (.c 0))), .true), ((.eq (.ap 27 (.v 0) (.v 1) (.v 2) (.ap 8 (.v 6) (.v 3) (.c 0) (.c 77) (.c 0) (.c 0)) (.v 3) (.c 0)) (.v 2)), .true), ((.eq (.ap 26 (.v 0) (.v 1) (.v 2) (.ap 8 (.v 6) (.v 3) (.c 0) (.c 77) (.c 0) (.c 0)) (.v 3) (.c 0)) (.v 1)), .true), ((.eq (.ap 25 (.v 0) (.v 1) (.v 2) (.ap 8 (.v 6) (.v 3) (.c 0) (.c 77) (.c 0) (.c 0)) (.v 3) (.c 0)) (.v 0)), .true), ((.lt (.c 0) (.ap 22 (.v 0) (.v 1) (.v 2) (.v 6) (.v 3) (.c 0))), .false), ((.le (.ap 22 (.v 0) (.v 1) (.v 2) (.v 6) (.v 3) (.c 0)) (.d 2)), .true), ((.eq (.ap 22 (.v 0) (.v 1) (.v 2) (.v 6) (.v 3) (.c 0)) (.c 0)), .false), ((.le (.v 2) (.c 4611686018427387904)), .true), ((.le (.v 1) (.v 0)), .true), ((.le (.v 3) (.d 1)), .true), ((.le (.op .add (.v 3) (.c 1)) (.d 1)), .true), ((.le (.v 3) (.d 0)), .true), ((.lt (.c 50) (.v 3)), .false), ((.le (.c 0) (.v 5)), .true), ((.le (.v 3) (.v 5)), .true)]), (.fin [((.eq (.ap 23 (.v 0) (.v 1) (.v 2) (.ap 8 (.v 6) (.v 3) (.c 0) (.c 77) (.c 0) (.c 0)) (.v 3) (.c 0)) (.ap 23 (.v 0) (.v 1) (.v 2) (.v 6) (.v 3) (.c 0))), .false), ((.eq (.ap 22 (.v 0) (.v 1) (.v 2) (.ap 8 (.v 6) (.v 3) (.c 0) (.c 77) (.c 0) (.c 0)) (.v 3) (.c 0)) (.ap 22 (.v 0) (.v 1) (.v 2) (.v 6) (.v 3) (.c 0))), .true), ((.eq (.ap 27 (.v 0) (.v 1) (.v 2) (.ap 8 (.v 6) (.v 3) (.c 0) (.c 77) (.c 0) (.c 0)) (.v 3) (.c 0)) (.v 2)), .true), ((.eq (.ap 26 (.v 0) (.v 1) (.v 2) (.ap 8 (.v 6) (.v 3) (.c 0) (.c 77) (.c 0) (.c 0)) (.v 3) (.c 0)) (.v 1)), .true), ((.eq (.ap 25 (.v 0) (.v 1) (.v 2) (.ap 8 (.v 6) (.v 3) (.c 0) (.c 77) (.c 0) (.c 0)) (.v 3) (.c 0)) (.v 0)), .true), ((.lt (.c 0) (.ap 22 (.v 0) (.v 1) (.v 2) (.v 6) (.v 3) (.c 0))), .false), ((.le (.ap 22 (.v 0) (.v 1) (.v 2) (.v 6) (.v 3) (.c 0)) (.d 2)), .true), ((.eq (.ap 22 (.v 0) (.v 1) (.v 2) (.v 6) (.v 3) (.c 0)) (.c 0)), .false), ((.le (.v 2) (.c 4611686018427387904)), .true), ((.le (.v 1) (.v 0)), .true), ((.le (.v 3) (.d 1)), .true), ((.le (.op .add (.v 3) (.c 1)) (.d 1)), .true), ((.le (.v 3) (.d 0)), .true), ((.lt (.c 50) (.v 3)), .false), ((.le (.c 0) (.v 5)), .true), ((.le (.v 3) (.v 5)), .true)] 0 ⟨⟨[], []⟩, [], [], []⟩ [(.eb (.c .true) (.c .false))] []), (.fin [((.eq (.ap 22 (.v 0) (.v 1) (.v 2) (.ap 8 (.v 6) (.v 3) (.c 0) (.c 77) (.c 0) (.c 0)) (.v 3) (.c 0)) (.ap 22 (.v 0) (.v 1) (.v 2) (.v 6) (.v 3) (.c 0))), .false), ((.eq (.ap 27 (.v 0) (.v 1) (.v 2) (.ap 8 (.v 6) (.v 3) (.c 0) (.c 77) (.c 0) (.c 0)) (.v 3) (.c 0)) (.v 2)), .true), ((.eq (.ap 26 (.v 0) (.v 1) (.v 2) (.ap 8 (.v 6) (.v 3) (.c 0) (.c 77) (.c 0) (.c 0)) (.v 3) (.c 0)) (.v 1)), .true), ((.eq (.ap 25 (.v 0) (.v 1) (.v 2) (.ap 8 (.v 6) (.v 3) (.c 0) (.c 77) (.c 0) (.c 0)) (.v 3) (.c 0)) (.v 0)), .true), ((.lt (.c 0) (.ap 22 (.v 0) (.v 1) (.v 2) (.v 6) (.v 3) (.c 0))), .false), ((.le (.ap 22 (.v 0) (.v 1) (.v 2) (.v 6) (.v 3) (.c 0)) (.d 2)), .true), ((.eq (.ap 22 (.v 0) (.v 1) (.v 2) (.v 6) (.v 3) (.c 0)) (.c 0)), .false), ((.le (.v 2) (.c 4611686018427387904)), .true), ((.le (.v 1) (.v 0)), .true), ((.le (.v 3) (.d 1)), .true), ((.le (.op .add (.v 3) (.c 1)) (.d 1)), .true), ((.le (.v 3) (.d 0)), .true), ((.lt (.c 50) (.v 3)), .false), ((.le (.c 0) (.v 5)), .true), ((.le (.v 3) (.v 5)), .true)] 0 ⟨⟨[], []⟩, [], [], []⟩ [(.eb (.c .true) (.c .false))] []), (.fin [((.eq (.ap 27 (.v 0) (.v 1) (.v 2) (.ap 8 (.v 6) (.v 3) (.c 0) (.c 77) (.c 0) (.c 0)) (.v 3) (.c 0)) (.v 2)), .false), ((.eq (.ap 26 (.v 0) (.v 1) (.v 2) (.ap 8 (.v 6) (.v 3) (.c 0) (.c 77) (.c 0) (.c 0)) (.v 3) (.c 0)) (.v 1)), .true), ((.eq (.ap 25 (.v 0) (.v 1) (.v 2) (.ap 8 (.v 6) (.v 3) (.c 0) (.c 77) (.c 0) (.c 0)) (.v 3) (.c 0)) (.v 0)), .true), ((.lt (.c 0) (.ap 22 (.v 0) (.v 1) (.v 2) (.v 6) (.v 3) (.c 0))), .false), ((.le (.ap 22 (.v 0) (.v 1) (.v 2) (.v 6) (.v 3) (.c 0)) (.d 2)), .true), ((.eq (.ap 22 (.v 0) (.v 1) (.v 2) (.v 6) (.v 3) (.c 0)) (.c 0)), .false), ((.le (.v 2) (.c 4611686018427387904)), .true), ((.le (.v 1) (.v 0)), .true), ((.le (.v 3) (.d 1)), .true), ((.le (.op .add (.v 3) (.c 1)) (.d 1)), .true), ((.le (.v 3) (.d 0)), .true), ((.lt (.c 50) (.v 3)), .false), ((.le (.c 0) (.v 5)), .true), ((.le (.v 3) (.v 5)), .true)] 0 ⟨⟨[], []⟩, [], [], []⟩ [(.eb (.c .true) (.c .false))] []), (.fin [((.eq (.ap 26 (.v 0) (.v 1) (.v 2) (.ap 8 (.v 6) (.v 3) (.c 0) (.c 77) (.c 0) (.c 0)) (.v 3) (.c 0)) (.v 1)), .false), ((.eq (.ap 25 (.v 0) (.v 1) (.v 2) (.ap 8 (.v 6) (.v 3) (.c 0) (.c 77) (.c 0) (.c 0)) (.v 3) (.c 0)) (.v 0)), .true), ((.lt (.c 0) (.ap 22 (.v 0) (.v 1) (.v 2) (.v 6) (.v 3) (.c 0))), .false), ((.le (.ap 22 (.v 0) (.v 1) (.v 2) (.v 6) (.v 3) (.c 0)) (.d 2)), .true), ((.eq (.ap 22 (.v 0) (.v 1) (.v 2) (.v 6) (.v 3) (.c 0)) (.c 0)), .false), ((.le (.v 2) (.c 4611686018427387904)), .true), ((.le (.v 1) (.v 0)), .true), ((.le (.v 3) (.d 1)), .true), ((.le (.op .add (.v 3) (.c 1)) (.d 1)), .true), ((.le (.v 3) (.d 0)), .true), ((.lt (.c 50) (.v 3)), .false), ((.le (.c 0) (.v 5)), .true), ((.le (.v 3) (.v 5)), .true)] 0 ⟨⟨[], []⟩, [], [], []⟩ [(.eb (.c .true) (.c .false))] []), (.fin [((.eq (.ap 25 (.v 0) (.v 1) (.v 2) (.ap 8 (.v 6) (.v 3) (.c 0) (.c 77) (.c 0) (.c 0)) (.v 3) (.c 0)) (.v 0)), .false), ((.lt (.c 0) (.ap 22 (.v 0) (.v 1) (.v 2) (.v 6) (.v 3) (.c 0))), .false), ((.le (.ap 22 (.v 0) (.v 1) (.v 2) (.v 6) (.v 3) (.c 0)) (.d 2)), .true), ((.eq (.ap 22 (.v 0) (.v 1) (.v 2) (.v 6) (.v 3) (.c 0)) (.c 0)), .false), ((.le (.v 2) (.c 4611686018427387904)), .true), ((.le (.v 1) (.v 0)), .true), ((.le (.v 3) (.d 1)), .true), ((.le (.op .add (.v 3) (.c 1)) (.d 1)), .true), ((.le (.v 3) (.d 0)), .true), ((.lt (.c 50) (.v 3)), .false), ((.le (.c 0) (.v 5)), .true), ((.le (.v 3) (.v 5)), .true)] 0 ⟨⟨[], []⟩, [], [], []⟩ [(.eb (.c .true) (.c .false))] []), (.fin [((.le (.v 2) (.c 4611686018427387904)), .false), ((.le (.v 1) (.v 0)), .true), ((.le (.v 3) (.d 1)), .true), ((.le (.op .add (.v 3) (.c 1)) (.d 1)), .true), ((.le (.v 3) (.d 0)), .true), ((.lt (.c 50) (.v 3)), .false), ((.le (.c 0) (.v 5)), .true), ((.le (.v 3) (.v 5)), .true)] 0 ⟨⟨[], []⟩, [], [], []⟩ [] []), (.fin [((.le (.v 1) (.v 0)), .false), ((.le (.v 3) (.d 1)), .true), ((.le (.op .add (.v 3) (.c 1)) (.d 1)), .true), ((.le (.v 3) (.d 0)), .true), ((.lt (.c 50) (.v 3)), .false), ((.le (.c 0) (.v 5)), .true), ((.le (.v 3) (.v 5)), .true)] 0 ⟨⟨[], []⟩, [], [], []⟩ [] []), (.bad [((.le (.v 3) (.d 1)), .false), ((.le (.op .add (.v 3) (.c 1)) (.d 1)), .true), ((.le (.v 3) (.d 0)), .true), ((.lt (.c 50) (.v 3)), .false), ((.le (.c 0) (.v 5)), .true), ((.le (.v 3) (.v 5)), .true)])]
set_option maxRecDepth 100000 in
theorem lRuns_h0 : (ex (ccOf Try.prog BF [24] lRuns) (ents3 (ccOf Try.prog BF [24] lRuns)) (dw (ccOf Try.prog BF [24] lRuns) (ents3 (ccOf Try.prog BF [24] lRuns)) 1000 4) (stopL []) 4000 (tm0 lRuns Try.f5 (Try.f5.body.getD .skip)).f (tm0 lRuns Try.f5 (Try.f5.body.getD .skip)).fs (tm0 lRuns Try.f5 (Try.f5.body.getD .skip)).H).lfs (ccOf Try.prog BF [24] lRuns) ((tm0 lRuns Try.f5 (Try.f5.body.getD .skip)) :: []) lRuns.os = some lRuns_L0 := by kernel_rfl
def lRuns_inv : (Nat → Int) → (Nat → Bool) → Nat → (Nat → Int) → (Nat → Bool) → Prop := fun _ _ _ _ _ => True
def lRuns_mu : (Nat → Int) → (Nat → Bool) → Nat → (Nat → Int) → (Nat → Bool) → Nat := fun _ _ _ _ _ => 0
set_option maxHeartbeats 1000000 in
theorem lRuns_o0_0 (kv : Nat → Nat) (iv0 : Nat → Int) (bv0 : Nat → Bool) (hin : InB lRuns.B iv0) (hF : FT (sta FI FB kv iv0 bv0) (dlt dyn0) lRuns.F) (iv : Nat → Int) (bv : Nat → Bool) (ha : Agr 7 iv0 bv0 iv bv) (hi : lRuns_inv iv0 bv0 0 iv bv) :
    LfT (sta FI FB kv) lRuns.os (lRuns_inv iv0 bv0) (lRuns_mu iv0 bv0) 0 iv bv (.fin [((.lt (.c 50) (.v 3)), .true), ((.le (.c 0) (.v 5)), .true), ((.le (.v 3) (.v 5)), .true)] 0 ⟨⟨[], []⟩, [], [], []⟩ [] []) := by
  intro δ hf
  simp only [FT, TP, SB.tp, SI.tv, sta, IB.eval, and_true, true_and, ObsT, Ob.Tv, rowT, kix, In.tiv, In.tbv, get_cons, get_nil, reduceIte, Nat.reduceEqDiff, Int.reduceToNat, Int.reduceAdd, ap5, ne_eq, Bool.false_eq_true, not_true_eq_false, not_false_eq_true, FI_3, FI_7, FI_8, FI_9, FI_10, FI_11, FI_12, FI_13, FI_14, FI_15, FI_16, FI_17, FI_18, FI_19, FI_20, FI_21, FI_22, FI_23, FI_24, FI_25, FI_26, FI_27] at hf
  have a0 := ha.1 0 (by omega)
  have a1 := ha.1 1 (by omega)
  have a2 := ha.1 2 (by omega)
  have a3 := ha.1 3 (by omega)
  have a6 := ha.1 6 (by omega)
  have b0 := hin 0 (-9223372036854775808) 9223372036854775807 (by simp [lRuns, bW, b3])
  have b1 := hin 1 (-9223372036854775808) 9223372036854775807 (by simp [lRuns, bW, b3])
  have b2 := hin 2 0 18446744073709551615 (by simp [lRuns, bW, b3])
  have b3 := hin 3 0 9223372036854775807 (by simp [lRuns, bW])
  simp only [FT, TP, SB.tp, SI.tv, sta, IB.eval, and_true, true_and, ObsT, Ob.Tv, rowT, kix, In.tiv, In.tbv, get_cons, get_nil, reduceIte, Nat.reduceEqDiff, Int.reduceToNat, Int.reduceAdd, ap5, ne_eq, Bool.false_eq_true, not_true_eq_false, not_false_eq_true, FI_3, FI_7, FI_8, FI_9, FI_10, FI_11, FI_12, FI_13, FI_14, FI_15, FI_16, FI_17, FI_18, FI_19, FI_20, FI_21, FI_22, FI_23, FI_24, FI_25, FI_26, FI_27, lRuns, othT, a0, a1, a2, a3, a6] at hf ⊢
  simp [othT, o1]

set_option maxHeartbeats 1000000 in
theorem lRuns_o0_1 (kv : Nat → Nat) (iv0 : Nat → Int) (bv0 : Nat → Bool) (hin : InB lRuns.B iv0) (hF : FT (sta FI FB kv iv0 bv0) (dlt dyn0) lRuns.F) (iv : Nat → Int) (bv : Nat → Bool) (ha : Agr 7 iv0 bv0 iv bv) (hi : lRuns_inv iv0 bv0 0 iv bv) :
    LfT (sta FI FB kv) lRuns.os (lRuns_inv iv0 bv0) (lRuns_mu iv0 bv0) 0 iv bv (.fin [((.eq (.ap 3 (.ap 8 (.v 6) (.v 3) (.c 0) (.c 77) (.c 0) (.c 0)) (.v 3) (.c 0) (.c 0) (.c 0) (.c 0)) (.c 77)), .true), ((.lt (.v 3) (.op .add (.v 3) (.c 1))), .true), ((.eq (.ap 23 (.v 0) (.v 1) (.v 2) (.ap 8 (.v 6) (.v 3) (.c 0) (.c 77) (.c 0) (.c 0)) (.v 3) (.c 0)) (.ap 23 (.v 0) (.v 1) (.v 2) (.v 6) (.v 3) (.c 0))), .true), ((.eq (.ap 22 (.v 0) (.v 1) (.v 2) (.ap 8 (.v 6) (.v 3) (.c 0) (.c 77) (.c 0) (.c 0)) (.v 3) (.c 0)) (.c 0)), .true), ((.eq (.ap 27 (.v 0) (.v 1) (.v 2) (.ap 8 (.v 6) (.v 3) (.c 0) (.c 77) (.c 0) (.c 0)) (.v 3) (.c 0)) (.v 2)), .true), ((.eq (.ap 26 (.v 0) (.v 1) (.v 2) (.ap 8 (.v 6) (.v 3) (.c 0) (.c 77) (.c 0) (.c 0)) (.v 3) (.c 0)) (.v 1)), .true), ((.eq (.ap 25 (.v 0) (.v 1) (.v 2) (.ap 8 (.v 6) (.v 3) (.c 0) (.c 77) (.c 0) (.c 0)) (.v 3) (.c 0)) (.v 0)), .true), ((.eq (.ap 22 (.v 0) (.v 1) (.v 2) (.v 6) (.v 3) (.c 0)) (.c 0)), .true), ((.le (.v 2) (.c 4611686018427387904)), .true), ((.le (.v 1) (.v 0)), .true), ((.le (.v 3) (.d 1)), .true), ((.le (.op .add (.v 3) (.c 1)) (.d 1)), .true), ((.le (.v 3) (.d 0)), .true), ((.lt (.c 50) (.v 3)), .false), ((.le (.c 0) (.v 5)), .true), ((.le (.v 3) (.v 5)), .true)] 0 ⟨⟨[], []⟩, [], [], []⟩ [] []) := by
  intro δ hf
  simp only [FT, TP, SB.tp, SI.tv, sta, IB.eval, and_true, true_and, ObsT, Ob.Tv, rowT, kix, In.tiv, In.tbv, get_cons, get_nil, reduceIte, Nat.reduceEqDiff, Int.reduceToNat, Int.reduceAdd, ap5, ne_eq, Bool.false_eq_true, not_true_eq_false, not_false_eq_true, FI_3, FI_7, FI_8, FI_9, FI_10, FI_11, FI_12, FI_13, FI_14, FI_15, FI_16, FI_17, FI_18, FI_19, FI_20, FI_21, FI_22, FI_23, FI_24, FI_25, FI_26, FI_27] at hf
  have a0 := ha.1 0 (by omega)
  have a1 := ha.1 1 (by omega)
  have a2 := ha.1 2 (by omega)
  have a3 := ha.1 3 (by omega)
  have a6 := ha.1 6 (by omega)
  have b0 := hin 0 (-9223372036854775808) 9223372036854775807 (by simp [lRuns, bW, b3])
  have b1 := hin 1 (-9223372036854775808) 9223372036854775807 (by simp [lRuns, bW, b3])
  have b2 := hin 2 0 18446744073709551615 (by simp [lRuns, bW, b3])
  have b3 := hin 3 0 9223372036854775807 (by simp [lRuns, bW])
  simp only [FT, TP, SB.tp, SI.tv, sta, IB.eval, and_true, true_and, ObsT, Ob.Tv, rowT, kix, In.tiv, In.tbv, get_cons, get_nil, reduceIte, Nat.reduceEqDiff, Int.reduceToNat, Int.reduceAdd, ap5, ne_eq, Bool.false_eq_true, not_true_eq_false, not_false_eq_true, FI_3, FI_7, FI_8, FI_9, FI_10, FI_11, FI_12, FI_13, FI_14, FI_15, FI_16, FI_17, FI_18, FI_19, FI_20, FI_21, FI_22, FI_23, FI_24, FI_25, FI_26, FI_27, lRuns, othT, a0, a1, a2, a3, a6] at hf ⊢
  simp [othT, o1]

set_option maxHeartbeats 1000000 in
theorem lRuns_o0_2 (kv : Nat → Nat) (iv0 : Nat → Int) (bv0 : Nat → Bool) (hin : InB lRuns.B iv0) (hF : FT (sta FI FB kv iv0 bv0) (dlt dyn0) lRuns.F) (iv : Nat → Int) (bv : Nat → Bool) (ha : Agr 7 iv0 bv0 iv bv) (hi : lRuns_inv iv0 bv0 0 iv bv) :
    LfT (sta FI FB kv) lRuns.os (lRuns_inv iv0 bv0) (lRuns_mu iv0 bv0) 0 iv bv (.fin [((.eq (.ap 3 (.ap 8 (.v 6) (.v 3) (.c 0) (.c 77) (.c 0) (.c 0)) (.v 3) (.c 0) (.c 0) (.c 0) (.c 0)) (.c 77)), .false), ((.lt (.v 3) (.op .add (.v 3) (.c 1))), .true), ((.eq (.ap 23 (.v 0) (.v 1) (.v 2) (.ap 8 (.v 6) (.v 3) (.c 0) (.c 77) (.c 0) (.c 0)) (.v 3) (.c 0)) (.ap 23 (.v 0) (.v 1) (.v 2) (.v 6) (.v 3) (.c 0))), .true), ((.eq (.ap 22 (.v 0) (.v 1) (.v 2) (.ap 8 (.v 6) (.v 3) (.c 0) (.c 77) (.c 0) (.c 0)) (.v 3) (.c 0)) (.c 0)), .true), ((.eq (.ap 27 (.v 0) (.v 1) (.v 2) (.ap 8 (.v 6) (.v 3) (.c 0) (.c 77) (.c 0) (.c 0)) (.v 3) (.c 0)) (.v 2)), .true), ((.eq (.ap 26 (.v 0) (.v 1) (.v 2) (.ap 8 (.v 6) (.v 3) (.c 0) (.c 77) (.c 0) (.c 0)) (.v 3) (.c 0)) (.v 1)), .true), ((.eq (.ap 25 (.v 0) (.v 1) (.v 2) (.ap 8 (.v 6) (.v 3) (.c 0) (.c 77) (.c 0) (.c 0)) (.v 3) (.c 0)) (.v 0)), .true), ((.eq (.ap 22 (.v 0) (.v 1) (.v 2) (.v 6) (.v 3) (.c 0)) (.c 0)), .true), ((.le (.v 2) (.c 4611686018427387904)), .true), ((.le (.v 1) (.v 0)), .true), ((.le (.v 3) (.d 1)), .true), ((.le (.op .add (.v 3) (.c 1)) (.d 1)), .true), ((.le (.v 3) (.d 0)), .true), ((.lt (.c 50) (.v 3)), .false), ((.le (.c 0) (.v 5)), .true), ((.le (.v 3) (.v 5)), .true)] 0 ⟨⟨[], []⟩, [], [], []⟩ [(.eb (.c .true) (.c .false))] []) := by
  intro δ hf
  simp only [FT, TP, SB.tp, SI.tv, sta, IB.eval, and_true, true_and, ObsT, Ob.Tv, rowT, kix, In.tiv, In.tbv, get_cons, get_nil, reduceIte, Nat.reduceEqDiff, Int.reduceToNat, Int.reduceAdd, ap5, ne_eq, Bool.false_eq_true, not_true_eq_false, not_false_eq_true, FI_3, FI_7, FI_8, FI_9, FI_10, FI_11, FI_12, FI_13, FI_14, FI_15, FI_16, FI_17, FI_18, FI_19, FI_20, FI_21, FI_22, FI_23, FI_24, FI_25, FI_26, FI_27] at hf
  have a0 := ha.1 0 (by omega)
  have a1 := ha.1 1 (by omega)
  have a2 := ha.1 2 (by omega)
  have a3 := ha.1 3 (by omega)
  have a6 := ha.1 6 (by omega)
  have b0 := hin 0 (-9223372036854775808) 9223372036854775807 (by simp [lRuns, bW, b3])
  have b1 := hin 1 (-9223372036854775808) 9223372036854775807 (by simp [lRuns, bW, b3])
  have b2 := hin 2 0 18446744073709551615 (by simp [lRuns, bW, b3])
  have b3 := hin 3 0 9223372036854775807 (by simp [lRuns, bW])
  simp only [FT, TP, SB.tp, SI.tv, sta, IB.eval, and_true, true_and, ObsT, Ob.Tv, rowT, kix, In.tiv, In.tbv, get_cons, get_nil, reduceIte, Nat.reduceEqDiff, Int.reduceToNat, Int.reduceAdd, ap5, ne_eq, Bool.false_eq_true, not_true_eq_false, not_false_eq_true, FI_3, FI_7, FI_8, FI_9, FI_10, FI_11, FI_12, FI_13, FI_14, FI_15, FI_16, FI_17, FI_18, FI_19, FI_20, FI_21, FI_22, FI_23, FI_24, FI_25, FI_26, FI_27, lRuns, othT, a0, a1, a2, a3, a6] at hf ⊢
  obtain ⟨s1, s2, s3⟩ := run_same (iv0 0) (iv0 1) (iv0 2) (iv0 6) (iv0 3) 77 b3.1
  obtain ⟨w0, w1, w2⟩ := wraps b0 b1 b2
  have hl := M_len (v := iv0 0) (f := iv0 1) (r := iv0 2) (c := iv0 6) b3.1
  try simp only [s1, s2, s3, gt_setI, if_true, and_self, Int.reduceToNat, wrap77, not_true_eq_false, false_and, and_false] at hf
  all_goals (exfalso; rcases Nat.eq_zero_or_pos (M (iv0 0) (iv0 1) (iv0 2) (iv0 6) (iv0 3)) with hm | hm)
  all_goals (try obtain ⟨l0, l1, l2⟩ := want_last (iv0 0, iv0 1, iv0 2) (iv0 6) hm)
  all_goals (try simp only [l0, l1, l2, not_true_eq_false, false_and, and_false] at hf)
  all_goals (try simp only [hm, seq, w0, w1, w2, not_true_eq_false, false_and, and_false, Int.natCast_zero] at hf)
  all_goals omega

set_option maxHeartbeats 1000000 in
theorem lRuns_o0_3 (kv : Nat → Nat) (iv0 : Nat → Int) (bv0 : Nat → Bool) (hin : InB lRuns.B iv0) (hF : FT (sta FI FB kv iv0 bv0) (dlt dyn0) lRuns.F) (iv : Nat → Int) (bv : Nat → Bool) (ha : Agr 7 iv0 bv0 iv bv) (hi : lRuns_inv iv0 bv0 0 iv bv) :
    LfT (sta FI FB kv) lRuns.os (lRuns_inv iv0 bv0) (lRuns_mu iv0 bv0) 0 iv bv (.bad [((.lt (.v 3) (.op .add (.v 3) (.c 1))), .false), ((.eq (.ap 23 (.v 0) (.v 1) (.v 2) (.ap 8 (.v 6) (.v 3) (.c 0) (.c 77) (.c 0) (.c 0)) (.v 3) (.c 0)) (.ap 23 (.v 0) (.v 1) (.v 2) (.v 6) (.v 3) (.c 0))), .true), ((.eq (.ap 22 (.v 0) (.v 1) (.v 2) (.ap 8 (.v 6) (.v 3) (.c 0) (.c 77) (.c 0) (.c 0)) (.v 3) (.c 0)) (.c 0)), .true), ((.eq (.ap 27 (.v 0) (.v 1) (.v 2) (.ap 8 (.v 6) (.v 3) (.c 0) (.c 77) (.c 0) (.c 0)) (.v 3) (.c 0)) (.v 2)), .true), ((.eq (.ap 26 (.v 0) (.v 1) (.v 2) (.ap 8 (.v 6) (.v 3) (.c 0) (.c 77) (.c 0) (.c 0)) (.v 3) (.c 0)) (.v 1)), .true), ((.eq (.ap 25 (.v 0) (.v 1) (.v 2) (.ap 8 (.v 6) (.v 3) (.c 0) (.c 77) (.c 0) (.c 0)) (.v 3) (.c 0)) (.v 0)), .true), ((.eq (.ap 22 (.v 0) (.v 1) (.v 2) (.v 6) (.v 3) (.c 0)) (.c 0)), .true), ((.le (.v 2) (.c 4611686018427387904)), .true), ((.le (.v 1) (.v 0)), .true), ((.le (.v 3) (.d 1)), .true), ((.le (.op .add (.v 3) (.c 1)) (.d 1)), .true), ((.le (.v 3) (.d 0)), .true), ((.lt (.c 50) (.v 3)), .false), ((.le (.c 0) (.v 5)), .true), ((.le (.v 3) (.v 5)), .true)]) := by
  intro δ hf
  simp only [FT, TP, SB.tp, SI.tv, sta, IB.eval, and_true, true_and, ObsT, Ob.Tv, rowT, kix, In.tiv, In.tbv, get_cons, get_nil, reduceIte, Nat.reduceEqDiff, Int.reduceToNat, Int.reduceAdd, ap5, ne_eq, Bool.false_eq_true, not_true_eq_false, not_false_eq_true, FI_3, FI_7, FI_8, FI_9, FI_10, FI_11, FI_12, FI_13, FI_14, FI_15, FI_16, FI_17, FI_18, FI_19, FI_20, FI_21, FI_22, FI_23, FI_24, FI_25, FI_26, FI_27] at hf
  have a0 := ha.1 0 (by omega)
  have a1 := ha.1 1 (by omega)
  have a2 := ha.1 2 (by omega)
  have a3 := ha.1 3 (by omega)
  have a6 := ha.1 6 (by omega)
  have b0 := hin 0 (-9223372036854775808) 9223372036854775807 (by simp [lRuns, bW, b3])
  have b1 := hin 1 (-9223372036854775808) 9223372036854775807 (by simp [lRuns, bW, b3])
  have b2 := hin 2 0 18446744073709551615 (by simp [lRuns, bW, b3])
  have b3 := hin 3 0 9223372036854775807 (by simp [lRuns, bW])
  simp only [FT, TP, SB.tp, SI.tv, sta, IB.eval, and_true, true_and, ObsT, Ob.Tv, rowT, kix, In.tiv, In.tbv, get_cons, get_nil, reduceIte, Nat.reduceEqDiff, Int.reduceToNat, Int.reduceAdd, ap5, ne_eq, Bool.false_eq_true, not_true_eq_false, not_false_eq_true, FI_3, FI_7, FI_8, FI_9, FI_10, FI_11, FI_12, FI_13, FI_14, FI_15, FI_16, FI_17, FI_18, FI_19, FI_20, FI_21, FI_22, FI_23, FI_24, FI_25, FI_26, FI_27, lRuns, othT, a0, a1, a2, a3, a6] at hf ⊢
  obtain ⟨s1, s2, s3⟩ := run_same (iv0 0) (iv0 1) (iv0 2) (iv0 6) (iv0 3) 77 b3.1
  obtain ⟨w0, w1, w2⟩ := wraps b0 b1 b2
  have hl := M_len (v := iv0 0) (f := iv0 1) (r := iv0 2) (c := iv0 6) b3.1
  try simp only [s1, s2, s3, gt_setI, if_true, and_self, Int.reduceToNat, wrap77, not_true_eq_false, false_and, and_false] at hf
  all_goals (exfalso; rcases Nat.eq_zero_or_pos (M (iv0 0) (iv0 1) (iv0 2) (iv0 6) (iv0 3)) with hm | hm)
  all_goals (try obtain ⟨l0, l1, l2⟩ := want_last (iv0 0, iv0 1, iv0 2) (iv0 6) hm)
  all_goals (try simp only [l0, l1, l2, not_true_eq_false, false_and, and_false] at hf)
  all_goals (try simp only [hm, seq, w0, w1, w2, not_true_eq_false, false_and, and_false, Int.natCast_zero] at hf)
  all_goals omega

set_option maxHeartbeats 1000000 in
theorem lRuns_o0_4 (kv : Nat → Nat) (iv0 : Nat → Int) (bv0 : Nat → Bool) (hin : InB lRuns.B iv0) (hF : FT (sta FI FB kv iv0 bv0) (dlt dyn0) lRuns.F) (iv : Nat → Int) (bv : Nat → Bool) (ha : Agr 7 iv0 bv0 iv bv) (hi : lRuns_inv iv0 bv0 0 iv bv) :
    LfT (sta FI FB kv) lRuns.os (lRuns_inv iv0 bv0) (lRuns_mu iv0 bv0) 0 iv bv (.fin [((.eq (.ap 23 (.v 0) (.v 1) (.v 2) (.ap 8 (.v 6) (.v 3) (.c 0) (.c 77) (.c 0) (.c 0)) (.v 3) (.c 0)) (.ap 23 (.v 0) (.v 1) (.v 2) (.v 6) (.v 3) (.c 0))), .false), ((.eq (.ap 22 (.v 0) (.v 1) (.v 2) (.ap 8 (.v 6) (.v 3) (.c 0) (.c 77) (.c 0) (.c 0)) (.v 3) (.c 0)) (.c 0)), .true), ((.eq (.ap 27 (.v 0) (.v 1) (.v 2) (.ap 8 (.v 6) (.v 3) (.c 0) (.c 77) (.c 0) (.c 0)) (.v 3) (.c 0)) (.v 2)), .true), ((.eq (.ap 26 (.v 0) (.v 1) (.v 2) (.ap 8 (.v 6) (.v 3) (.c 0) (.c 77) (.c 0) (.c 0)) (.v 3) (.c 0)) (.v 1)), .true), ((.eq (.ap 25 (.v 0) (.v 1) (.v 2) (.ap 8 (.v 6) (.v 3) (.c 0) (.c 77) (.c 0) (.c 0)) (.v 3) (.c 0)) (.v 0)), .true), ((.eq (.ap 22 (.v 0) (.v 1) (.v 2) (.v 6) (.v 3) (.c 0)) (.c 0)), .true), ((.le (.v 2) (.c 4611686018427387904)), .true), ((.le (.v 1) (.v 0)), .true), ((.le (.v 3) (.d 1)), .true), ((.le (.op .add (.v 3) (.c 1)) (.d 1)), .true), ((.le (.v 3) (.d 0)), .true), ((.lt (.c 50) (.v 3)), .false), ((.le (.c 0) (.v 5)), .true), ((.le (.v 3) (.v 5)), .true)] 0 ⟨⟨[], []⟩, [], [], []⟩ [(.eb (.c .true) (.c .false))] []) := by
  intro δ hf
  simp only [FT, TP, SB.tp, SI.tv, sta, IB.eval, and_true, true_and, ObsT, Ob.Tv, rowT, kix, In.tiv, In.tbv, get_cons, get_nil, reduceIte, Nat.reduceEqDiff, Int.reduceToNat, Int.reduceAdd, ap5, ne_eq, Bool.false_eq_true, not_true_eq_false, not_false_eq_true, FI_3, FI_7, FI_8, FI_9, FI_10, FI_11, FI_12, FI_13, FI_14, FI_15, FI_16, FI_17, FI_18, FI_19, FI_20, FI_21, FI_22, FI_23, FI_24, FI_25, FI_26, FI_27] at hf
  have a0 := ha.1 0 (by omega)
  have a1 := ha.1 1 (by omega)
  have a2 := ha.1 2 (by omega)
  have a3 := ha.1 3 (by omega)
  have a6 := ha.1 6 (by omega)
  have b0 := hin 0 (-9223372036854775808) 9223372036854775807 (by simp [lRuns, bW, b3])
  have b1 := hin 1 (-9223372036854775808) 9223372036854775807 (by simp [lRuns, bW, b3])
  have b2 := hin 2 0 18446744073709551615 (by simp [lRuns, bW, b3])
  have b3 := hin 3 0 9223372036854775807 (by simp [lRuns, bW])
  simp only [FT, TP, SB.tp, SI.tv, sta, IB.eval, and_true, true_and, ObsT, Ob.Tv, rowT, kix, In.tiv, In.tbv, get_cons, get_nil, reduceIte, Nat.reduceEqDiff, Int.reduceToNat, Int.reduceAdd, ap5, ne_eq, Bool.false_eq_true, not_true_eq_false, not_false_eq_true, FI_3, FI_7, FI_8, FI_9, FI_10, FI_11, FI_12, FI_13, FI_14, FI_15, FI_16, FI_17, FI_18, FI_19, FI_20, FI_21, FI_22, FI_23, FI_24, FI_25, FI_26, FI_27, lRuns, othT, a0, a1, a2, a3, a6] at hf ⊢
  obtain ⟨s1, s2, s3⟩ := run_same (iv0 0) (iv0 1) (iv0 2) (iv0 6) (iv0 3) 77 b3.1
  obtain ⟨w0, w1, w2⟩ := wraps b0 b1 b2
  have hl := M_len (v := iv0 0) (f := iv0 1) (r := iv0 2) (c := iv0 6) b3.1
  try simp only [s1, s2, s3, gt_setI, if_true, and_self, Int.reduceToNat, wrap77, not_true_eq_false, false_and, and_false] at hf
  all_goals (exfalso; rcases Nat.eq_zero_or_pos (M (iv0 0) (iv0 1) (iv0 2) (iv0 6) (iv0 3)) with hm | hm)
  all_goals (try obtain ⟨l0, l1, l2⟩ := want_last (iv0 0, iv0 1, iv0 2) (iv0 6) hm)
  all_goals (try simp only [l0, l1, l2, not_true_eq_false, false_and, and_false] at hf)
  all_goals (try simp only [hm, seq, w0, w1, w2, not_true_eq_false, false_and, and_false, Int.natCast_zero] at hf)
  all_goals omega

set_option maxHeartbeats 1000000 in
theorem lRuns_o0_5 (kv : Nat → Nat) (iv0 : Nat → Int) (bv0 : Nat → Bool) (hin : InB lRuns.B iv0) (hF : FT (sta FI FB kv iv0 bv0) (dlt dyn0) lRuns.F) (iv : Nat → Int) (bv : Nat → Bool) (ha : Agr 7 iv0 bv0 iv bv) (hi : lRuns_inv iv0 bv0 0 iv bv) :
    LfT (sta FI FB kv) lRuns.os (lRuns_inv iv0 bv0) (lRuns_mu iv0 bv0) 0 iv bv (.fin [((.eq (.ap 22 (.v 0) (.v 1) (.v 2) (.ap 8 (.v 6) (.v 3) (.c 0) (.c 77) (.c 0) (.c 0)) (.v 3) (.c 0)) (.c 0)), .false), ((.eq (.ap 27 (.v 0) (.v 1) (.v 2) (.ap 8 (.v 6) (.v 3) (.c 0) (.c 77) (.c 0) (.c 0)) (.v 3) (.c 0)) (.v 2)), .true), ((.eq (.ap 26 (.v 0) (.v 1) (.v 2) (.ap 8 (.v 6) (.v 3) (.c 0) (.c 77) (.c 0) (.c 0)) (.v 3) (.c 0)) (.v 1)), .true), ((.eq (.ap 25 (.v 0) (.v 1) (.v 2) (.ap 8 (.v 6) (.v 3) (.c 0) (.c 77) (.c 0) (.c 0)) (.v 3) (.c 0)) (.v 0)), .true), ((.eq (.ap 22 (.v 0) (.v 1) (.v 2) (.v 6) (.v 3) (.c 0)) (.c 0)), .true), ((.le (.v 2) (.c 4611686018427387904)), .true), ((.le (.v 1) (.v 0)), .true), ((.le (.v 3) (.d 1)), .true), ((.le (.op .add (.v 3) (.c 1)) (.d 1)), .true), ((.le (.v 3) (.d 0)), .true), ((.lt (.c 50) (.v 3)), .false), ((.le (.c 0) (.v 5)), .true), ((.le (.v 3) (.v 5)), .true)] 0 ⟨⟨[], []⟩, [], [], []⟩ [(.eb (.c .true) (.c .false))] []) := by
  intro δ hf
  simp only [FT, TP, SB.tp, SI.tv, sta, IB.eval, and_true, true_and, ObsT, Ob.Tv, rowT, kix, In.tiv, In.tbv, get_cons, get_nil, reduceIte, Nat.reduceEqDiff, Int.reduceToNat, Int.reduceAdd, ap5, ne_eq, Bool.false_eq_true, not_true_eq_false, not_false_eq_true, FI_3, FI_7, FI_8, FI_9, FI_10, FI_11, FI_12, FI_13, FI_14, FI_15, FI_16, FI_17, FI_18, FI_19, FI_20, FI_21, FI_22, FI_23, FI_24, FI_25, FI_26, FI_27] at hf
  have a0 := ha.1 0 (by omega)
  have a1 := ha.1 1 (by omega)
  have a2 := ha.1 2 (by omega)
  have a3 := ha.1 3 (by omega)
  have a6 := ha.1 6 (by omega)
  have b0 := hin 0 (-9223372036854775808) 9223372036854775807 (by simp [lRuns, bW, b3])
  have b1 := hin 1 (-9223372036854775808) 9223372036854775807 (by simp [lRuns, bW, b3])
  have b2 := hin 2 0 18446744073709551615 (by simp [lRuns, bW, b3])
  have b3 := hin 3 0 9223372036854775807 (by simp [lRuns, bW])
  simp only [FT, TP, SB.tp, SI.tv, sta, IB.eval, and_true, true_and, ObsT, Ob.Tv, rowT, kix, In.tiv, In.tbv, get_cons, get_nil, reduceIte, Nat.reduceEqDiff, Int.reduceToNat, Int.reduceAdd, ap5, ne_eq, Bool.false_eq_true, not_true_eq_false, not_false_eq_true, FI_3, FI_7, FI_8, FI_9, FI_10, FI_11, FI_12, FI_13, FI_14, FI_15, FI_16, FI_17, FI_18, FI_19, FI_20, FI_21, FI_22, FI_23, FI_24, FI_25, FI_26, FI_27, lRuns, othT, a0, a1, a2, a3, a6] at hf ⊢
  obtain ⟨s1, s2, s3⟩ := run_same (iv0 0) (iv0 1) (iv0 2) (iv0 6) (iv0 3) 77 b3.1
  obtain ⟨w0, w1, w2⟩ := wraps b0 b1 b2
  have hl := M_len (v := iv0 0) (f := iv0 1) (r := iv0 2) (c := iv0 6) b3.1
  try simp only [s1, s2, s3, gt_setI, if_true, and_self, Int.reduceToNat, wrap77, not_true_eq_false, false_and, and_false] at hf
  all_goals (exfalso; rcases Nat.eq_zero_or_pos (M (iv0 0) (iv0 1) (iv0 2) (iv0 6) (iv0 3)) with hm | hm)
  all_goals (try obtain ⟨l0, l1, l2⟩ := want_last (iv0 0, iv0 1, iv0 2) (iv0 6) hm)
  all_goals (try simp only [l0, l1, l2, not_true_eq_false, false_and, and_false] at hf)
  all_goals (try simp only [hm, seq, w0, w1, w2, not_true_eq_false, false_and, and_false, Int.natCast_zero] at hf)
  all_goals omega

set_option maxHeartbeats 1000000 in
theorem lRuns_o0_6 (kv : Nat → Nat) (iv0 : Nat → Int) (bv0 : Nat → Bool) (hin : InB lRuns.B iv0) (hF : FT (sta FI FB kv iv0 bv0) (dlt dyn0) lRuns.F) (iv : Nat → Int) (bv : Nat → Bool) (ha : Agr 7 iv0 bv0 iv bv) (hi : lRuns_inv iv0 bv0 0 iv bv) :
    LfT (sta FI FB kv) lRuns.os (lRuns_inv iv0 bv0) (lRuns_mu iv0 bv0) 0 iv bv (.fin [((.eq (.ap 27 (.v 0) (.v 1) (.v 2) (.ap 8 (.v 6) (.v 3) (.c 0) (.c 77) (.c 0) (.c 0)) (.v 3) (.c 0)) (.v 2)), .false), ((.eq (.ap 26 (.v 0) (.v 1) (.v 2) (.ap 8 (.v 6) (.v 3) (.c 0) (.c 77) (.c 0) (.c 0)) (.v 3) (.c 0)) (.v 1)), .true), ((.eq (.ap 25 (.v 0) (.v 1) (.v 2) (.ap 8 (.v 6) (.v 3) (.c 0) (.c 77) (.c 0) (.c 0)) (.v 3) (.c 0)) (.v 0)), .true), ((.eq (.ap 22 (.v 0) (.v 1) (.v 2) (.v 6) (.v 3) (.c 0)) (.c 0)), .true), ((.le (.v 2) (.c 4611686018427387904)), .true), ((.le (.v 1) (.v 0)), .true), ((.le (.v 3) (.d 1)), .true), ((.le (.op .add (.v 3) (.c 1)) (.d 1)), .true), ((.le (.v 3) (.d 0)), .true), ((.lt (.c 50) (.v 3)), .false), ((.le (.c 0) (.v 5)), .true), ((.le (.v 3) (.v 5)), .true)] 0 ⟨⟨[], []⟩, [], [], []⟩ [(.eb (.c .true) (.c .false))] []) := by
  intro δ hf
  simp only [FT, TP, SB.tp, SI.tv, sta, IB.eval, and_true, true_and, ObsT, Ob.Tv, rowT, kix, In.tiv, In.tbv, get_cons, get_nil, reduceIte, Nat.reduceEqDiff, Int.reduceToNat, Int.reduceAdd, ap5, ne_eq, Bool.false_eq_true, not_true_eq_false, not_false_eq_true, FI_3, FI_7, FI_8, FI_9, FI_10, FI_11, FI_12, FI_13, FI_14, FI_15, FI_16, FI_17, FI_18, FI_19, FI_20, FI_21, FI_22, FI_23, FI_24, FI_25, FI_26, FI_27] at hf
  have a0 := ha.1 0 (by omega)
  have a1 := ha.1 1 (by omega)
  have a2 := ha.1 2 (by omega)
  have a3 := ha.1 3 (by omega)
  have a6 := ha.1 6 (by omega)
  have b0 := hin 0 (-9223372036854775808) 9223372036854775807 (by simp [lRuns, bW, b3])
  have b1 := hin 1 (-9223372036854775808) 9223372036854775807 (by simp [lRuns, bW, b3])
  have b2 := hin 2 0 18446744073709551615 (by simp [lRuns, bW, b3])
  have b3 := hin 3 0 9223372036854775807 (by simp [lRuns, bW])
  simp only [FT, TP, SB.tp, SI.tv, sta, IB.eval, and_true, true_and, ObsT, Ob.Tv, rowT, kix, In.tiv, In.tbv, get_cons, get_nil, reduceIte, Nat.reduceEqDiff, Int.reduceToNat, Int.reduceAdd, ap5, ne_eq, Bool.false_eq_true, not_true_eq_false, not_false_eq_true, FI_3, FI_7, FI_8, FI_9, FI_10, FI_11, FI_12, FI_13, FI_14, FI_15, FI_16, FI_17, FI_18, FI_19, FI_20, FI_21, FI_22, FI_23, FI_24, FI_25, FI_26, FI_27, lRuns, othT, a0, a1, a2, a3, a6] at hf ⊢
  obtain ⟨s1, s2, s3⟩ := run_same (iv0 0) (iv0 1) (iv0 2) (iv0 6) (iv0 3) 77 b3.1
  obtain ⟨w0, w1, w2⟩ := wraps b0 b1 b2
  have hl := M_len (v := iv0 0) (f := iv0 1) (r := iv0 2) (c := iv0 6) b3.1
  try simp only [s1, s2, s3, gt_setI, if_true, and_self, Int.reduceToNat, wrap77, not_true_eq_false, false_and, and_false] at hf
  all_goals (exfalso; rcases Nat.eq_zero_or_pos (M (iv0 0) (iv0 1) (iv0 2) (iv0 6) (iv0 3)) with hm | hm)
  all_goals (try obtain ⟨l0, l1, l2⟩ := want_last (iv0 0, iv0 1, iv0 2) (iv0 6) hm)
  all_goals (try simp only [l0, l1, l2, not_true_eq_false, false_and, and_false] at hf)
  all_goals (try simp only [hm, seq, w0, w1, w2, not_true_eq_false, false_and, and_false, Int.natCast_zero] at hf)
  all_goals omega

set_option maxHeartbeats 1000000 in
theorem lRuns_o0_7 (kv : Nat → Nat) (iv0 : Nat → Int) (bv0 : Nat → Bool) (hin : InB lRuns.B iv0) (hF : FT (sta FI FB kv iv0 bv0) (dlt dyn0) lRuns.F) (iv : Nat → Int) (bv : Nat → Bool) (ha : Agr 7 iv0 bv0 iv bv) (hi : lRuns_inv iv0 bv0 0 iv bv) :
    LfT (sta FI FB kv) lRuns.os (lRuns_inv iv0 bv0) (lRuns_mu iv0 bv0) 0 iv bv (.fin [((.eq (.ap 26 (.v 0) (.v 1) (.v 2) (.ap 8 (.v 6) (.v 3) (.c 0) (.c 77) (.c 0) (.c 0)) (.v 3) (.c 0)) (.v 1)), .false), ((.eq (.ap 25 (.v 0) (.v 1) (.v 2) (.ap 8 (.v 6) (.v 3) (.c 0) (.c 77) (.c 0) (.c 0)) (.v 3) (.c 0)) (.v 0)), .true), ((.eq (.ap 22 (.v 0) (.v 1) (.v 2) (.v 6) (.v 3) (.c 0)) (.c 0)), .true), ((.le (.v 2) (.c 4611686018427387904)), .true), ((.le (.v 1) (.v 0)), .true), ((.le (.v 3) (.d 1)), .true), ((.le (.op .add (.v 3) (.c 1)) (.d 1)), .true), ((.le (.v 3) (.d 0)), .true), ((.lt (.c 50) (.v 3)), .false), ((.le (.c 0) (.v 5)), .true), ((.le (.v 3) (.v 5)), .true)] 0 ⟨⟨[], []⟩, [], [], []⟩ [(.eb (.c .true) (.c .false))] []) := by
  intro δ hf
  simp only [FT, TP, SB.tp, SI.tv, sta, IB.eval, and_true, true_and, ObsT, Ob.Tv, rowT, kix, In.tiv, In.tbv, get_cons, get_nil, reduceIte, Nat.reduceEqDiff, Int.reduceToNat, Int.reduceAdd, ap5, ne_eq, Bool.false_eq_true, not_true_eq_false, not_false_eq_true, FI_3, FI_7, FI_8, FI_9, FI_10, FI_11, FI_12, FI_13, FI_14, FI_15, FI_16, FI_17, FI_18, FI_19, FI_20, FI_21, FI_22, FI_23, FI_24, FI_25, FI_26, FI_27] at hf
  have a0 := ha.1 0 (by omega)
  have a1 := ha.1 1 (by omega)
  have a2 := ha.1 2 (by omega)
  have a3 := ha.1 3 (by omega)
  have a6 := ha.1 6 (by omega)
  have b0 := hin 0 (-9223372036854775808) 9223372036854775807 (by simp [lRuns, bW, b3])
  have b1 := hin 1 (-9223372036854775808) 9223372036854775807 (by simp [lRuns, bW, b3])
  have b2 := hin 2 0 18446744073709551615 (by simp [lRuns, bW, b3])
  have b3 := hin 3 0 9223372036854775807 (by simp [lRuns, bW])
  simp only [FT, TP, SB.tp, SI.tv, sta, IB.eval, and_true, true_and, ObsT, Ob.Tv, rowT, kix, In.tiv, In.tbv, get_cons, get_nil, reduceIte, Nat.reduceEqDiff, Int.reduceToNat, Int.reduceAdd, ap5, ne_eq, Bool.false_eq_true, not_true_eq_false, not_false_eq_true, FI_3, FI_7, FI_8, FI_9, FI_10, FI_11, FI_12, FI_13, FI_14, FI_15, FI_16, FI_17, FI_18, FI_19, FI_20, FI_21, FI_22, FI_23, FI_24, FI_25, FI_26, FI_27, lRuns, othT, a0, a1, a2, a3, a6] at hf ⊢
  obtain ⟨s1, s2, s3⟩ := run_same (iv0 0) (iv0 1) (iv0 2) (iv0 6) (iv0 3) 77 b3.1
  obtain ⟨w0, w1, w2⟩ := wraps b0 b1 b2
  have hl := M_len (v := iv0 0) (f := iv0 1) (r := iv0 2) (c := iv0 6) b3.1
  try simp only [s1, s2, s3, gt_setI, if_true, and_self, Int.reduceToNat, wrap77, not_true_eq_false, false_and, and_false] at hf
  all_goals (exfalso; rcases Nat.eq_zero_or_pos (M (iv0 0) (iv0 1) (iv0 2) (iv0 6) (iv0 3)) with hm | hm)
  all_goals (try obtain ⟨l0, l1, l2⟩ := want_last (iv0 0, iv0 1, iv0 2) (iv0 6) hm)
  all_goals (try simp only [l0, l1, l2, not_true_eq_false, false_and, and_false] at hf)
  all_goals (try simp only [hm, seq, w0, w1, w2, not_true_eq_false, false_and, and_false, Int.natCast_zero] at hf)
  all_goals omega

set_option maxHeartbeats 1000000 in
theorem lRuns_o0_8 (kv : Nat → Nat) (iv0 : Nat → Int) (bv0 : Nat → Bool) (hin : InB lRuns.B iv0) (hF : FT (sta FI FB kv iv0 bv0) (dlt dyn0) lRuns.F) (iv : Nat → Int) (bv : Nat → Bool) (ha : Agr 7 iv0 bv0 iv bv) (hi : lRuns_inv iv0 bv0 0 iv bv) :
    LfT (sta FI FB kv) lRuns.os (lRuns_inv iv0 bv0) (lRuns_mu iv0 bv0) 0 iv bv (.fin [((.eq (.ap 25 (.v 0) (.v 1) (.v 2) (.ap 8 (.v 6) (.v 3) (.c 0) (.c 77) (.c 0) (.c 0)) (.v 3) (.c 0)) (.v 0)), .false), ((.eq (.ap 22 (.v 0) (.v 1) (.v 2) (.v 6) (.v 3) (.c 0)) (.c 0)), .true), ((.le (.v 2) (.c 4611686018427387904)), .true), ((.le (.v 1) (.v 0)), .true), ((.le (.v 3) (.d 1)), .true), ((.le (.op .add (.v 3) (.c 1)) (.d 1)), .true), ((.le (.v 3) (.d 0)), .true), ((.lt (.c 50) (.v 3)), .false), ((.le (.c 0) (.v 5)), .true), ((.le (.v 3) (.v 5)), .true)] 0 ⟨⟨[], []⟩, [], [], []⟩ [(.eb (.c .true) (.c .false))] []) := by
  intro δ hf
  simp only [FT, TP, SB.tp, SI.tv, sta, IB.eval, and_true, true_and, ObsT, Ob.Tv, rowT, kix, In.tiv, In.tbv, get_cons, get_nil, reduceIte, Nat.reduceEqDiff, Int.reduceToNat, Int.reduceAdd, ap5, ne_eq, Bool.false_eq_true, not_true_eq_false, not_false_eq_true, FI_3, FI_7, FI_8, FI_9, FI_10, FI_11, FI_12, FI_13, FI_14, FI_15, FI_16, FI_17, FI_18, FI_19, FI_20, FI_21, FI_22, FI_23, FI_24, FI_25, FI_26, FI_27] at hf
  have a0 := ha.1 0 (by omega)
  have a1 := ha.1 1 (by omega)
  have a2 := ha.1 2 (by omega)
  have a3 := ha.1 3 (by omega)
  have a6 := ha.1 6 (by omega)
  have b0 := hin 0 (-9223372036854775808) 9223372036854775807 (by simp [lRuns, bW, b3])
  have b1 := hin 1 (-9223372036854775808) 9223372036854775807 (by simp [lRuns, bW, b3])
  have b2 := hin 2 0 18446744073709551615 (by simp [lRuns, bW, b3])
  have b3 := hin 3 0 9223372036854775807 (by simp [lRuns, bW])
  simp only [FT, TP, SB.tp, SI.tv, sta, IB.eval, and_true, true_and, ObsT, Ob.Tv, rowT, kix, In.tiv, In.tbv, get_cons, get_nil, reduceIte, Nat.reduceEqDiff, Int.reduceToNat, Int.reduceAdd, ap5, ne_eq, Bool.false_eq_true, not_true_eq_false, not_false_eq_true, FI_3, FI_7, FI_8, FI_9, FI_10, FI_11, FI_12, FI_13, FI_14, FI_15, FI_16, FI_17, FI_18, FI_19, FI_20, FI_21, FI_22, FI_23, FI_24, FI_25, FI_26, FI_27, lRuns, othT, a0, a1, a2, a3, a6] at hf ⊢
  obtain ⟨s1, s2, s3⟩ := run_same (iv0 0) (iv0 1) (iv0 2) (iv0 6) (iv0 3) 77 b3.1
  obtain ⟨w0, w1, w2⟩ := wraps b0 b1 b2
  have hl := M_len (v := iv0 0) (f := iv0 1) (r := iv0 2) (c := iv0 6) b3.1
  try simp only [s1, s2, s3, gt_setI, if_true, and_self, Int.reduceToNat, wrap77, not_true_eq_false, false_and, and_false] at hf
  all_goals (exfalso; rcases Nat.eq_zero_or_pos (M (iv0 0) (iv0 1) (iv0 2) (iv0 6) (iv0 3)) with hm | hm)
  all_goals (try obtain ⟨l0, l1, l2⟩ := want_last (iv0 0, iv0 1, iv0 2) (iv0 6) hm)
  all_goals (try simp only [l0, l1, l2, not_true_eq_false, false_and, and_false] at hf)
  all_goals (try simp only [hm, seq, w0, w1, w2, not_true_eq_false, false_and, and_false, Int.natCast_zero] at hf)
  all_goals omega

set_option maxHeartbeats 1000000 in
theorem lRuns_o0_9 (kv : Nat → Nat) (iv0 : Nat → Int) (bv0 : Nat → Bool) (hin : InB lRuns.B iv0) (hF : FT (sta FI FB kv iv0 bv0) (dlt dyn0) lRuns.F) (iv : Nat → Int) (bv : Nat → Bool) (ha : Agr 7 iv0 bv0 iv bv) (hi : lRuns_inv iv0 bv0 0 iv bv) :
    LfT (sta FI FB kv) lRuns.os (lRuns_inv iv0 bv0) (lRuns_mu iv0 bv0) 0 iv bv (.fin [((.eq (.ap 3 (.ap 8 (.v 6) (.v 3) (.c 0) (.c 77) (.c 0) (.c 0)) (.v 3) (.c 0) (.c 0) (.c 0) (.c 0)) (.c 77)), .true), ((.lt (.v 3) (.op .add (.v 3) (.c 1))), .true), ((.eq (.ap 23 (.v 0) (.v 1) (.v 2) (.ap 8 (.v 6) (.v 3) (.c 0) (.c 77) (.c 0) (.c 0)) (.v 3) (.c 0)) (.ap 23 (.v 0) (.v 1) (.v 2) (.v 6) (.v 3) (.c 0))), .true), ((.eq (.ap 22 (.v 0) (.v 1) (.v 2) (.ap 8 (.v 6) (.v 3) (.c 0) (.c 77) (.c 0) (.c 0)) (.v 3) (.c 0)) (.ap 22 (.v 0) (.v 1) (.v 2) (.v 6) (.v 3) (.c 0))), .true), ((.eq (.ap 27 (.v 0) (.v 1) (.v 2) (.ap 8 (.v 6) (.v 3) (.c 0) (.c 77) (.c 0) (.c 0)) (.v 3) (.c 0)) (.ap 7 (.ap 24 (.v 0) (.v 1) (.v 2) (.v 6) (.v 3) (.c 0)) (.op .add (.ap 22 (.v 0) (.v 1) (.v 2) (.v 6) (.v 3) (.c 0)) (.c (-1))) (.c 2) (.c 0) (.c 0) (.c 0))), .true), ((.eq (.ap 26 (.v 0) (.v 1) (.v 2) (.ap 8 (.v 6) (.v 3) (.c 0) (.c 77) (.c 0) (.c 0)) (.v 3) (.c 0)) (.ap 3 (.ap 24 (.v 0) (.v 1) (.v 2) (.v 6) (.v 3) (.c 0)) (.op .add (.ap 22 (.v 0) (.v 1) (.v 2) (.v 6) (.v 3) (.c 0)) (.c (-1))) (.c 1) (.c 0) (.c 0) (.c 0))), .true), ((.eq (.ap 25 (.v 0) (.v 1) (.v 2) (.ap 8 (.v 6) (.v 3) (.c 0) (.c 77) (.c 0) (.c 0)) (.v 3) (.c 0)) (.ap 3 (.ap 24 (.v 0) (.v 1) (.v 2) (.v 6) (.v 3) (.c 0)) (.op .add (.ap 22 (.v 0) (.v 1) (.v 2) (.v 6) (.v 3) (.c 0)) (.c (-1))) (.c 0) (.c 0) (.c 0) (.c 0))), .true), ((.lt (.op .add (.ap 22 (.v 0) (.v 1) (.v 2) (.v 6) (.v 3) (.c 0)) (.c (-1))) (.ap 22 (.v 0) (.v 1) (.v 2) (.v 6) (.v 3) (.c 0))), .true), ((.le (.c 0) (.op .add (.ap 22 (.v 0) (.v 1) (.v 2) (.v 6) (.v 3) (.c 0)) (.c (-1)))), .true), ((.lt (.c 0) (.ap 22 (.v 0) (.v 1) (.v 2) (.v 6) (.v 3) (.c 0))), .true), ((.le (.ap 22 (.v 0) (.v 1) (.v 2) (.v 6) (.v 3) (.c 0)) (.d 2)), .true), ((.eq (.ap 22 (.v 0) (.v 1) (.v 2) (.v 6) (.v 3) (.c 0)) (.c 0)), .false), ((.le (.v 2) (.c 4611686018427387904)), .true), ((.le (.v 1) (.v 0)), .true), ((.le (.v 3) (.d 1)), .true), ((.le (.op .add (.v 3) (.c 1)) (.d 1)), .true), ((.le (.v 3) (.d 0)), .true), ((.lt (.c 50) (.v 3)), .false), ((.le (.c 0) (.v 5)), .true), ((.le (.v 3) (.v 5)), .true)] 0 ⟨⟨[], []⟩, [], [], []⟩ [] []) := by
  intro δ hf
  simp only [FT, TP, SB.tp, SI.tv, sta, IB.eval, and_true, true_and, ObsT, Ob.Tv, rowT, kix, In.tiv, In.tbv, get_cons, get_nil, reduceIte, Nat.reduceEqDiff, Int.reduceToNat, Int.reduceAdd, ap5, ne_eq, Bool.false_eq_true, not_true_eq_false, not_false_eq_true, FI_3, FI_7, FI_8, FI_9, FI_10, FI_11, FI_12, FI_13, FI_14, FI_15, FI_16, FI_17, FI_18, FI_19, FI_20, FI_21, FI_22, FI_23, FI_24, FI_25, FI_26, FI_27] at hf
  have a0 := ha.1 0 (by omega)
  have a1 := ha.1 1 (by omega)
  have a2 := ha.1 2 (by omega)
  have a3 := ha.1 3 (by omega)
  have a6 := ha.1 6 (by omega)
  have b0 := hin 0 (-9223372036854775808) 9223372036854775807 (by simp [lRuns, bW, b3])
  have b1 := hin 1 (-9223372036854775808) 9223372036854775807 (by simp [lRuns, bW, b3])
  have b2 := hin 2 0 18446744073709551615 (by simp [lRuns, bW, b3])
  have b3 := hin 3 0 9223372036854775807 (by simp [lRuns, bW])
  simp only [FT, TP, SB.tp, SI.tv, sta, IB.eval, and_true, true_and, ObsT, Ob.Tv, rowT, kix, In.tiv, In.tbv, get_cons, get_nil, reduceIte, Nat.reduceEqDiff, Int.reduceToNat, Int.reduceAdd, ap5, ne_eq, Bool.false_eq_true, not_true_eq_false, not_false_eq_true, FI_3, FI_7, FI_8, FI_9, FI_10, FI_11, FI_12, FI_13, FI_14, FI_15, FI_16, FI_17, FI_18, FI_19, FI_20, FI_21, FI_22, FI_23, FI_24, FI_25, FI_26, FI_27, lRuns, othT, a0, a1, a2, a3, a6] at hf ⊢
  simp [othT, o1]

set_option maxHeartbeats 1000000 in
theorem lRuns_o0_10 (kv : Nat → Nat) (iv0 : Nat → Int) (bv0 : Nat → Bool) (hin : InB lRuns.B iv0) (hF : FT (sta FI FB kv iv0 bv0) (dlt dyn0) lRuns.F) (iv : Nat → Int) (bv : Nat → Bool) (ha : Agr 7 iv0 bv0 iv bv) (hi : lRuns_inv iv0 bv0 0 iv bv) :
    LfT (sta FI FB kv) lRuns.os (lRuns_inv iv0 bv0) (lRuns_mu iv0 bv0) 0 iv bv (.fin [((.eq (.ap 3 (.ap 8 (.v 6) (.v 3) (.c 0) (.c 77) (.c 0) (.c 0)) (.v 3) (.c 0) (.c 0) (.c 0) (.c 0)) (.c 77)), .false), ((.lt (.v 3) (.op .add (.v 3) (.c 1))), .true), ((.eq (.ap 23 (.v 0) (.v 1) (.v 2) (.ap 8 (.v 6) (.v 3) (.c 0) (.c 77) (.c 0) (.c 0)) (.v 3) (.c 0)) (.ap 23 (.v 0) (.v 1) (.v 2) (.v 6) (.v 3) (.c 0))), .true), ((.eq (.ap 22 (.v 0) (.v 1) (.v 2) (.ap 8 (.v 6) (.v 3) (.c 0) (.c 77) (.c 0) (.c 0)) (.v 3) (.c 0)) (.ap 22 (.v 0) (.v 1) (.v 2) (.v 6) (.v 3) (.c 0))), .true), ((.eq (.ap 27 (.v 0) (.v 1) (.v 2) (.ap 8 (.v 6) (.v 3) (.c 0) (.c 77) (.c 0) (.c 0)) (.v 3) (.c 0)) (.ap 7 (.ap 24 (.v 0) (.v 1) (.v 2) (.v 6) (.v 3) (.c 0)) (.op .add (.ap 22 (.v 0) (.v 1) (.v 2) (.v 6) (.v 3) (.c 0)) (.c (-1))) (.c 2) (.c 0) (.c 0) (.c 0))), .true), ((.eq (.ap 26 (.v 0) (.v 1) (.v 2) (.ap 8 (.v 6) (.v 3) (.c 0) (.c 77) (.c 0) (.c 0)) (.v 3) (.c 0)) (.ap 3 (.ap 24 (.v 0) (.v 1) (.v 2) (.v 6) (.v 3) (.c 0)) (.op .add (.ap 22 (.v 0) (.v 1) (.v 2) (.v 6) (.v 3) (.c 0)) (.c (-1))) (.c 1) (.c 0) (.c 0) (.c 0))), .true), ((.eq (.ap 25 (.v 0) (.v 1) (.v 2) (.ap 8 (.v 6) (.v 3) (.c 0) (.c 77) (.c 0) (.c 0)) (.v 3) (.c 0)) (.ap 3 (.ap 24 (.v 0) (.v 1) (.v 2) (.v 6) (.v 3) (.c 0)) (.op .add (.ap 22 (.v 0) (.v 1) (.v 2) (.v 6) (.v 3) (.c 0)) (.c (-1))) (.c 0) (.c 0) (.c 0) (.c 0))), .true), ((.lt (.op .add (.ap 22 (.v 0) (.v 1) (.v 2) (.v 6) (.v 3) (.c 0)) (.c (-1))) (.ap 22 (.v 0) (.v 1) (.v 2) (.v 6) (.v 3) (.c 0))), .true), ((.le (.c 0) (.op .add (.ap 22 (.v 0) (.v 1) (.v 2) (.v 6) (.v 3) (.c 0)) (.c (-1)))), .true), ((.lt (.c 0) (.ap 22 (.v 0) (.v 1) (.v 2) (.v 6) (.v 3) (.c 0))), .true), ((.le (.ap 22 (.v 0) (.v 1) (.v 2) (.v 6) (.v 3) (.c 0)) (.d 2)), .true), ((.eq (.ap 22 (.v 0) (.v 1) (.v 2) (.v 6) (.v 3) (.c 0)) (.c 0)), .false), ((.le (.v 2) (.c 4611686018427387904)), .true), ((.le (.v 1) (.v 0)), .true), ((.le (.v 3) (.d 1)), .true), ((.le (.op .add (.v 3) (.c 1)) (.d 1)), .true), ((.le (.v 3) (.d 0)), .true), ((.lt (.c 50) (.v 3)), .false), ((.le (.c 0) (.v 5)), .true), ((.le (.v 3) (.v 5)), .true)] 0 ⟨⟨[], []⟩, [], [], []⟩ [(.eb (.c .true) (.c .false))] []) := by
  intro δ hf
  simp only [FT, TP, SB.tp, SI.tv, sta, IB.eval, and_true, true_and, ObsT, Ob.Tv, rowT, kix, In.tiv, In.tbv, get_cons, get_nil, reduceIte, Nat.reduceEqDiff, Int.reduceToNat, Int.reduceAdd, ap5, ne_eq, Bool.false_eq_true, not_true_eq_false, not_false_eq_true, FI_3, FI_7, FI_8, FI_9, FI_10, FI_11, FI_12, FI_13, FI_14, FI_15, FI_16, FI_17, FI_18, FI_19, FI_20, FI_21, FI_22, FI_23, FI_24, FI_25, FI_26, FI_27] at hf
  have a0 := ha.1 0 (by omega)
  have a1 := ha.1 1 (by omega)
  have a2 := ha.1 2 (by omega)
  have a3 := ha.1 3 (by omega)
  have a6 := ha.1 6 (by omega)
  have b0 := hin 0 (-9223372036854775808) 9223372036854775807 (by simp [lRuns, bW, b3])
  have b1 := hin 1 (-9223372036854775808) 9223372036854775807 (by simp [lRuns, bW, b3])
  have b2 := hin 2 0 18446744073709551615 (by simp [lRuns, bW, b3])
  have b3 := hin 3 0 9223372036854775807 (by simp [lRuns, bW])
  simp only [FT, TP, SB.tp, SI.tv, sta, IB.eval, and_true, true_and, ObsT, Ob.Tv, rowT, kix, In.tiv, In.tbv, get_cons, get_nil, reduceIte, Nat.reduceEqDiff, Int.reduceToNat, Int.reduceAdd, ap5, ne_eq, Bool.false_eq_true, not_true_eq_false, not_false_eq_true, FI_3, FI_7, FI_8, FI_9, FI_10, FI_11, FI_12, FI_13, FI_14, FI_15, FI_16, FI_17, FI_18, FI_19, FI_20, FI_21, FI_22, FI_23, FI_24, FI_25, FI_26, FI_27, lRuns, othT, a0, a1, a2, a3, a6] at hf ⊢
  obtain ⟨s1, s2, s3⟩ := run_same (iv0 0) (iv0 1) (iv0 2) (iv0 6) (iv0 3) 77 b3.1
  obtain ⟨w0, w1, w2⟩ := wraps b0 b1 b2
  have hl := M_len (v := iv0 0) (f := iv0 1) (r := iv0 2) (c := iv0 6) b3.1
  try simp only [s1, s2, s3, gt_setI, if_true, and_self, Int.reduceToNat, wrap77, not_true_eq_false, false_and, and_false] at hf
  all_goals (exfalso; rcases Nat.eq_zero_or_pos (M (iv0 0) (iv0 1) (iv0 2) (iv0 6) (iv0 3)) with hm | hm)
  all_goals (try obtain ⟨l0, l1, l2⟩ := want_last (iv0 0, iv0 1, iv0 2) (iv0 6) hm)
  all_goals (try simp only [l0, l1, l2, not_true_eq_false, false_and, and_false] at hf)
  all_goals (try simp only [hm, seq, w0, w1, w2, not_true_eq_false, false_and, and_false, Int.natCast_zero] at hf)
  all_goals omega

set_option maxHeartbeats 1000000 in
theorem lRuns_o0_11 (kv : Nat → Nat) (iv0 : Nat → Int) (bv0 : Nat → Bool) (hin : InB lRuns.B iv0) (hF : FT (sta FI FB kv iv0 bv0) (dlt dyn0) lRuns.F) (iv : Nat → Int) (bv : Nat → Bool) (ha : Agr 7 iv0 bv0 iv bv) (hi : lRuns_inv iv0 bv0 0 iv bv) :
    LfT (sta FI FB kv) lRuns.os (lRuns_inv iv0 bv0) (lRuns_mu iv0 bv0) 0 iv bv (.bad [((.lt (.v 3) (.op .add (.v 3) (.c 1))), .false), ((.eq (.ap 23 (.v 0) (.v 1) (.v 2) (.ap 8 (.v 6) (.v 3) (.c 0) (.c 77) (.c 0) (.c 0)) (.v 3) (.c 0)) (.ap 23 (.v 0) (.v 1) (.v 2) (.v 6) (.v 3) (.c 0))), .true), ((.eq (.ap 22 (.v 0) (.v 1) (.v 2) (.ap 8 (.v 6) (.v 3) (.c 0) (.c 77) (.c 0) (.c 0)) (.v 3) (.c 0)) (.ap 22 (.v 0) (.v 1) (.v 2) (.v 6) (.v 3) (.c 0))), .true), ((.eq (.ap 27 (.v 0) (.v 1) (.v 2) (.ap 8 (.v 6) (.v 3) (.c 0) (.c 77) (.c 0) (.c 0)) (.v 3) (.c 0)) (.ap 7 (.ap 24 (.v 0) (.v 1) (.v 2) (.v 6) (.v 3) (.c 0)) (.op .add (.ap 22 (.v 0) (.v 1) (.v 2) (.v 6) (.v 3) (.c 0)) (.c (-1))) (.c 2) (.c 0) (.c 0) (.c 0))), .true), ((.eq (.ap 26 (.v 0) (.v 1) (.v 2) (.ap 8 (.v 6) (.v 3) (.c 0) (.c 77) (.c 0) (.c 0)) (.v 3) (.c 0)) (.ap 3 (.ap 24 (.v 0) (.v 1) (.v 2) (.v 6) (.v 3) (.c 0)) (.op .add (.ap 22 (.v 0) (.v 1) (.v 2) (.v 6) (.v 3) (.c 0)) (.c (-1))) (.c 1) (.c 0) (.c 0) (.c 0))), .true), ((.eq (.ap 25 (.v 0) (.v 1) (.v 2) (.ap 8 (.v 6) (.v 3) (.c 0) (.c 77) (.c 0) (.c 0)) (.v 3) (.c 0)) (.ap 3 (.ap 24 (.v 0) (.v 1) (.v 2) (.v 6) (.v 3) (.c 0)) (.op .add (.ap 22 (.v 0) (.v 1) (.v 2) (.v 6) (.v 3) (.c 0)) (.c (-1))) (.c 0) (.c 0) (.c 0) (.c 0))), .true), ((.lt (.op .add (.ap 22 (.v 0) (.v 1) (.v 2) (.v 6) (.v 3) (.c 0)) (.c (-1))) (.ap 22 (.v 0) (.v 1) (.v 2) (.v 6) (.v 3) (.c 0))), .true), ((.le (.c 0) (.op .add (.ap 22 (.v 0) (.v 1) (.v 2) (.v 6) (.v 3) (.c 0)) (.c (-1)))), .true), ((.lt (.c 0) (.ap 22 (.v 0) (.v 1) (.v 2) (.v 6) (.v 3) (.c 0))), .true), ((.le (.ap 22 (.v 0) (.v 1) (.v 2) (.v 6) (.v 3) (.c 0)) (.d 2)), .true), ((.eq (.ap 22 (.v 0) (.v 1) (.v 2) (.v 6) (.v 3) (.c 0)) (.c 0)), .false), ((.le (.v 2) (.c 4611686018427387904)), .true), ((.le (.v 1) (.v 0)), .true), ((.le (.v 3) (.d 1)), .true), ((.le (.op .add (.v 3) (.c 1)) (.d 1)), .true), ((.le (.v 3) (.d 0)), .true), ((.lt (.c 50) (.v 3)), .false), ((.le (.c 0) (.v 5)), .true), ((.le (.v 3) (.v 5)), .true)]) := by
  intro δ hf
  simp only [FT, TP, SB.tp, SI.tv, sta, IB.eval, and_true, true_and, ObsT, Ob.Tv, rowT, kix, In.tiv, In.tbv, get_cons, get_nil, reduceIte, Nat.reduceEqDiff, Int.reduceToNat, Int.reduceAdd, ap5, ne_eq, Bool.false_eq_true, not_true_eq_false, not_false_eq_true, FI_3, FI_7, FI_8, FI_9, FI_10, FI_11, FI_12, FI_13, FI_14, FI_15, FI_16, FI_17, FI_18, FI_19, FI_20, FI_21, FI_22, FI_23, FI_24, FI_25, FI_26, FI_27] at hf
  have a0 := ha.1 0 (by omega)
  have a1 := ha.1 1 (by omega)
  have a2 := ha.1 2 (by omega)
  have a3 := ha.1 3 (by omega)
  have a6 := ha.1 6 (by omega)
  have b0 := hin 0 (-9223372036854775808) 9223372036854775807 (by simp [lRuns, bW, b3])
  have b1 := hin 1 (-9223372036854775808) 9223372036854775807 (by simp [lRuns, bW, b3])
  have b2 := hin 2 0 18446744073709551615 (by simp [lRuns, bW, b3])
  have b3 := hin 3 0 9223372036854775807 (by simp [lRuns, bW])
  simp only [FT, TP, SB.tp, SI.tv, sta, IB.eval, and_true, true_and, ObsT, Ob.Tv, rowT, kix, In.tiv, In.tbv, get_cons, get_nil, reduceIte, Nat.reduceEqDiff, Int.reduceToNat, Int.reduceAdd, ap5, ne_eq, Bool.false_eq_true, not_true_eq_false, not_false_eq_true, FI_3, FI_7, FI_8, FI_9, FI_10, FI_11, FI_12, FI_13, FI_14, FI_15, FI_16, FI_17, FI_18, FI_19, FI_20, FI_21, FI_22, FI_23, FI_24, FI_25, FI_26, FI_27, lRuns, othT, a0, a1, a2, a3, a6] at hf ⊢
  obtain ⟨s1, s2, s3⟩ := run_same (iv0 0) (iv0 1) (iv0 2) (iv0 6) (iv0 3) 77 b3.1
  obtain ⟨w0, w1, w2⟩ := wraps b0 b1 b2
  have hl := M_len (v := iv0 0) (f := iv0 1) (r := iv0 2) (c := iv0 6) b3.1
  try simp only [s1, s2, s3, gt_setI, if_true, and_self, Int.reduceToNat, wrap77, not_true_eq_false, false_and, and_false] at hf
  all_goals (exfalso; rcases Nat.eq_zero_or_pos (M (iv0 0) (iv0 1) (iv0 2) (iv0 6) (iv0 3)) with hm | hm)
  all_goals (try obtain ⟨l0, l1, l2⟩ := want_last (iv0 0, iv0 1, iv0 2) (iv0 6) hm)
  all_goals (try simp only [l0, l1, l2, not_true_eq_false, false_and, and_false] at hf)
  all_goals (try simp only [hm, seq, w0, w1, w2, not_true_eq_false, false_and, and_false, Int.natCast_zero] at hf)
  all_goals omega

set_option maxHeartbeats 1000000 in
theorem lRuns_o0_12 (kv : Nat → Nat) (iv0 : Nat → Int) (bv0 : Nat → Bool) (hin : InB lRuns.B iv0) (hF : FT (sta FI FB kv iv0 bv0) (dlt dyn0) lRuns.F) (iv : Nat → Int) (bv : Nat → Bool) (ha : Agr 7 iv0 bv0 iv bv) (hi : lRuns_inv iv0 bv0 0 iv bv) :
    LfT (sta FI FB kv) lRuns.os (lRuns_inv iv0 bv0) (lRuns_mu iv0 bv0) 0 iv bv (.fin [((.eq (.ap 23 (.v 0) (.v 1) (.v 2) (.ap 8 (.v 6) (.v 3) (.c 0) (.c 77) (.c 0) (.c 0)) (.v 3) (.c 0)) (.ap 23 (.v 0) (.v 1) (.v 2) (.v 6) (.v 3) (.c 0))), .false), ((.eq (.ap 22 (.v 0) (.v 1) (.v 2) (.ap 8 (.v 6) (.v 3) (.c 0) (.c 77) (.c 0) (.c 0)) (.v 3) (.c 0)) (.ap 22 (.v 0) (.v 1) (.v 2) (.v 6) (.v 3) (.c 0))), .true), ((.eq (.ap 27 (.v 0) (.v 1) (.v 2) (.ap 8 (.v 6) (.v 3) (.c 0) (.c 77) (.c 0) (.c 0)) (.v 3) (.c 0)) (.ap 7 (.ap 24 (.v 0) (.v 1) (.v 2) (.v 6) (.v 3) (.c 0)) (.op .add (.ap 22 (.v 0) (.v 1) (.v 2) (.v 6) (.v 3) (.c 0)) (.c (-1))) (.c 2) (.c 0) (.c 0) (.c 0))), .true), ((.eq (.ap 26 (.v 0) (.v 1) (.v 2) (.ap 8 (.v 6) (.v 3) (.c 0) (.c 77) (.c 0) (.c 0)) (.v 3) (.c 0)) (.ap 3 (.ap 24 (.v 0) (.v 1) (.v 2) (.v 6) (.v 3) (.c 0)) (.op .add (.ap 22 (.v 0) (.v 1) (.v 2) (.v 6) (.v 3) (.c 0)) (.c (-1))) (.c 1) (.c 0) (.c 0) (.c 0))), .true), ((.eq (.ap 25 (.v 0) (.v 1) (.v 2) (.ap 8 (.v 6) (.v 3) (.c 0) (.c 77) (.c 0) (.c 0)) (.v 3) (.c 0)) (.ap 3 (.ap 24 (.v 0) (.v 1) (.v 2) (.v 6) (.v 3) (.c 0)) (.op .add (.ap 22 (.v 0) (.v 1) (.v 2) (.v 6) (.v 3) (.c 0)) (.c (-1))) (.c 0) (.c 0) (.c 0) (.c 0))), .true), ((.lt (.op .add (.ap 22 (.v 0) (.v 1) (.v 2) (.v 6) (.v 3) (.c 0)) (.c (-1))) (.ap 22 (.v 0) (.v 1) (.v 2) (.v 6) (.v 3) (.c 0))), .true), ((.le (.c 0) (.op .add (.ap 22 (.v 0) (.v 1) (.v 2) (.v 6) (.v 3) (.c 0)) (.c (-1)))), .true), ((.lt (.c 0) (.ap 22 (.v 0) (.v 1) (.v 2) (.v 6) (.v 3) (.c 0))), .true), ((.le (.ap 22 (.v 0) (.v 1) (.v 2) (.v 6) (.v 3) (.c 0)) (.d 2)), .true), ((.eq (.ap 22 (.v 0) (.v 1) (.v 2) (.v 6) (.v 3) (.c 0)) (.c 0)), .false), ((.le (.v 2) (.c 4611686018427387904)), .true), ((.le (.v 1) (.v 0)), .true), ((.le (.v 3) (.d 1)), .true), ((.le (.op .add (.v 3) (.c 1)) (.d 1)), .true), ((.le (.v 3) (.d 0)), .true), ((.lt (.c 50) (.v 3)), .false), ((.le (.c 0) (.v 5)), .true), ((.le (.v 3) (.v 5)), .true)] 0 ⟨⟨[], []⟩, [], [], []⟩ [(.eb (.c .true) (.c .false))] []) := by
  intro δ hf
  simp only [FT, TP, SB.tp, SI.tv, sta, IB.eval, and_true, true_and, ObsT, Ob.Tv, rowT, kix, In.tiv, In.tbv, get_cons, get_nil, reduceIte, Nat.reduceEqDiff, Int.reduceToNat, Int.reduceAdd, ap5, ne_eq, Bool.false_eq_true, not_true_eq_false, not_false_eq_true, FI_3, FI_7, FI_8, FI_9, FI_10, FI_11, FI_12, FI_13, FI_14, FI_15, FI_16, FI_17, FI_18, FI_19, FI_20, FI_21, FI_22, FI_23, FI_24, FI_25, FI_26, FI_27] at hf
  have a0 := ha.1 0 (by omega)
  have a1 := ha.1 1 (by omega)
  have a2 := ha.1 2 (by omega)
  have a3 := ha.1 3 (by omega)
  have a6 := ha.1 6 (by omega)
  have b0 := hin 0 (-9223372036854775808) 9223372036854775807 (by simp [lRuns, bW, b3])
  have b1 := hin 1 (-9223372036854775808) 9223372036854775807 (by simp [lRuns, bW, b3])
  have b2 := hin 2 0 18446744073709551615 (by simp [lRuns, bW, b3])
  have b3 := hin 3 0 9223372036854775807 (by simp [lRuns, bW])
  simp only [FT, TP, SB.tp, SI.tv, sta, IB.eval, and_true, true_and, ObsT, Ob.Tv, rowT, kix, In.tiv, In.tbv, get_cons, get_nil, reduceIte, Nat.reduceEqDiff, Int.reduceToNat, Int.reduceAdd, ap5, ne_eq, Bool.false_eq_true, not_true_eq_false, not_false_eq_true, FI_3, FI_7, FI_8, FI_9, FI_10, FI_11, FI_12, FI_13, FI_14, FI_15, FI_16, FI_17, FI_18, FI_19, FI_20, FI_21, FI_22, FI_23, FI_24, FI_25, FI_26, FI_27, lRuns, othT, a0, a1, a2, a3, a6] at hf ⊢
  obtain ⟨s1, s2, s3⟩ := run_same (iv0 0) (iv0 1) (iv0 2) (iv0 6) (iv0 3) 77 b3.1
  obtain ⟨w0, w1, w2⟩ := wraps b0 b1 b2
  have hl := M_len (v := iv0 0) (f := iv0 1) (r := iv0 2) (c := iv0 6) b3.1
  try simp only [s1, s2, s3, gt_setI, if_true, and_self, Int.reduceToNat, wrap77, not_true_eq_false, false_and, and_false] at hf
  all_goals (exfalso; rcases Nat.eq_zero_or_pos (M (iv0 0) (iv0 1) (iv0 2) (iv0 6) (iv0 3)) with hm | hm)
  all_goals (try obtain ⟨l0, l1, l2⟩ := want_last (iv0 0, iv0 1, iv0 2) (iv0 6) hm)
  all_goals (try simp only [l0, l1, l2, not_true_eq_false, false_and, and_false] at hf)
  all_goals (try simp only [hm, seq, w0, w1, w2, not_true_eq_false, false_and, and_false, Int.natCast_zero] at hf)
  all_goals omega

set_option maxHeartbeats 1000000 in
theorem lRuns_o0_13 (kv : Nat → Nat) (iv0 : Nat → Int) (bv0 : Nat → Bool) (hin : InB lRuns.B iv0) (hF : FT (sta FI FB kv iv0 bv0) (dlt dyn0) lRuns.F) (iv : Nat → Int) (bv : Nat → Bool) (ha : Agr 7 iv0 bv0 iv bv) (hi : lRuns_inv iv0 bv0 0 iv bv) :
    LfT (sta FI FB kv) lRuns.os (lRuns_inv iv0 bv0) (lRuns_mu iv0 bv0) 0 iv bv (.fin [((.eq (.ap 22 (.v 0) (.v 1) (.v 2) (.ap 8 (.v 6) (.v 3) (.c 0) (.c 77) (.c 0) (.c 0)) (.v 3) (.c 0)) (.ap 22 (.v 0) (.v 1) (.v 2) (.v 6) (.v 3) (.c 0))), .false), ((.eq (.ap 27 (.v 0) (.v 1) (.v 2) (.ap 8 (.v 6) (.v 3) (.c 0) (.c 77) (.c 0) (.c 0)) (.v 3) (.c 0)) (.ap 7 (.ap 24 (.v 0) (.v 1) (.v 2) (.v 6) (.v 3) (.c 0)) (.op .add (.ap 22 (.v 0) (.v 1) (.v 2) (.v 6) (.v 3) (.c 0)) (.c (-1))) (.c 2) (.c 0) (.c 0) (.c 0))), .true), ((.eq (.ap 26 (.v 0) (.v 1) (.v 2) (.ap 8 (.v 6) (.v 3) (.c 0) (.c 77) (.c 0) (.c 0)) (.v 3) (.c 0)) (.ap 3 (.ap 24 (.v 0) (.v 1) (.v 2) (.v 6) (.v 3) (.c 0)) (.op .add (.ap 22 (.v 0) (.v 1) (.v 2) (.v 6) (.v 3) (.c 0)) (.c (-1))) (.c 1) (.c 0) (.c 0) (.c 0))), .true), ((.eq (.ap 25 (.v 0) (.v 1) (.v 2) (.ap 8 (.v 6) (.v 3) (.c 0) (.c 77) (.c 0) (.c 0)) (.v 3) (.c 0)) (.ap 3 (.ap 24 (.v 0) (.v 1) (.v 2) (.v 6) (.v 3) (.c 0)) (.op .add (.ap 22 (.v 0) (.v 1) (.v 2) (.v 6) (.v 3) (.c 0)) (.c (-1))) (.c 0) (.c 0) (.c 0) (.c 0))), .true), ((.lt (.op .add (.ap 22 (.v 0) (.v 1) (.v 2) (.v 6) (.v 3) (.c 0)) (.c (-1))) (.ap 22 (.v 0) (.v 1) (.v 2) (.v 6) (.v 3) (.c 0))), .true), ((.le (.c 0) (.op .add (.ap 22 (.v 0) (.v 1) (.v 2) (.v 6) (.v 3) (.c 0)) (.c (-1)))), .true), ((.lt (.c 0) (.ap 22 (.v 0) (.v 1) (.v 2) (.v 6) (.v 3) (.c 0))), .true), ((.le (.ap 22 (.v 0) (.v 1) (.v 2) (.v 6) (.v 3) (.c 0)) (.d 2)), .true), ((.eq (.ap 22 (.v 0) (.v 1) (.v 2) (.v 6) (.v 3) (.c 0)) (.c 0)), .false), ((.le (.v 2) (.c 4611686018427387904)), .true), ((.le (.v 1) (.v 0)), .true), ((.le (.v 3) (.d 1)), .true), ((.le (.op .add (.v 3) (.c 1)) (.d 1)), .true), ((.le (.v 3) (.d 0)), .true), ((.lt (.c 50) (.v 3)), .false), ((.le (.c 0) (.v 5)), .true), ((.le (.v 3) (.v 5)), .true)] 0 ⟨⟨[], []⟩, [], [], []⟩ [(.eb (.c .true) (.c .false))] []) := by
  intro δ hf
  simp only [FT, TP, SB.tp, SI.tv, sta, IB.eval, and_true, true_and, ObsT, Ob.Tv, rowT, kix, In.tiv, In.tbv, get_cons, get_nil, reduceIte, Nat.reduceEqDiff, Int.reduceToNat, Int.reduceAdd, ap5, ne_eq, Bool.false_eq_true, not_true_eq_false, not_false_eq_true, FI_3, FI_7, FI_8, FI_9, FI_10, FI_11, FI_12, FI_13, FI_14, FI_15, FI_16, FI_17, FI_18, FI_19, FI_20, FI_21, FI_22, FI_23, FI_24, FI_25, FI_26, FI_27] at hf
  have a0 := ha.1 0 (by omega)
  have a1 := ha.1 1 (by omega)
  have a2 := ha.1 2 (by omega)
  have a3 := ha.1 3 (by omega)
  have a6 := ha.1 6 (by omega)
  have b0 := hin 0 (-9223372036854775808) 9223372036854775807 (by simp [lRuns, bW, b3])
  have b1 := hin 1 (-9223372036854775808) 9223372036854775807 (by simp [lRuns, bW, b3])
  have b2 := hin 2 0 18446744073709551615 (by simp [lRuns, bW, b3])
  have b3 := hin 3 0 9223372036854775807 (by simp [lRuns, bW])
  simp only [FT, TP, SB.tp, SI.tv, sta, IB.eval, and_true, true_and, ObsT, Ob.Tv, rowT, kix, In.tiv, In.tbv, get_cons, get_nil, reduceIte, Nat.reduceEqDiff, Int.reduceToNat, Int.reduceAdd, ap5, ne_eq, Bool.false_eq_true, not_true_eq_false, not_false_eq_true, FI_3, FI_7, FI_8, FI_9, FI_10, FI_11, FI_12, FI_13, FI_14, FI_15, FI_16, FI_17, FI_18, FI_19, FI_20, FI_21, FI_22, FI_23, FI_24, FI_25, FI_26, FI_27, lRuns, othT, a0, a1, a2, a3, a6] at hf ⊢
  obtain ⟨s1, s2, s3⟩ := run_same (iv0 0) (iv0 1) (iv0 2) (iv0 6) (iv0 3) 77 b3.1
  obtain ⟨w0, w1, w2⟩ := wraps b0 b1 b2
  have hl := M_len (v := iv0 0) (f := iv0 1) (r := iv0 2) (c := iv0 6) b3.1
  try simp only [s1, s2, s3, gt_setI, if_true, and_self, Int.reduceToNat, wrap77, not_true_eq_false, false_and, and_false] at hf
  all_goals (exfalso; rcases Nat.eq_zero_or_pos (M (iv0 0) (iv0 1) (iv0 2) (iv0 6) (iv0 3)) with hm | hm)
  all_goals (try obtain ⟨l0, l1, l2⟩ := want_last (iv0 0, iv0 1, iv0 2) (iv0 6) hm)
  all_goals (try simp only [l0, l1, l2, not_true_eq_false, false_and, and_false] at hf)
  all_goals (try simp only [hm, seq, w0, w1, w2, not_true_eq_false, false_and, and_false, Int.natCast_zero] at hf)
  all_goals omega

set_option maxHeartbeats 1000000 in
theorem lRuns_o0_14 (kv : Nat → Nat) (iv0 : Nat → Int) (bv0 : Nat → Bool) (hin : InB lRuns.B iv0) (hF : FT (sta FI FB kv iv0 bv0) (dlt dyn0) lRuns.F) (iv : Nat → Int) (bv : Nat → Bool) (ha : Agr 7 iv0 bv0 iv bv) (hi : lRuns_inv iv0 bv0 0 iv bv) :
    LfT (sta FI FB kv) lRuns.os (lRuns_inv iv0 bv0) (lRuns_mu iv0 bv0) 0 iv bv (.fin [((.eq (.ap 27 (.v 0) (.v 1) (.v 2) (.ap 8 (.v 6) (.v 3) (.c 0) (.c 77) (.c 0) (.c 0)) (.v 3) (.c 0)) (.ap 7 (.ap 24 (.v 0) (.v 1) (.v 2) (.v 6) (.v 3) (.c 0)) (.op .add (.ap 22 (.v 0) (.v 1) (.v 2) (.v 6) (.v 3) (.c 0)) (.c (-1))) (.c 2) (.c 0) (.c 0) (.c 0))), .false), ((.eq (.ap 26 (.v 0) (.v 1) (.v 2) (.ap 8 (.v 6) (.v 3) (.c 0) (.c 77) (.c 0) (.c 0)) (.v 3) (.c 0)) (.ap 3 (.ap 24 (.v 0) (.v 1) (.v 2) (.v 6) (.v 3) (.c 0)) (.op .add (.ap 22 (.v 0) (.v 1) (.v 2) (.v 6) (.v 3) (.c 0)) (.c (-1))) (.c 1) (.c 0) (.c 0) (.c 0))), .true), ((.eq (.ap 25 (.v 0) (.v 1) (.v 2) (.ap 8 (.v 6) (.v 3) (.c 0) (.c 77) (.c 0) (.c 0)) (.v 3) (.c 0)) (.ap 3 (.ap 24 (.v 0) (.v 1) (.v 2) (.v 6) (.v 3) (.c 0)) (.op .add (.ap 22 (.v 0) (.v 1) (.v 2) (.v 6) (.v 3) (.c 0)) (.c (-1))) (.c 0) (.c 0) (.c 0) (.c 0))), .true), ((.lt (.op .add (.ap 22 (.v 0) (.v 1) (.v 2) (.v 6) (.v 3) (.c 0)) (.c (-1))) (.ap 22 (.v 0) (.v 1) (.v 2) (.v 6) (.v 3) (.c 0))), .true), ((.le (.c 0) (.op .add (.ap 22 (.v 0) (.v 1) (.v 2) (.v 6) (.v 3) (.c 0)) (.c (-1)))), .true), ((.lt (.c 0) (.ap 22 (.v 0) (.v 1) (.v 2) (.v 6) (.v 3) (.c 0))), .true), ((.le (.ap 22 (.v 0) (.v 1) (.v 2) (.v 6) (.v 3) (.c 0)) (.d 2)), .true), ((.eq (.ap 22 (.v 0) (.v 1) (.v 2) (.v 6) (.v 3) (.c 0)) (.c 0)), .false), ((.le (.v 2) (.c 4611686018427387904)), .true), ((.le (.v 1) (.v 0)), .true), ((.le (.v 3) (.d 1)), .true), ((.le (.op .add (.v 3) (.c 1)) (.d 1)), .true), ((.le (.v 3) (.d 0)), .true), ((.lt (.c 50) (.v 3)), .false), ((.le (.c 0) (.v 5)), .true), ((.le (.v 3) (.v 5)), .true)] 0 ⟨⟨[], []⟩, [], [], []⟩ [(.eb (.c .true) (.c .false))] []) := by
  intro δ hf
  simp only [FT, TP, SB.tp, SI.tv, sta, IB.eval, and_true, true_and, ObsT, Ob.Tv, rowT, kix, In.tiv, In.tbv, get_cons, get_nil, reduceIte, Nat.reduceEqDiff, Int.reduceToNat, Int.reduceAdd, ap5, ne_eq, Bool.false_eq_true, not_true_eq_false, not_false_eq_true, FI_3, FI_7, FI_8, FI_9, FI_10, FI_11, FI_12, FI_13, FI_14, FI_15, FI_16, FI_17, FI_18, FI_19, FI_20, FI_21, FI_22, FI_23, FI_24, FI_25, FI_26, FI_27] at hf
  have a0 := ha.1 0 (by omega)
  have a1 := ha.1 1 (by omega)
  have a2 := ha.1 2 (by omega)
  have a3 := ha.1 3 (by omega)
  have a6 := ha.1 6 (by omega)
  have b0 := hin 0 (-9223372036854775808) 9223372036854775807 (by simp [lRuns, bW, b3])
  have b1 := hin 1 (-9223372036854775808) 9223372036854775807 (by simp [lRuns, bW, b3])
  have b2 := hin 2 0 18446744073709551615 (by simp [lRuns, bW, b3])
  have b3 := hin 3 0 9223372036854775807 (by simp [lRuns, bW])
  simp only [FT, TP, SB.tp, SI.tv, sta, IB.eval, and_true, true_and, ObsT, Ob.Tv, rowT, kix, In.tiv, In.tbv, get_cons, get_nil, reduceIte, Nat.reduceEqDiff, Int.reduceToNat, Int.reduceAdd, ap5, ne_eq, Bool.false_eq_true, not_true_eq_false, not_false_eq_true, FI_3, FI_7, FI_8, FI_9, FI_10, FI_11, FI_12, FI_13, FI_14, FI_15, FI_16, FI_17, FI_18, FI_19, FI_20, FI_21, FI_22, FI_23, FI_24, FI_25, FI_26, FI_27, lRuns, othT, a0, a1, a2, a3, a6] at hf ⊢
  obtain ⟨s1, s2, s3⟩ := run_same (iv0 0) (iv0 1) (iv0 2) (iv0 6) (iv0 3) 77 b3.1
  obtain ⟨w0, w1, w2⟩ := wraps b0 b1 b2
  have hl := M_len (v := iv0 0) (f := iv0 1) (r := iv0 2) (c := iv0 6) b3.1
  try simp only [s1, s2, s3, gt_setI, if_true, and_self, Int.reduceToNat, wrap77, not_true_eq_false, false_and, and_false] at hf
  all_goals (exfalso; rcases Nat.eq_zero_or_pos (M (iv0 0) (iv0 1) (iv0 2) (iv0 6) (iv0 3)) with hm | hm)
  all_goals (try obtain ⟨l0, l1, l2⟩ := want_last (iv0 0, iv0 1, iv0 2) (iv0 6) hm)
  all_goals (try simp only [l0, l1, l2, not_true_eq_false, false_and, and_false] at hf)
  all_goals (try simp only [hm, seq, w0, w1, w2, not_true_eq_false, false_and, and_false, Int.natCast_zero] at hf)
  all_goals omega

set_option maxHeartbeats 1000000 in
theorem lRuns_o0_15 (kv : Nat → Nat) (iv0 : Nat → Int) (bv0 : Nat → Bool) (hin : InB lRuns.B iv0) (hF : FT (sta FI FB kv iv0 bv0) (dlt dyn0) lRuns.F) (iv : Nat → Int) (bv : Nat → Bool) (ha : Agr 7 iv0 bv0 iv bv) (hi : lRuns_inv iv0 bv0 0 iv bv) :
    LfT (sta FI FB kv) lRuns.os (lRuns_inv iv0 bv0) (lRuns_mu iv0 bv0) 0 iv bv (.fin [((.eq (.ap 26 (.v 0) (.v 1) (.v 2) (.ap 8 (.v 6) (.v 3) (.c 0) (.c 77) (.c 0) (.c 0)) (.v 3) (.c 0)) (.ap 3 (.ap 24 (.v 0) (.v 1) (.v 2) (.v 6) (.v 3) (.c 0)) (.op .add (.ap 22 (.v 0) (.v 1) (.v 2) (.v 6) (.v 3) (.c 0)) (.c (-1))) (.c 1) (.c 0) (.c 0) (.c 0))), .false), ((.eq (.ap 25 (.v 0) (.v 1) (.v 2) (.ap 8 (.v 6) (.v 3) (.c 0) (.c 77) (.c 0) (.c 0)) (.v 3) (.c 0)) (.ap 3 (.ap 24 (.v 0) (.v 1) (.v 2) (.v 6) (.v 3) (.c 0)) (.op .add (.ap 22 (.v 0) (.v 1) (.v 2) (.v 6) (.v 3) (.c 0)) (.c (-1))) (.c 0) (.c 0) (.c 0) (.c 0))), .true), ((.lt (.op .add (.ap 22 (.v 0) (.v 1) (.v 2) (.v 6) (.v 3) (.c 0)) (.c (-1))) (.ap 22 (.v 0) (.v 1) (.v 2) (.v 6) (.v 3) (.c 0))), .true), ((.le (.c 0) (.op .add (.ap 22 (.v 0) (.v 1) (.v 2) (.v 6) (.v 3) (.c 0)) (.c (-1)))), .true), ((.lt (.c 0) (.ap 22 (.v 0) (.v 1) (.v 2) (.v 6) (.v 3) (.c 0))), .true), ((.le (.ap 22 (.v 0) (.v 1) (.v 2) (.v 6) (.v 3) (.c 0)) (.d 2)), .true), ((.eq (.ap 22 (.v 0) (.v 1) (.v 2) (.v 6) (.v 3) (.c 0)) (.c 0)), .false), ((.le (.v 2) (.c 4611686018427387904)), .true), ((.le (.v 1) (.v 0)), .true), ((.le (.v 3) (.d 1)), .true), ((.le (.op .add (.v 3) (.c 1)) (.d 1)), .true), ((.le (.v 3) (.d 0)), .true), ((.lt (.c 50) (.v 3)), .false), ((.le (.c 0) (.v 5)), .true), ((.le (.v 3) (.v 5)), .true)] 0 ⟨⟨[], []⟩, [], [], []⟩ [(.eb (.c .true) (.c .false))] []) := by
  intro δ hf
  simp only [FT, TP, SB.tp, SI.tv, sta, IB.eval, and_true, true_and, ObsT, Ob.Tv, rowT, kix, In.tiv, In.tbv, get_cons, get_nil, reduceIte, Nat.reduceEqDiff, Int.reduceToNat, Int.reduceAdd, ap5, ne_eq, Bool.false_eq_true, not_true_eq_false, not_false_eq_true, FI_3, FI_7, FI_8, FI_9, FI_10, FI_11, FI_12, FI_13, FI_14, FI_15, FI_16, FI_17, FI_18, FI_19, FI_20, FI_21, FI_22, FI_23, FI_24, FI_25, FI_26, FI_27] at hf
  have a0 := ha.1 0 (by omega)
  have a1 := ha.1 1 (by omega)
  have a2 := ha.1 2 (by omega)
  have a3 := ha.1 3 (by omega)
  have a6 := ha.1 6 (by omega)
  have b0 := hin 0 (-9223372036854775808) 9223372036854775807 (by simp [lRuns, bW, b3])
  have b1 := hin 1 (-9223372036854775808) 9223372036854775807 (by simp [lRuns, bW, b3])
  have b2 := hin 2 0 18446744073709551615 (by simp [lRuns, bW, b3])
  have b3 := hin 3 0 9223372036854775807 (by simp [lRuns, bW])
  simp only [FT, TP, SB.tp, SI.tv, sta, IB.eval, and_true, true_and, ObsT, Ob.Tv, rowT, kix, In.tiv, In.tbv, get_cons, get_nil, reduceIte, Nat.reduceEqDiff, Int.reduceToNat, Int.reduceAdd, ap5, ne_eq, Bool.false_eq_true, not_true_eq_false, not_false_eq_true, FI_3, FI_7, FI_8, FI_9, FI_10, FI_11, FI_12, FI_13, FI_14, FI_15, FI_16, FI_17, FI_18, FI_19, FI_20, FI_21, FI_22, FI_23, FI_24, FI_25, FI_26, FI_27, lRuns, othT, a0, a1, a2, a3, a6] at hf ⊢
  obtain ⟨s1, s2, s3⟩ := run_same (iv0 0) (iv0 1) (iv0 2) (iv0 6) (iv0 3) 77 b3.1
  obtain ⟨w0, w1, w2⟩ := wraps b0 b1 b2
  have hl := M_len (v := iv0 0) (f := iv0 1) (r := iv0 2) (c := iv0 6) b3.1
  try simp only [s1, s2, s3, gt_setI, if_true, and_self, Int.reduceToNat, wrap77, not_true_eq_false, false_and, and_false] at hf
  all_goals (exfalso; rcases Nat.eq_zero_or_pos (M (iv0 0) (iv0 1) (iv0 2) (iv0 6) (iv0 3)) with hm | hm)
  all_goals (try obtain ⟨l0, l1, l2⟩ := want_last (iv0 0, iv0 1, iv0 2) (iv0 6) hm)
  all_goals (try simp only [l0, l1, l2, not_true_eq_false, false_and, and_false] at hf)
  all_goals (try simp only [hm, seq, w0, w1, w2, not_true_eq_false, false_and, and_false, Int.natCast_zero] at hf)
  all_goals omega

set_option maxHeartbeats 1000000 in
theorem lRuns_o0_16 (kv : Nat → Nat) (iv0 : Nat → Int) (bv0 : Nat → Bool) (hin : InB lRuns.B iv0) (hF : FT (sta FI FB kv iv0 bv0) (dlt dyn0) lRuns.F) (iv : Nat → Int) (bv : Nat → Bool) (ha : Agr 7 iv0 bv0 iv bv) (hi : lRuns_inv iv0 bv0 0 iv bv) :
    LfT (sta FI FB kv) lRuns.os (lRuns_inv iv0 bv0) (lRuns_mu iv0 bv0) 0 iv bv (.fin [((.eq (.ap 25 (.v 0) (.v 1) (.v 2) (.ap 8 (.v 6) (.v 3) (.c 0) (.c 77) (.c 0) (.c 0)) (.v 3) (.c 0)) (.ap 3 (.ap 24 (.v 0) (.v 1) (.v 2) (.v 6) (.v 3) (.c 0)) (.op .add (.ap 22 (.v 0) (.v 1) (.v 2) (.v 6) (.v 3) (.c 0)) (.c (-1))) (.c 0) (.c 0) (.c 0) (.c 0))), .false), ((.lt (.op .add (.ap 22 (.v 0) (.v 1) (.v 2) (.v 6) (.v 3) (.c 0)) (.c (-1))) (.ap 22 (.v 0) (.v 1) (.v 2) (.v 6) (.v 3) (.c 0))), .true), ((.le (.c 0) (.op .add (.ap 22 (.v 0) (.v 1) (.v 2) (.v 6) (.v 3) (.c 0)) (.c (-1)))), .true), ((.lt (.c 0) (.ap 22 (.v 0) (.v 1) (.v 2) (.v 6) (.v 3) (.c 0))), .true), ((.le (.ap 22 (.v 0) (.v 1) (.v 2) (.v 6) (.v 3) (.c 0)) (.d 2)), .true), ((.eq (.ap 22 (.v 0) (.v 1) (.v 2) (.v 6) (.v 3) (.c 0)) (.c 0)), .false), ((.le (.v 2) (.c 4611686018427387904)), .true), ((.le (.v 1) (.v 0)), .true), ((.le (.v 3) (.d 1)), .true), ((.le (.op .add (.v 3) (.c 1)) (.d 1)), .true), ((.le (.v 3) (.d 0)), .true), ((.lt (.c 50) (.v 3)), .false), ((.le (.c 0) (.v 5)), .true), ((.le (.v 3) (.v 5)), .true)] 0 ⟨⟨[], []⟩, [], [], []⟩ [(.eb (.c .true) (.c .false))] []) := by
  intro δ hf
  simp only [FT, TP, SB.tp, SI.tv, sta, IB.eval, and_true, true_and, ObsT, Ob.Tv, rowT, kix, In.tiv, In.tbv, get_cons, get_nil, reduceIte, Nat.reduceEqDiff, Int.reduceToNat, Int.reduceAdd, ap5, ne_eq, Bool.false_eq_true, not_true_eq_false, not_false_eq_true, FI_3, FI_7, FI_8, FI_9, FI_10, FI_11, FI_12, FI_13, FI_14, FI_15, FI_16, FI_17, FI_18, FI_19, FI_20, FI_21, FI_22, FI_23, FI_24, FI_25, FI_26, FI_27] at hf
  have a0 := ha.1 0 (by omega)
  have a1 := ha.1 1 (by omega)
  have a2 := ha.1 2 (by omega)
  have a3 := ha.1 3 (by omega)
  have a6 := ha.1 6 (by omega)
  have b0 := hin 0 (-9223372036854775808) 9223372036854775807 (by simp [lRuns, bW, b3])
  have b1 := hin 1 (-9223372036854775808) 9223372036854775807 (by simp [lRuns, bW, b3])
  have b2 := hin 2 0 18446744073709551615 (by simp [lRuns, bW, b3])
  have b3 := hin 3 0 9223372036854775807 (by simp [lRuns, bW])
  simp only [FT, TP, SB.tp, SI.tv, sta, IB.eval, and_true, true_and, ObsT, Ob.Tv, rowT, kix, In.tiv, In.tbv, get_cons, get_nil, reduceIte, Nat.reduceEqDiff, Int.reduceToNat, Int.reduceAdd, ap5, ne_eq, Bool.false_eq_true, not_true_eq_false, not_false_eq_true, FI_3, FI_7, FI_8, FI_9, FI_10, FI_11, FI_12, FI_13, FI_14, FI_15, FI_16, FI_17, FI_18, FI_19, FI_20, FI_21, FI_22, FI_23, FI_24, FI_25, FI_26, FI_27, lRuns, othT, a0, a1, a2, a3, a6] at hf ⊢
  obtain ⟨s1, s2, s3⟩ := run_same (iv0 0) (iv0 1) (iv0 2) (iv0 6) (iv0 3) 77 b3.1
  obtain ⟨w0, w1, w2⟩ := wraps b0 b1 b2
  have hl := M_len (v := iv0 0) (f := iv0 1) (r := iv0 2) (c := iv0 6) b3.1
  try simp only [s1, s2, s3, gt_setI, if_true, and_self, Int.reduceToNat, wrap77, not_true_eq_false, false_and, and_false] at hf
  all_goals (exfalso; rcases Nat.eq_zero_or_pos (M (iv0 0) (iv0 1) (iv0 2) (iv0 6) (iv0 3)) with hm | hm)
  all_goals (try obtain ⟨l0, l1, l2⟩ := want_last (iv0 0, iv0 1, iv0 2) (iv0 6) hm)
  all_goals (try simp only [l0, l1, l2, not_true_eq_false, false_and, and_false] at hf)
  all_goals (try simp only [hm, seq, w0, w1, w2, not_true_eq_false, false_and, and_false, Int.natCast_zero] at hf)
  all_goals omega

set_option maxHeartbeats 1000000 in
theorem lRuns_o0_17 (kv : Nat → Nat) (iv0 : Nat → Int) (bv0 : Nat → Bool) (hin : InB lRuns.B iv0) (hF : FT (sta FI FB kv iv0 bv0) (dlt dyn0) lRuns.F) (iv : Nat → Int) (bv : Nat → Bool) (ha : Agr 7 iv0 bv0 iv bv) (hi : lRuns_inv iv0 bv0 0 iv bv) :
    LfT (sta FI FB kv) lRuns.os (lRuns_inv iv0 bv0) (lRuns_mu iv0 bv0) 0 iv bv (.bad [((.lt (.op .add (.ap 22 (.v 0) (.v 1) (.v 2) (.v 6) (.v 3) (.c 0)) (.c (-1))) (.ap 22 (.v 0) (.v 1) (.v 2) (.v 6) (.v 3) (.c 0))), .false), ((.le (.c 0) (.op .add (.ap 22 (.v 0) (.v 1) (.v 2) (.v 6) (.v 3) (.c 0)) (.c (-1)))), .true), ((.lt (.c 0) (.ap 22 (.v 0) (.v 1) (.v 2) (.v 6) (.v 3) (.c 0))), .true), ((.le (.ap 22 (.v 0) (.v 1) (.v 2) (.v 6) (.v 3) (.c 0)) (.d 2)), .true), ((.eq (.ap 22 (.v 0) (.v 1) (.v 2) (.v 6) (.v 3) (.c 0)) (.c 0)), .false), ((.le (.v 2) (.c 4611686018427387904)), .true), ((.le (.v 1) (.v 0)), .true), ((.le (.v 3) (.d 1)), .true), ((.le (.op .add (.v 3) (.c 1)) (.d 1)), .true), ((.le (.v 3) (.d 0)), .true), ((.lt (.c 50) (.v 3)), .false), ((.le (.c 0) (.v 5)), .true), ((.le (.v 3) (.v 5)), .true)]) := by
  intro δ hf
  simp only [FT, TP, SB.tp, SI.tv, sta, IB.eval, and_true, true_and, ObsT, Ob.Tv, rowT, kix, In.tiv, In.tbv, get_cons, get_nil, reduceIte, Nat.reduceEqDiff, Int.reduceToNat, Int.reduceAdd, ap5, ne_eq, Bool.false_eq_true, not_true_eq_false, not_false_eq_true, FI_3, FI_7, FI_8, FI_9, FI_10, FI_11, FI_12, FI_13, FI_14, FI_15, FI_16, FI_17, FI_18, FI_19, FI_20, FI_21, FI_22, FI_23, FI_24, FI_25, FI_26, FI_27] at hf
  have a0 := ha.1 0 (by omega)
  have a1 := ha.1 1 (by omega)
  have a2 := ha.1 2 (by omega)
  have a3 := ha.1 3 (by omega)
  have a6 := ha.1 6 (by omega)
  have b0 := hin 0 (-9223372036854775808) 9223372036854775807 (by simp [lRuns, bW, b3])
  have b1 := hin 1 (-9223372036854775808) 9223372036854775807 (by simp [lRuns, bW, b3])
  have b2 := hin 2 0 18446744073709551615 (by simp [lRuns, bW, b3])
  have b3 := hin 3 0 9223372036854775807 (by simp [lRuns, bW])
  simp only [FT, TP, SB.tp, SI.tv, sta, IB.eval, and_true, true_and, ObsT, Ob.Tv, rowT, kix, In.tiv, In.tbv, get_cons, get_nil, reduceIte, Nat.reduceEqDiff, Int.reduceToNat, Int.reduceAdd, ap5, ne_eq, Bool.false_eq_true, not_true_eq_false, not_false_eq_true, FI_3, FI_7, FI_8, FI_9, FI_10, FI_11, FI_12, FI_13, FI_14, FI_15, FI_16, FI_17, FI_18, FI_19, FI_20, FI_21, FI_22, FI_23, FI_24, FI_25, FI_26, FI_27, lRuns, othT, a0, a1, a2, a3, a6] at hf ⊢
  obtain ⟨s1, s2, s3⟩ := run_same (iv0 0) (iv0 1) (iv0 2) (iv0 6) (iv0 3) 77 b3.1
  obtain ⟨w0, w1, w2⟩ := wraps b0 b1 b2
  have hl := M_len (v := iv0 0) (f := iv0 1) (r := iv0 2) (c := iv0 6) b3.1
  try simp only [s1, s2, s3, gt_setI, if_true, and_self, Int.reduceToNat, wrap77, not_true_eq_false, false_and, and_false] at hf
  all_goals (exfalso; rcases Nat.eq_zero_or_pos (M (iv0 0) (iv0 1) (iv0 2) (iv0 6) (iv0 3)) with hm | hm)
  all_goals (try obtain ⟨l0, l1, l2⟩ := want_last (iv0 0, iv0 1, iv0 2) (iv0 6) hm)
  all_goals (try simp only [l0, l1, l2, not_true_eq_false, false_and, and_false] at hf)
  all_goals (try simp only [hm, seq, w0, w1, w2, not_true_eq_false, false_and, and_false, Int.natCast_zero] at hf)
  all_goals omega

set_option maxHeartbeats 1000000 in
theorem lRuns_o0_18 (kv : Nat → Nat) (iv0 : Nat → Int) (bv0 : Nat → Bool) (hin : InB lRuns.B iv0) (hF : FT (sta FI FB kv iv0 bv0) (dlt dyn0) lRuns.F) (iv : Nat → Int) (bv : Nat → Bool) (ha : Agr 7 iv0 bv0 iv bv) (hi : lRuns_inv iv0 bv0 0 iv bv) :
    LfT (sta FI FB kv) lRuns.os (lRuns_inv iv0 bv0) (lRuns_mu iv0 bv0) 0 iv bv (.bad [((.le (.c 0) (.op .add (.ap 22 (.v 0) (.v 1) (.v 2) (.v 6) (.v 3) (.c 0)) (.c (-1)))), .false), ((.lt (.c 0) (.ap 22 (.v 0) (.v 1) (.v 2) (.v 6) (.v 3) (.c 0))), .true), ((.le (.ap 22 (.v 0) (.v 1) (.v 2) (.v 6) (.v 3) (.c 0)) (.d 2)), .true), ((.eq (.ap 22 (.v 0) (.v 1) (.v 2) (.v 6) (.v 3) (.c 0)) (.c 0)), .false), ((.le (.v 2) (.c 4611686018427387904)), .true), ((.le (.v 1) (.v 0)), .true), ((.le (.v 3) (.d 1)), .true), ((.le (.op .add (.v 3) (.c 1)) (.d 1)), .true), ((.le (.v 3) (.d 0)), .true), ((.lt (.c 50) (.v 3)), .false), ((.le (.c 0) (.v 5)), .true), ((.le (.v 3) (.v 5)), .true)]) := by
  intro δ hf
  simp only [FT, TP, SB.tp, SI.tv, sta, IB.eval, and_true, true_and, ObsT, Ob.Tv, rowT, kix, In.tiv, In.tbv, get_cons, get_nil, reduceIte, Nat.reduceEqDiff, Int.reduceToNat, Int.reduceAdd, ap5, ne_eq, Bool.false_eq_true, not_true_eq_false, not_false_eq_true, FI_3, FI_7, FI_8, FI_9, FI_10, FI_11, FI_12, FI_13, FI_14, FI_15, FI_16, FI_17, FI_18, FI_19, FI_20, FI_21, FI_22, FI_23, FI_24, FI_25, FI_26, FI_27] at hf
  have a0 := ha.1 0 (by omega)
  have a1 := ha.1 1 (by omega)
  have a2 := ha.1 2 (by omega)
  have a3 := ha.1 3 (by omega)
  have a6 := ha.1 6 (by omega)
  have b0 := hin 0 (-9223372036854775808) 9223372036854775807 (by simp [lRuns, bW, b3])
  have b1 := hin 1 (-9223372036854775808) 9223372036854775807 (by simp [lRuns, bW, b3])
  have b2 := hin 2 0 18446744073709551615 (by simp [lRuns, bW, b3])
  have b3 := hin 3 0 9223372036854775807 (by simp [lRuns, bW])
  simp only [FT, TP, SB.tp, SI.tv, sta, IB.eval, and_true, true_and, ObsT, Ob.Tv, rowT, kix, In.tiv, In.tbv, get_cons, get_nil, reduceIte, Nat.reduceEqDiff, Int.reduceToNat, Int.reduceAdd, ap5, ne_eq, Bool.false_eq_true, not_true_eq_false, not_false_eq_true, FI_3, FI_7, FI_8, FI_9, FI_10, FI_11, FI_12, FI_13, FI_14, FI_15, FI_16, FI_17, FI_18, FI_19, FI_20, FI_21, FI_22, FI_23, FI_24, FI_25, FI_26, FI_27, lRuns, othT, a0, a1, a2, a3, a6] at hf ⊢
  obtain ⟨s1, s2, s3⟩ := run_same (iv0 0) (iv0 1) (iv0 2) (iv0 6) (iv0 3) 77 b3.1
  obtain ⟨w0, w1, w2⟩ := wraps b0 b1 b2
  have hl := M_len (v := iv0 0) (f := iv0 1) (r := iv0 2) (c := iv0 6) b3.1
  try simp only [s1, s2, s3, gt_setI, if_true, and_self, Int.reduceToNat, wrap77, not_true_eq_false, false_and, and_false] at hf
  all_goals (exfalso; rcases Nat.eq_zero_or_pos (M (iv0 0) (iv0 1) (iv0 2) (iv0 6) (iv0 3)) with hm | hm)
  all_goals (try obtain ⟨l0, l1, l2⟩ := want_last (iv0 0, iv0 1, iv0 2) (iv0 6) hm)
  all_goals (try simp only [l0, l1, l2, not_true_eq_false, false_and, and_false] at hf)
  all_goals (try simp only [hm, seq, w0, w1, w2, not_true_eq_false, false_and, and_false, Int.natCast_zero] at hf)
  all_goals omega

set_option maxHeartbeats 1000000 in
theorem lRuns_o0_19 (kv : Nat → Nat) (iv0 : Nat → Int) (bv0 : Nat → Bool) (hin : InB lRuns.B iv0) (hF : FT (sta FI FB kv iv0 bv0) (dlt dyn0) lRuns.F) (iv : Nat → Int) (bv : Nat → Bool) (ha : Agr 7 iv0 bv0 iv bv) (hi : lRuns_inv iv0 bv0 0 iv bv) :
    LfT (sta FI FB kv) lRuns.os (lRuns_inv iv0 bv0) (lRuns_mu iv0 bv0) 0 iv bv (.fin [((.eq (.ap 3 (.ap 8 (.v 6) (.v 3) (.c 0) (.c 77) (.c 0) (.c 0)) (.v 3) (.c 0) (.c 0) (.c 0) (.c 0)) (.c 77)), .true), ((.lt (.v 3) (.op .add (.v 3) (.c 1))), .true), ((.eq (.ap 23 (.v 0) (.v 1) (.v 2) (.ap 8 (.v 6) (.v 3) (.c 0) (.c 77) (.c 0) (.c 0)) (.v 3) (.c 0)) (.ap 23 (.v 0) (.v 1) (.v 2) (.v 6) (.v 3) (.c 0))), .true), ((.eq (.ap 22 (.v 0) (.v 1) (.v 2) (.ap 8 (.v 6) (.v 3) (.c 0) (.c 77) (.c 0) (.c 0)) (.v 3) (.c 0)) (.ap 22 (.v 0) (.v 1) (.v 2) (.v 6) (.v 3) (.c 0))), .true), ((.eq (.ap 27 (.v 0) (.v 1) (.v 2) (.ap 8 (.v 6) (.v 3) (.c 0) (.c 77) (.c 0) (.c 0)) (.v 3) (.c 0)) (.v 2)), .true), ((.eq (.ap 26 (.v 0) (.v 1) (.v 2) (.ap 8 (.v 6) (.v 3) (.c 0) (.c 77) (.c 0) (.c 0)) (.v 3) (.c 0)) (.v 1)), .true), ((.eq (.ap 25 (.v 0) (.v 1) (.v 2) (.ap 8 (.v 6) (.v 3) (.c 0) (.c 77) (.c 0) (.c 0)) (.v 3) (.c 0)) (.v 0)), .true), ((.lt (.c 0) (.ap 22 (.v 0) (.v 1) (.v 2) (.v 6) (.v 3) (.c 0))), .false), ((.le (.ap 22 (.v 0) (.v 1) (.v 2) (.v 6) (.v 3) (.c 0)) (.d 2)), .true), ((.eq (.ap 22 (.v 0) (.v 1) (.v 2) (.v 6) (.v 3) (.c 0)) (.c 0)), .false), ((.le (.v 2) (.c 4611686018427387904)), .true), ((.le (.v 1) (.v 0)), .true), ((.le (.v 3) (.d 1)), .true), ((.le (.op .add (.v 3) (.c 1)) (.d 1)), .true), ((.le (.v 3) (.d 0)), .true), ((.lt (.c 50) (.v 3)), .false), ((.le (.c 0) (.v 5)), .true), ((.le (.v 3) (.v 5)), .true)] 0 ⟨⟨[], []⟩, [], [], []⟩ [] []) := by
  intro δ hf
  simp only [FT, TP, SB.tp, SI.tv, sta, IB.eval, and_true, true_and, ObsT, Ob.Tv, rowT, kix, In.tiv, In.tbv, get_cons, get_nil, reduceIte, Nat.reduceEqDiff, Int.reduceToNat, Int.reduceAdd, ap5, ne_eq, Bool.false_eq_true, not_true_eq_false, not_false_eq_true, FI_3, FI_7, FI_8, FI_9, FI_10, FI_11, FI_12, FI_13, FI_14, FI_15, FI_16, FI_17, FI_18, FI_19, FI_20, FI_21, FI_22, FI_23, FI_24, FI_25, FI_26, FI_27] at hf
  have a0 := ha.1 0 (by omega)
  have a1 := ha.1 1 (by omega)
  have a2 := ha.1 2 (by omega)
  have a3 := ha.1 3 (by omega)
  have a6 := ha.1 6 (by omega)
  have b0 := hin 0 (-9223372036854775808) 9223372036854775807 (by simp [lRuns, bW, b3])
  have b1 := hin 1 (-9223372036854775808) 9223372036854775807 (by simp [lRuns, bW, b3])
  have b2 := hin 2 0 18446744073709551615 (by simp [lRuns, bW, b3])
  have b3 := hin 3 0 9223372036854775807 (by simp [lRuns, bW])
  simp only [FT, TP, SB.tp, SI.tv, sta, IB.eval, and_true, true_and, ObsT, Ob.Tv, rowT, kix, In.tiv, In.tbv, get_cons, get_nil, reduceIte, Nat.reduceEqDiff, Int.reduceToNat, Int.reduceAdd, ap5, ne_eq, Bool.false_eq_true, not_true_eq_false, not_false_eq_true, FI_3, FI_7, FI_8, FI_9, FI_10, FI_11, FI_12, FI_13, FI_14, FI_15, FI_16, FI_17, FI_18, FI_19, FI_20, FI_21, FI_22, FI_23, FI_24, FI_25, FI_26, FI_27, lRuns, othT, a0, a1, a2, a3, a6] at hf ⊢
  simp [othT, o1]

set_option maxHeartbeats 1000000 in
theorem lRuns_o0_20 (kv : Nat → Nat) (iv0 : Nat → Int) (bv0 : Nat → Bool) (hin : InB lRuns.B iv0) (hF : FT (sta FI FB kv iv0 bv0) (dlt dyn0) lRuns.F) (iv : Nat → Int) (bv : Nat → Bool) (ha : Agr 7 iv0 bv0 iv bv) (hi : lRuns_inv iv0 bv0 0 iv bv) :
    LfT (sta FI FB kv) lRuns.os (lRuns_inv iv0 bv0) (lRuns_mu iv0 bv0) 0 iv bv (.fin [((.eq (.ap 3 (.ap 8 (.v 6) (.v 3) (.c 0) (.c 77) (.c 0) (.c 0)) (.v 3) (.c 0) (.c 0) (.c 0) (.c 0)) (.c 77)), .false), ((.lt (.v 3) (.op .add (.v 3) (.c 1))), .true), ((.eq (.ap 23 (.v 0) (.v 1) (.v 2) (.ap 8 (.v 6) (.v 3) (.c 0) (.c 77) (.c 0) (.c 0)) (.v 3) (.c 0)) (.ap 23 (.v 0) (.v 1) (.v 2) (.v 6) (.v 3) (.c 0))), .true), ((.eq (.ap 22 (.v 0) (.v 1) (.v 2) (.ap 8 (.v 6) (.v 3) (.c 0) (.c 77) (.c 0) (.c 0)) (.v 3) (.c 0)) (.ap 22 (.v 0) (.v 1) (.v 2) (.v 6) (.v 3) (.c 0))), .true), ((.eq (.ap 27 (.v 0) (.v 1) (.v 2) (.ap 8 (.v 6) (.v 3) (.c 0) (.c 77) (.c 0) (.c 0)) (.v 3) (.c 0)) (.v 2)), .true), ((.eq (.ap 26 (.v 0) (.v 1) (.v 2) (.ap 8 (.v 6) (.v 3) (.c 0) (.c 77) (.c 0) (.c 0)) (.v 3) (.c 0)) (.v 1)), .true), ((.eq (.ap 25 (.v 0) (.v 1) (.v 2) (.ap 8 (.v 6) (.v 3) (.c 0) (.c 77) (.c 0) (.c 0)) (.v 3) (.c 0)) (.v 0)), .true), ((.lt (.c 0) (.ap 22 (.v 0) (.v 1) (.v 2) (.v 6) (.v 3) (.c 0))), .false), ((.le (.ap 22 (.v 0) (.v 1) (.v 2) (.v 6) (.v 3) (.c 0)) (.d 2)), .true), ((.eq (.ap 22 (.v 0) (.v 1) (.v 2) (.v 6) (.v 3) (.c 0)) (.c 0)), .false), ((.le (.v 2) (.c 4611686018427387904)), .true), ((.le (.v 1) (.v 0)), .true), ((.le (.v 3) (.d 1)), .true), ((.le (.op .add (.v 3) (.c 1)) (.d 1)), .true), ((.le (.v 3) (.d 0)), .true), ((.lt (.c 50) (.v 3)), .false), ((.le (.c 0) (.v 5)), .true), ((.le (.v 3) (.v 5)), .true)] 0 ⟨⟨[], []⟩, [], [], []⟩ [(.eb (.c .true) (.c .false))] []) := by
  intro δ hf
  simp only [FT, TP, SB.tp, SI.tv, sta, IB.eval, and_true, true_and, ObsT, Ob.Tv, rowT, kix, In.tiv, In.tbv, get_cons, get_nil, reduceIte, Nat.reduceEqDiff, Int.reduceToNat, Int.reduceAdd, ap5, ne_eq, Bool.false_eq_true, not_true_eq_false, not_false_eq_true, FI_3, FI_7, FI_8, FI_9, FI_10, FI_11, FI_12, FI_13, FI_14, FI_15, FI_16, FI_17, FI_18, FI_19, FI_20, FI_21, FI_22, FI_23, FI_24, FI_25, FI_26, FI_27] at hf
  have a0 := ha.1 0 (by omega)
  have a1 := ha.1 1 (by omega)
  have a2 := ha.1 2 (by omega)
  have a3 := ha.1 3 (by omega)
  have a6 := ha.1 6 (by omega)
  have b0 := hin 0 (-9223372036854775808) 9223372036854775807 (by simp [lRuns, bW, b3])
  have b1 := hin 1 (-9223372036854775808) 9223372036854775807 (by simp [lRuns, bW, b3])
  have b2 := hin 2 0 18446744073709551615 (by simp [lRuns, bW, b3])
  have b3 := hin 3 0 9223372036854775807 (by simp [lRuns, bW])
  simp only [FT, TP, SB.tp, SI.tv, sta, IB.eval, and_true, true_and, ObsT, Ob.Tv, rowT, kix, In.tiv, In.tbv, get_cons, get_nil, reduceIte, Nat.reduceEqDiff, Int.reduceToNat, Int.reduceAdd, ap5, ne_eq, Bool.false_eq_true, not_true_eq_false, not_false_eq_true, FI_3, FI_7, FI_8, FI_9, FI_10, FI_11, FI_12, FI_13, FI_14, FI_15, FI_16, FI_17, FI_18, FI_19, FI_20, FI_21, FI_22, FI_23, FI_24, FI_25, FI_26, FI_27, lRuns, othT, a0, a1, a2, a3, a6] at hf ⊢
  obtain ⟨s1, s2, s3⟩ := run_same (iv0 0) (iv0 1) (iv0 2) (iv0 6) (iv0 3) 77 b3.1
  obtain ⟨w0, w1, w2⟩ := wraps b0 b1 b2
  have hl := M_len (v := iv0 0) (f := iv0 1) (r := iv0 2) (c := iv0 6) b3.1
  try simp only [s1, s2, s3, gt_setI, if_true, and_self, Int.reduceToNat, wrap77, not_true_eq_false, false_and, and_false] at hf
  all_goals (exfalso; rcases Nat.eq_zero_or_pos (M (iv0 0) (iv0 1) (iv0 2) (iv0 6) (iv0 3)) with hm | hm)
  all_goals (try obtain ⟨l0, l1, l2⟩ := want_last (iv0 0, iv0 1, iv0 2) (iv0 6) hm)
  all_goals (try simp only [l0, l1, l2, not_true_eq_false, false_and, and_false] at hf)
  all_goals (try simp only [hm, seq, w0, w1, w2, not_true_eq_false, false_and, and_false, Int.natCast_zero] at hf)
  all_goals omega

set_option maxHeartbeats 1000000 in
theorem lRuns_o0_21 (kv : Nat → Nat) (iv0 : Nat → Int) (bv0 : Nat → Bool) (hin : InB lRuns.B iv0) (hF : FT (sta FI FB kv iv0 bv0) (dlt dyn0) lRuns.F) (iv : Nat → Int) (bv : Nat → Bool) (ha : Agr 7 iv0 bv0 iv bv) (hi : lRuns_inv iv0 bv0 0 iv bv) :
    LfT (sta FI FB kv) lRuns.os (lRuns_inv iv0 bv0) (lRuns_mu iv0 bv0) 0 iv bv (.bad [((.lt (.v 3) (.op .add (.v 3) (.c 1))), .false), ((.eq (.ap 23 (.v 0) (.v 1) (.v 2) (.ap 8 (.v 6) (.v 3) (.c 0) (.c 77) (.c 0) (.c 0)) (.v 3) (.c 0)) (.ap 23 (.v 0) (.v 1) (.v 2) (.v 6) (.v 3) (.c 0))), .true), ((.eq (.ap 22 (.v 0) (.v 1) (.v 2) (.ap 8 (.v 6) (.v 3) (.c 0) (.c 77) (.c 0) (.c 0)) (.v 3) (.c 0)) (.ap 22 (.v 0) (.v 1) (.v 2) (.v 6) (.v 3) (.c 0))), .true), ((.eq (.ap 27 (.v 0) (.v 1) (.v 2) (.ap 8 (.v 6) (.v 3) (.c 0) (.c 77) (.c 0) (.c 0)) (.v 3) (.c 0)) (.v 2)), .true), ((.eq (.ap 26 (.v 0) (.v 1) (.v 2) (.ap 8 (.v 6) (.v 3) (.c 0) (.c 77) (.c 0) (.c 0)) (.v 3) (.c 0)) (.v 1)), .true), ((.eq (.ap 25 (.v 0) (.v 1) (.v 2) (.ap 8 (.v 6) (.v 3) (.c 0) (.c 77) (.c 0) (.c 0)) (.v 3) (.c 0)) (.v 0)), .true), ((.lt (.c 0) (.ap 22 (.v 0) (.v 1) (.v 2) (.v 6) (.v 3) (.c 0))), .false), ((.le (.ap 22 (.v 0) (.v 1) (.v 2) (.v 6) (.v 3) (.c 0)) (.d 2)), .true), ((.eq (.ap 22 (.v 0) (.v 1) (.v 2) (.v 6) (.v 3) (.c 0)) (.c 0)), .false), ((.le (.v 2) (.c 4611686018427387904)), .true), ((.le (.v 1) (.v 0)), .true), ((.le (.v 3) (.d 1)), .true), ((.le (.op .add (.v 3) (.c 1)) (.d 1)), .true), ((.le (.v 3) (.d 0)), .true), ((.lt (.c 50) (.v 3)), .false), ((.le (.c 0) (.v 5)), .true), ((.le (.v 3) (.v 5)), .true)]) := by
  intro δ hf
  simp only [FT, TP, SB.tp, SI.tv, sta, IB.eval, and_true, true_and, ObsT, Ob.Tv, rowT, kix, In.tiv, In.tbv, get_cons, get_nil, reduceIte, Nat.reduceEqDiff, Int.reduceToNat, Int.reduceAdd, ap5, ne_eq, Bool.false_eq_true, not_true_eq_false, not_false_eq_true, FI_3, FI_7, FI_8, FI_9, FI_10, FI_11, FI_12, FI_13, FI_14, FI_15, FI_16, FI_17, FI_18, FI_19, FI_20, FI_21, FI_22, FI_23, FI_24, FI_25, FI_26, FI_27] at hf
  have a0 := ha.1 0 (by omega)
  have a1 := ha.1 1 (by omega)
  have a2 := ha.1 2 (by omega)
  have a3 := ha.1 3 (by omega)
  have a6 := ha.1 6 (by omega)
  have b0 := hin 0 (-9223372036854775808) 9223372036854775807 (by simp [lRuns, bW, b3])
  have b1 := hin 1 (-9223372036854775808) 9223372036854775807 (by simp [lRuns, bW, b3])
  have b2 := hin 2 0 18446744073709551615 (by simp [lRuns, bW, b3])
  have b3 := hin 3 0 9223372036854775807 (by simp [lRuns, bW])
  simp only [FT, TP, SB.tp, SI.tv, sta, IB.eval, and_true, true_and, ObsT, Ob.Tv, rowT, kix, In.tiv, In.tbv, get_cons, get_nil, reduceIte, Nat.reduceEqDiff, Int.reduceToNat, Int.reduceAdd, ap5, ne_eq, Bool.false_eq_true, not_true_eq_false, not_false_eq_true, FI_3, FI_7, FI_8, FI_9, FI_10, FI_11, FI_12, FI_13, FI_14, FI_15, FI_16, FI_17, FI_18, FI_19, FI_20, FI_21, FI_22, FI_23, FI_24, FI_25, FI_26, FI_27, lRuns, othT, a0, a1, a2, a3, a6] at hf ⊢
  obtain ⟨s1, s2, s3⟩ := run_same (iv0 0) (iv0 1) (iv0 2) (iv0 6) (iv0 3) 77 b3.1
  obtain ⟨w0, w1, w2⟩ := wraps b0 b1 b2
  have hl := M_len (v := iv0 0) (f := iv0 1) (r := iv0 2) (c := iv0 6) b3.1
  try simp only [s1, s2, s3, gt_setI, if_true, and_self, Int.reduceToNat, wrap77, not_true_eq_false, false_and, and_false] at hf
  all_goals (exfalso; rcases Nat.eq_zero_or_pos (M (iv0 0) (iv0 1) (iv0 2) (iv0 6) (iv0 3)) with hm | hm)
  all_goals (try obtain ⟨l0, l1, l2⟩ := want_last (iv0 0, iv0 1, iv0 2) (iv0 6) hm)
  all_goals (try simp only [l0, l1, l2, not_true_eq_false, false_and, and_false] at hf)
  all_goals (try simp only [hm, seq, w0, w1, w2, not_true_eq_false, false_and, and_false, Int.natCast_zero] at hf)
  all_goals omega

set_option maxHeartbeats 1000000 in
theorem lRuns_o0_22 (kv : Nat → Nat) (iv0 : Nat → Int) (bv0 : Nat → Bool) (hin : InB lRuns.B iv0) (hF : FT (sta FI FB kv iv0 bv0) (dlt dyn0) lRuns.F) (iv : Nat → Int) (bv : Nat → Bool) (ha : Agr 7 iv0 bv0 iv bv) (hi : lRuns_inv iv0 bv0 0 iv bv) :
    LfT (sta FI FB kv) lRuns.os (lRuns_inv iv0 bv0) (lRuns_mu iv0 bv0) 0 iv bv (.fin [((.eq (.ap 23 (.v 0) (.v 1) (.v 2) (.ap 8 (.v 6) (.v 3) (.c 0) (.c 77) (.c 0) (.c 0)) (.v 3) (.c 0)) (.ap 23 (.v 0) (.v 1) (.v 2) (.v 6) (.v 3) (.c 0))), .false), ((.eq (.ap 22 (.v 0) (.v 1) (.v 2) (.ap 8 (.v 6) (.v 3) (.c 0) (.c 77) (.c 0) (.c 0)) (.v 3) (.c 0)) (.ap 22 (.v 0) (.v 1) (.v 2) (.v 6) (.v 3) (.c 0))), .true), ((.eq (.ap 27 (.v 0) (.v 1) (.v 2) (.ap 8 (.v 6) (.v 3) (.c 0) (.c 77) (.c 0) (.c 0)) (.v 3) (.c 0)) (.v 2)), .true), ((.eq (.ap 26 (.v 0) (.v 1) (.v 2) (.ap 8 (.v 6) (.v 3) (.c 0) (.c 77) (.c 0) (.c 0)) (.v 3) (.c 0)) (.v 1)), .true), ((.eq (.ap 25 (.v 0) (.v 1) (.v 2) (.ap 8 (.v 6) (.v 3) (.c 0) (.c 77) (.c 0) (.c 0)) (.v 3) (.c 0)) (.v 0)), .true), ((.lt (.c 0) (.ap 22 (.v 0) (.v 1) (.v 2) (.v 6) (.v 3) (.c 0))), .false), ((.le (.ap 22 (.v 0) (.v 1) (.v 2) (.v 6) (.v 3) (.c 0)) (.d 2)), .true), ((.eq (.ap 22 (.v 0) (.v 1) (.v 2) (.v 6) (.v 3) (.c 0)) (.c 0)), .false), ((.le (.v 2) (.c 4611686018427387904)), .true), ((.le (.v 1) (.v 0)), .true), ((.le (.v 3) (.d 1)), .true), ((.le (.op .add (.v 3) (.c 1)) (.d 1)), .true), ((.le (.v 3) (.d 0)), .true), ((.lt (.c 50) (.v 3)), .false), ((.le (.c 0) (.v 5)), .true), ((.le (.v 3) (.v 5)), .true)] 0 ⟨⟨[], []⟩, [], [], []⟩ [(.eb (.c .true) (.c .false))] []) := by
  intro δ hf
  simp only [FT, TP, SB.tp, SI.tv, sta, IB.eval, and_true, true_and, ObsT, Ob.Tv, rowT, kix, In.tiv, In.tbv, get_cons, get_nil, reduceIte, Nat.reduceEqDiff, Int.reduceToNat, Int.reduceAdd, ap5, ne_eq, Bool.false_eq_true, not_true_eq_false, not_false_eq_true, FI_3, FI_7, FI_8, FI_9, FI_10, FI_11, FI_12, FI_13, FI_14, FI_15, FI_16, FI_17, FI_18, FI_19, FI_20, FI_21, FI_22, FI_23, FI_24, FI_25, FI_26, FI_27] at hf
  have a0 := ha.1 0 (by omega)
  have a1 := ha.1 1 (by omega)
  have a2 := ha.1 2 (by omega)
  have a3 := ha.1 3 (by omega)
  have a6 := ha.1 6 (by omega)
  have b0 := hin 0 (-9223372036854775808) 9223372036854775807 (by simp [lRuns, bW, b3])
  have b1 := hin 1 (-9223372036854775808) 9223372036854775807 (by simp [lRuns, bW, b3])
  have b2 := hin 2 0 18446744073709551615 (by simp [lRuns, bW, b3])
  have b3 := hin 3 0 9223372036854775807 (by simp [lRuns, bW])
  simp only [FT, TP, SB.tp, SI.tv, sta, IB.eval, and_true, true_and, ObsT, Ob.Tv, rowT, kix, In.tiv, In.tbv, get_cons, get_nil, reduceIte, Nat.reduceEqDiff, Int.reduceToNat, Int.reduceAdd, ap5, ne_eq, Bool.false_eq_true, not_true_eq_false, not_false_eq_true, FI_3, FI_7, FI_8, FI_9, FI_10, FI_11, FI_12, FI_13, FI_14, FI_15, FI_16, FI_17, FI_18, FI_19, FI_20, FI_21, FI_22, FI_23, FI_24, FI_25, FI_26, FI_27, lRuns, othT, a0, a1, a2, a3, a6] at hf ⊢
  obtain ⟨s1, s2, s3⟩ := run_same (iv0 0) (iv0 1) (iv0 2) (iv0 6) (iv0 3) 77 b3.1
  obtain ⟨w0, w1, w2⟩ := wraps b0 b1 b2
  have hl := M_len (v := iv0 0) (f := iv0 1) (r := iv0 2) (c := iv0 6) b3.1
  try simp only [s1, s2, s3, gt_setI, if_true, and_self, Int.reduceToNat, wrap77, not_true_eq_false, false_and, and_false] at hf
  all_goals (exfalso; rcases Nat.eq_zero_or_pos (M (iv0 0) (iv0 1) (iv0 2) (iv0 6) (iv0 3)) with hm | hm)
  all_goals (try obtain ⟨l0, l1, l2⟩ := want_last (iv0 0, iv0 1, iv0 2) (iv0 6) hm)
  all_goals (try simp only [l0, l1, l2, not_true_eq_false, false_and, and_false] at hf)
  all_goals (try simp only [hm, seq, w0, w1, w2, not_true_eq_false, false_and, and_false, Int.natCast_zero] at hf)
  all_goals omega

set_option maxHeartbeats 1000000 in
theorem lRuns_o0_23 (kv : Nat → Nat) (iv0 : Nat → Int) (bv0 : Nat → Bool) (hin : InB lRuns.B iv0) (hF : FT (sta FI FB kv iv0 bv0) (dlt dyn0) lRuns.F) (iv : Nat → Int) (bv : Nat → Bool) (ha : Agr 7 iv0 bv0 iv bv) (hi : lRuns_inv iv0 bv0 0 iv bv) :
    LfT (sta FI FB kv) lRuns.os (lRuns_inv iv0 bv0) (lRuns_mu iv0 bv0) 0 iv bv (.fin [((.eq (.ap 22 (.v 0) (.v 1) (.v 2) (.ap 8 (.v 6) (.v 3) (.c 0) (.c 77) (.c 0) (.c 0)) (.v 3) (.c 0)) (.ap 22 (.v 0) (.v 1) (.v 2) (.v 6) (.v 3) (.c 0))), .false), ((.eq (.ap 27 (.v 0) (.v 1) (.v 2) (.ap 8 (.v 6) (.v 3) (.c 0) (.c 77) (.c 0) (.c 0)) (.v 3) (.c 0)) (.v 2)), .true), ((.eq (.ap 26 (.v 0) (.v 1) (.v 2) (.ap 8 (.v 6) (.v 3) (.c 0) (.c 77) (.c 0) (.c 0)) (.v 3) (.c 0)) (.v 1)), .true), ((.eq (.ap 25 (.v 0) (.v 1) (.v 2) (.ap 8 (.v 6) (.v 3) (.c 0) (.c 77) (.c 0) (.c 0)) (.v 3) (.c 0)) (.v 0)), .true), ((.lt (.c 0) (.ap 22 (.v 0) (.v 1) (.v 2) (.v 6) (.v 3) (.c 0))), .false), ((.le (.ap 22 (.v 0) (.v 1) (.v 2) (.v 6) (.v 3) (.c 0)) (.d 2)), .true), ((.eq (.ap 22 (.v 0) (.v 1) (.v 2) (.v 6) (.v 3) (.c 0)) (.c 0)), .false), ((.le (.v 2) (.c 4611686018427387904)), .true), ((.le (.v 1) (.v 0)), .true), ((.le (.v 3) (.d 1)), .true), ((.le (.op .add (.v 3) (.c 1)) (.d 1)), .true), ((.le (.v 3) (.d 0)), .true), ((.lt (.c 50) (.v 3)), .false), ((.le (.c 0) (.v 5)), .true), ((.le (.v 3) (.v 5)), .true)] 0 ⟨⟨[], []⟩, [], [], []⟩ [(.eb (.c .true) (.c .false))] []) := by
  intro δ hf
  simp only [FT, TP, SB.tp, SI.tv, sta, IB.eval, and_true, true_and, ObsT, Ob.Tv, rowT, kix, In.tiv, In.tbv, get_cons, get_nil, reduceIte, Nat.reduceEqDiff, Int.reduceToNat, Int.reduceAdd, ap5, ne_eq, Bool.false_eq_true, not_true_eq_false, not_false_eq_true, FI_3, FI_7, FI_8, FI_9, FI_10, FI_11, FI_12, FI_13, FI_14, FI_15, FI_16, FI_17, FI_18, FI_19, FI_20, FI_21, FI_22, FI_23, FI_24, FI_25, FI_26, FI_27] at hf
  have a0 := ha.1 0 (by omega)
  have a1 := ha.1 1 (by omega)
  have a2 := ha.1 2 (by omega)
  have a3 := ha.1 3 (by omega)
  have a6 := ha.1 6 (by omega)
  have b0 := hin 0 (-9223372036854775808) 9223372036854775807 (by simp [lRuns, bW, b3])
  have b1 := hin 1 (-9223372036854775808) 9223372036854775807 (by simp [lRuns, bW, b3])
  have b2 := hin 2 0 18446744073709551615 (by simp [lRuns, bW, b3])
  have b3 := hin 3 0 9223372036854775807 (by simp [lRuns, bW])
  simp only [FT, TP, SB.tp, SI.tv, sta, IB.eval, and_true, true_and, ObsT, Ob.Tv, rowT, kix, In.tiv, In.tbv, get_cons, get_nil, reduceIte, Nat.reduceEqDiff, Int.reduceToNat, Int.reduceAdd, ap5, ne_eq, Bool.false_eq_true, not_true_eq_false, not_false_eq_true, FI_3, FI_7, FI_8, FI_9, FI_10, FI_11, FI_12, FI_13, FI_14, FI_15, FI_16, FI_17, FI_18, FI_19, FI_20, FI_21, FI_22, FI_23, FI_24, FI_25, FI_26, FI_27, lRuns, othT, a0, a1, a2, a3, a6] at hf ⊢
  obtain ⟨s1, s2, s3⟩ := run_same (iv0 0) (iv0 1) (iv0 2) (iv0 6) (iv0 3) 77 b3.1
  obtain ⟨w0, w1, w2⟩ := wraps b0 b1 b2
  have hl := M_len (v := iv0 0) (f := iv0 1) (r := iv0 2) (c := iv0 6) b3.1
  try simp only [s1, s2, s3, gt_setI, if_true, and_self, Int.reduceToNat, wrap77, not_true_eq_false, false_and, and_false] at hf
  all_goals (exfalso; rcases Nat.eq_zero_or_pos (M (iv0 0) (iv0 1) (iv0 2) (iv0 6) (iv0 3)) with hm | hm)
  all_goals (try obtain ⟨l0, l1, l2⟩ := want_last (iv0 0, iv0 1, iv0 2) (iv0 6) hm)
  all_goals (try simp only [l0, l1, l2, not_true_eq_false, false_and, and_false] at hf)
  all_goals (try simp only [hm, seq, w0, w1, w2, not_true_eq_false, false_and, and_false, Int.natCast_zero] at hf)
  all_goals omega

set_option maxHeartbeats 1000000 in
theorem lRuns_o0_24 (kv : Nat → Nat) (iv0 : Nat → Int) (bv0 : Nat → Bool) (hin : InB lRuns.B iv0) (hF : FT (sta FI FB kv iv0 bv0) (dlt dyn0) lRuns.F) (iv : Nat → Int) (bv : Nat → Bool) (ha : Agr 7 iv0 bv0 iv bv) (hi : lRuns_inv iv0 bv0 0 iv bv) :
    LfT (sta FI FB kv) lRuns.os (lRuns_inv iv0 bv0) (lRuns_mu iv0 bv0) 0 iv bv (.fin [((.eq (.ap 27 (.v 0) (.v 1) (.v 2) (.ap 8 (.v 6) (.v 3) (.c 0) (.c 77) (.c 0) (.c 0)) (.v 3) (.c 0)) (.v 2)), .false), ((.eq (.ap 26 (.v 0) (.v 1) (.v 2) (.ap 8 (.v 6) (.v 3) (.c 0) (.c 77) (.c 0) (.c 0)) (.v 3) (.c 0)) (.v 1)), .true), ((.eq (.ap 25 (.v 0) (.v 1) (.v 2) (.ap 8 (.v 6) (.v 3) (.c 0) (.c 77) (.c 0) (.c 0)) (.v 3) (.c 0)) (.v 0)), .true), ((.lt (.c 0) (.ap 22 (.v 0) (.v 1) (.v 2) (.v 6) (.v 3) (.c 0))), .false), ((.le (.ap 22 (.v 0) (.v 1) (.v 2) (.v 6) (.v 3) (.c 0)) (.d 2)), .true), ((.eq (.ap 22 (.v 0) (.v 1) (.v 2) (.v 6) (.v 3) (.c 0)) (.c 0)), .false), ((.le (.v 2) (.c 4611686018427387904)), .true), ((.le (.v 1) (.v 0)), .true), ((.le (.v 3) (.d 1)), .true), ((.le (.op .add (.v 3) (.c 1)) (.d 1)), .true), ((.le (.v 3) (.d 0)), .true), ((.lt (.c 50) (.v 3)), .false), ((.le (.c 0) (.v 5)), .true), ((.le (.v 3) (.v 5)), .true)] 0 ⟨⟨[], []⟩, [], [], []⟩ [(.eb (.c .true) (.c .false))] []) := by
  intro δ hf
  simp only [FT, TP, SB.tp, SI.tv, sta, IB.eval, and_true, true_and, ObsT, Ob.Tv, rowT, kix, In.tiv, In.tbv, get_cons, get_nil, reduceIte, Nat.reduceEqDiff, Int.reduceToNat, Int.reduceAdd, ap5, ne_eq, Bool.false_eq_true, not_true_eq_false, not_false_eq_true, FI_3, FI_7, FI_8, FI_9, FI_10, FI_11, FI_12, FI_13, FI_14, FI_15, FI_16, FI_17, FI_18, FI_19, FI_20, FI_21, FI_22, FI_23, FI_24, FI_25, FI_26, FI_27] at hf
  have a0 := ha.1 0 (by omega)
  have a1 := ha.1 1 (by omega)
  have a2 := ha.1 2 (by omega)
  have a3 := ha.1 3 (by omega)
  have a6 := ha.1 6 (by omega)
  have b0 := hin 0 (-9223372036854775808) 9223372036854775807 (by simp [lRuns, bW, b3])
  have b1 := hin 1 (-9223372036854775808) 9223372036854775807 (by simp [lRuns, bW, b3])
  have b2 := hin 2 0 18446744073709551615 (by simp [lRuns, bW, b3])
  have b3 := hin 3 0 9223372036854775807 (by simp [lRuns, bW])
  simp only [FT, TP, SB.tp, SI.tv, sta, IB.eval, and_true, true_and, ObsT, Ob.Tv, rowT, kix, In.tiv, In.tbv, get_cons, get_nil, reduceIte, Nat.reduceEqDiff, Int.reduceToNat, Int.reduceAdd, ap5, ne_eq, Bool.false_eq_true, not_true_eq_false, not_false_eq_true, FI_3, FI_7, FI_8, FI_9, FI_10, FI_11, FI_12, FI_13, FI_14, FI_15, FI_16, FI_17, FI_18, FI_19, FI_20, FI_21, FI_22, FI_23, FI_24, FI_25, FI_26, FI_27, lRuns, othT, a0, a1, a2, a3, a6] at hf ⊢
  obtain ⟨s1, s2, s3⟩ := run_same (iv0 0) (iv0 1) (iv0 2) (iv0 6) (iv0 3) 77 b3.1
  obtain ⟨w0, w1, w2⟩ := wraps b0 b1 b2
  have hl := M_len (v := iv0 0) (f := iv0 1) (r := iv0 2) (c := iv0 6) b3.1
  try simp only [s1, s2, s3, gt_setI, if_true, and_self, Int.reduceToNat, wrap77, not_true_eq_false, false_and, and_false] at hf
  all_goals (exfalso; rcases Nat.eq_zero_or_pos (M (iv0 0) (iv0 1) (iv0 2) (iv0 6) (iv0 3)) with hm | hm)
  all_goals (try obtain ⟨l0, l1, l2⟩ := want_last (iv0 0, iv0 1, iv0 2) (iv0 6) hm)
  all_goals (try simp only [l0, l1, l2, not_true_eq_false, false_and, and_false] at hf)
  all_goals (try simp only [hm, seq, w0, w1, w2, not_true_eq_false, false_and, and_false, Int.natCast_zero] at hf)
  all_goals omega

set_option maxHeartbeats 1000000 in
theorem lRuns_o0_25 (kv : Nat → Nat) (iv0 : Nat → Int) (bv0 : Nat → Bool) (hin : InB lRuns.B iv0) (hF : FT (sta FI FB kv iv0 bv0) (dlt dyn0) lRuns.F) (iv : Nat → Int) (bv : Nat → Bool) (ha : Agr 7 iv0 bv0 iv bv) (hi : lRuns_inv iv0 bv0 0 iv bv) :
    LfT (sta FI FB kv) lRuns.os (lRuns_inv iv0 bv0) (lRuns_mu iv0 bv0) 0 iv bv (.fin [((.eq (.ap 26 (.v 0) (.v 1) (.v 2) (.ap 8 (.v 6) (.v 3) (.c 0) (.c 77) (.c 0) (.c 0)) (.v 3) (.c 0)) (.v 1)), .false), ((.eq (.ap 25 (.v 0) (.v 1) (.v 2) (.ap 8 (.v 6) (.v 3) (.c 0) (.c 77) (.c 0) (.c 0)) (.v 3) (.c 0)) (.v 0)), .true), ((.lt (.c 0) (.ap 22 (.v 0) (.v 1) (.v 2) (.v 6) (.v 3) (.c 0))), .false), ((.le (.ap 22 (.v 0) (.v 1) (.v 2) (.v 6) (.v 3) (.c 0)) (.d 2)), .true), ((.eq (.ap 22 (.v 0) (.v 1) (.v 2) (.v 6) (.v 3) (.c 0)) (.c 0)), .false), ((.le (.v 2) (.c 4611686018427387904)), .true), ((.le (.v 1) (.v 0)), .true), ((.le (.v 3) (.d 1)), .true), ((.le (.op .add (.v 3) (.c 1)) (.d 1)), .true), ((.le (.v 3) (.d 0)), .true), ((.lt (.c 50) (.v 3)), .false), ((.le (.c 0) (.v 5)), .true), ((.le (.v 3) (.v 5)), .true)] 0 ⟨⟨[], []⟩, [], [], []⟩ [(.eb (.c .true) (.c .false))] []) := by
  intro δ hf
  simp only [FT, TP, SB.tp, SI.tv, sta, IB.eval, and_true, true_and, ObsT, Ob.Tv, rowT, kix, In.tiv, In.tbv, get_cons, get_nil, reduceIte, Nat.reduceEqDiff, Int.reduceToNat, Int.reduceAdd, ap5, ne_eq, Bool.false_eq_true, not_true_eq_false, not_false_eq_true, FI_3, FI_7, FI_8, FI_9, FI_10, FI_11, FI_12, FI_13, FI_14, FI_15, FI_16, FI_17, FI_18, FI_19, FI_20, FI_21, FI_22, FI_23, FI_24, FI_25, FI_26, FI_27] at hf
  have a0 := ha.1 0 (by omega)
  have a1 := ha.1 1 (by omega)
  have a2 := ha.1 2 (by omega)
  have a3 := ha.1 3 (by omega)
  have a6 := ha.1 6 (by omega)
  have b0 := hin 0 (-9223372036854775808) 9223372036854775807 (by simp [lRuns, bW, b3])
  have b1 := hin 1 (-9223372036854775808) 9223372036854775807 (by simp [lRuns, bW, b3])
  have b2 := hin 2 0 18446744073709551615 (by simp [lRuns, bW, b3])
  have b3 := hin 3 0 9223372036854775807 (by simp [lRuns, bW])
  simp only [FT, TP, SB.tp, SI.tv, sta, IB.eval, and_true, true_and, ObsT, Ob.Tv, rowT, kix, In.tiv, In.tbv, get_cons, get_nil, reduceIte, Nat.reduceEqDiff, Int.reduceToNat, Int.reduceAdd, ap5, ne_eq, Bool.false_eq_true, not_true_eq_false, not_false_eq_true, FI_3, FI_7, FI_8, FI_9, FI_10, FI_11, FI_12, FI_13, FI_14, FI_15, FI_16, FI_17, FI_18, FI_19, FI_20, FI_21, FI_22, FI_23, FI_24, FI_25, FI_26, FI_27, lRuns, othT, a0, a1, a2, a3, a6] at hf ⊢
  obtain ⟨s1, s2, s3⟩ := run_same (iv0 0) (iv0 1) (iv0 2) (iv0 6) (iv0 3) 77 b3.1
  obtain ⟨w0, w1, w2⟩ := wraps b0 b1 b2
  have hl := M_len (v := iv0 0) (f := iv0 1) (r := iv0 2) (c := iv0 6) b3.1
  try simp only [s1, s2, s3, gt_setI, if_true, and_self, Int.reduceToNat, wrap77, not_true_eq_false, false_and, and_false] at hf
  all_goals (exfalso; rcases Nat.eq_zero_or_pos (M (iv0 0) (iv0 1) (iv0 2) (iv0 6) (iv0 3)) with hm | hm)
  all_goals (try obtain ⟨l0, l1, l2⟩ := want_last (iv0 0, iv0 1, iv0 2) (iv0 6) hm)
  all_goals (try simp only [l0, l1, l2, not_true_eq_false, false_and, and_false] at hf)
  all_goals (try simp only [hm, seq, w0, w1, w2, not_true_eq_false, false_and, and_false, Int.natCast_zero] at hf)
  all_goals omega

set_option maxHeartbeats 1000000 in
theorem lRuns_o0_26 (kv : Nat → Nat) (iv0 : Nat → Int) (bv0 : Nat → Bool) (hin : InB lRuns.B iv0) (hF : FT (sta FI FB kv iv0 bv0) (dlt dyn0) lRuns.F) (iv : Nat → Int) (bv : Nat → Bool) (ha : Agr 7 iv0 bv0 iv bv) (hi : lRuns_inv iv0 bv0 0 iv bv) :
    LfT (sta FI FB kv) lRuns.os (lRuns_inv iv0 bv0) (lRuns_mu iv0 bv0) 0 iv bv (.fin [((.eq (.ap 25 (.v 0) (.v 1) (.v 2) (.ap 8 (.v 6) (.v 3) (.c 0) (.c 77) (.c 0) (.c 0)) (.v 3) (.c 0)) (.v 0)), .false), ((.lt (.c 0) (.ap 22 (.v 0) (.v 1) (.v 2) (.v 6) (.v 3) (.c 0))), .false), ((.le (.ap 22 (.v 0) (.v 1) (.v 2) (.v 6) (.v 3) (.c 0)) (.d 2)), .true), ((.eq (.ap 22 (.v 0) (.v 1) (.v 2) (.v 6) (.v 3) (.c 0)) (.c 0)), .false), ((.le (.v 2) (.c 4611686018427387904)), .true), ((.le (.v 1) (.v 0)), .true), ((.le (.v 3) (.d 1)), .true), ((.le (.op .add (.v 3) (.c 1)) (.d 1)), .true), ((.le (.v 3) (.d 0)), .true), ((.lt (.c 50) (.v 3)), .false), ((.le (.c 0) (.v 5)), .true), ((.le (.v 3) (.v 5)), .true)] 0 ⟨⟨[], []⟩, [], [], []⟩ [(.eb (.c .true) (.c .false))] []) := by
  intro δ hf
  simp only [FT, TP, SB.tp, SI.tv, sta, IB.eval, and_true, true_and, ObsT, Ob.Tv, rowT, kix, In.tiv, In.tbv, get_cons, get_nil, reduceIte, Nat.reduceEqDiff, Int.reduceToNat, Int.reduceAdd, ap5, ne_eq, Bool.false_eq_true, not_true_eq_false, not_false_eq_true, FI_3, FI_7, FI_8, FI_9, FI_10, FI_11, FI_12, FI_13, FI_14, FI_15, FI_16, FI_17, FI_18, FI_19, FI_20, FI_21, FI_22, FI_23, FI_24, FI_25, FI_26, FI_27] at hf
  have a0 := ha.1 0 (by omega)
  have a1 := ha.1 1 (by omega)
  have a2 := ha.1 2 (by omega)
  have a3 := ha.1 3 (by omega)
  have a6 := ha.1 6 (by omega)
  have b0 := hin 0 (-9223372036854775808) 9223372036854775807 (by simp [lRuns, bW, b3])
  have b1 := hin 1 (-9223372036854775808) 9223372036854775807 (by simp [lRuns, bW, b3])
  have b2 := hin 2 0 18446744073709551615 (by simp [lRuns, bW, b3])
  have b3 := hin 3 0 9223372036854775807 (by simp [lRuns, bW])
  simp only [FT, TP, SB.tp, SI.tv, sta, IB.eval, and_true, true_and, ObsT, Ob.Tv, rowT, kix, In.tiv, In.tbv, get_cons, get_nil, reduceIte, Nat.reduceEqDiff, Int.reduceToNat, Int.reduceAdd, ap5, ne_eq, Bool.false_eq_true, not_true_eq_false, not_false_eq_true, FI_3, FI_7, FI_8, FI_9, FI_10, FI_11, FI_12, FI_13, FI_14, FI_15, FI_16, FI_17, FI_18, FI_19, FI_20, FI_21, FI_22, FI_23, FI_24, FI_25, FI_26, FI_27, lRuns, othT, a0, a1, a2, a3, a6] at hf ⊢
  obtain ⟨s1, s2, s3⟩ := run_same (iv0 0) (iv0 1) (iv0 2) (iv0 6) (iv0 3) 77 b3.1
  obtain ⟨w0, w1, w2⟩ := wraps b0 b1 b2
  have hl := M_len (v := iv0 0) (f := iv0 1) (r := iv0 2) (c := iv0 6) b3.1
  try simp only [s1, s2, s3, gt_setI, if_true, and_self, Int.reduceToNat, wrap77, not_true_eq_false, false_and, and_false] at hf
  all_goals (exfalso; rcases Nat.eq_zero_or_pos (M (iv0 0) (iv0 1) (iv0 2) (iv0 6) (iv0 3)) with hm | hm)
  all_goals (try obtain ⟨l0, l1, l2⟩ := want_last (iv0 0, iv0 1, iv0 2) (iv0 6) hm)
  all_goals (try simp only [l0, l1, l2, not_true_eq_false, false_and, and_false] at hf)
  all_goals (try simp only [hm, seq, w0, w1, w2, not_true_eq_false, false_and, and_false, Int.natCast_zero] at hf)
  all_goals omega

set_option maxHeartbeats 1000000 in
theorem lRuns_o0_27 (kv : Nat → Nat) (iv0 : Nat → Int) (bv0 : Nat → Bool) (hin : InB lRuns.B iv0) (hF : FT (sta FI FB kv iv0 bv0) (dlt dyn0) lRuns.F) (iv : Nat → Int) (bv : Nat → Bool) (ha : Agr 7 iv0 bv0 iv bv) (hi : lRuns_inv iv0 bv0 0 iv bv) :
    LfT (sta FI FB kv) lRuns.os (lRuns_inv iv0 bv0) (lRuns_mu iv0 bv0) 0 iv bv (.fin [((.le (.v 2) (.c 4611686018427387904)), .false), ((.le (.v 1) (.v 0)), .true), ((.le (.v 3) (.d 1)), .true), ((.le (.op .add (.v 3) (.c 1)) (.d 1)), .true), ((.le (.v 3) (.d 0)), .true), ((.lt (.c 50) (.v 3)), .false), ((.le (.c 0) (.v 5)), .true), ((.le (.v 3) (.v 5)), .true)] 0 ⟨⟨[], []⟩, [], [], []⟩ [] []) := by
  intro δ hf
  simp only [FT, TP, SB.tp, SI.tv, sta, IB.eval, and_true, true_and, ObsT, Ob.Tv, rowT, kix, In.tiv, In.tbv, get_cons, get_nil, reduceIte, Nat.reduceEqDiff, Int.reduceToNat, Int.reduceAdd, ap5, ne_eq, Bool.false_eq_true, not_true_eq_false, not_false_eq_true, FI_3, FI_7, FI_8, FI_9, FI_10, FI_11, FI_12, FI_13, FI_14, FI_15, FI_16, FI_17, FI_18, FI_19, FI_20, FI_21, FI_22, FI_23, FI_24, FI_25, FI_26, FI_27] at hf
  have a0 := ha.1 0 (by omega)
  have a1 := ha.1 1 (by omega)
  have a2 := ha.1 2 (by omega)
  have a3 := ha.1 3 (by omega)
  have a6 := ha.1 6 (by omega)
  have b0 := hin 0 (-9223372036854775808) 9223372036854775807 (by simp [lRuns, bW, b3])
  have b1 := hin 1 (-9223372036854775808) 9223372036854775807 (by simp [lRuns, bW, b3])
  have b2 := hin 2 0 18446744073709551615 (by simp [lRuns, bW, b3])
  have b3 := hin 3 0 9223372036854775807 (by simp [lRuns, bW])
  simp only [FT, TP, SB.tp, SI.tv, sta, IB.eval, and_true, true_and, ObsT, Ob.Tv, rowT, kix, In.tiv, In.tbv, get_cons, get_nil, reduceIte, Nat.reduceEqDiff, Int.reduceToNat, Int.reduceAdd, ap5, ne_eq, Bool.false_eq_true, not_true_eq_false, not_false_eq_true, FI_3, FI_7, FI_8, FI_9, FI_10, FI_11, FI_12, FI_13, FI_14, FI_15, FI_16, FI_17, FI_18, FI_19, FI_20, FI_21, FI_22, FI_23, FI_24, FI_25, FI_26, FI_27, lRuns, othT, a0, a1, a2, a3, a6] at hf ⊢
  simp [othT, o1]

set_option maxHeartbeats 1000000 in
theorem lRuns_o0_28 (kv : Nat → Nat) (iv0 : Nat → Int) (bv0 : Nat → Bool) (hin : InB lRuns.B iv0) (hF : FT (sta FI FB kv iv0 bv0) (dlt dyn0) lRuns.F) (iv : Nat → Int) (bv : Nat → Bool) (ha : Agr 7 iv0 bv0 iv bv) (hi : lRuns_inv iv0 bv0 0 iv bv) :
    LfT (sta FI FB kv) lRuns.os (lRuns_inv iv0 bv0) (lRuns_mu iv0 bv0) 0 iv bv (.fin [((.le (.v 1) (.v 0)), .false), ((.le (.v 3) (.d 1)), .true), ((.le (.op .add (.v 3) (.c 1)) (.d 1)), .true), ((.le (.v 3) (.d 0)), .true), ((.lt (.c 50) (.v 3)), .false), ((.le (.c 0) (.v 5)), .true), ((.le (.v 3) (.v 5)), .true)] 0 ⟨⟨[], []⟩, [], [], []⟩ [] []) := by
  intro δ hf
  simp only [FT, TP, SB.tp, SI.tv, sta, IB.eval, and_true, true_and, ObsT, Ob.Tv, rowT, kix, In.tiv, In.tbv, get_cons, get_nil, reduceIte, Nat.reduceEqDiff, Int.reduceToNat, Int.reduceAdd, ap5, ne_eq, Bool.false_eq_true, not_true_eq_false, not_false_eq_true, FI_3, FI_7, FI_8, FI_9, FI_10, FI_11, FI_12, FI_13, FI_14, FI_15, FI_16, FI_17, FI_18, FI_19, FI_20, FI_21, FI_22, FI_23, FI_24, FI_25, FI_26, FI_27] at hf
  have a0 := ha.1 0 (by omega)
  have a1 := ha.1 1 (by omega)
  have a2 := ha.1 2 (by omega)
  have a3 := ha.1 3 (by omega)
  have a6 := ha.1 6 (by omega)
  have b0 := hin 0 (-9223372036854775808) 9223372036854775807 (by simp [lRuns, bW, b3])
  have b1 := hin 1 (-9223372036854775808) 9223372036854775807 (by simp [lRuns, bW, b3])
  have b2 := hin 2 0 18446744073709551615 (by simp [lRuns, bW, b3])
  have b3 := hin 3 0 9223372036854775807 (by simp [lRuns, bW])
  simp only [FT, TP, SB.tp, SI.tv, sta, IB.eval, and_true, true_and, ObsT, Ob.Tv, rowT, kix, In.tiv, In.tbv, get_cons, get_nil, reduceIte, Nat.reduceEqDiff, Int.reduceToNat, Int.reduceAdd, ap5, ne_eq, Bool.false_eq_true, not_true_eq_false, not_false_eq_true, FI_3, FI_7, FI_8, FI_9, FI_10, FI_11, FI_12, FI_13, FI_14, FI_15, FI_16, FI_17, FI_18, FI_19, FI_20, FI_21, FI_22, FI_23, FI_24, FI_25, FI_26, FI_27, lRuns, othT, a0, a1, a2, a3, a6] at hf ⊢
  simp [othT, o1]

set_option maxHeartbeats 1000000 in
theorem lRuns_o0_29 (kv : Nat → Nat) (iv0 : Nat → Int) (bv0 : Nat → Bool) (hin : InB lRuns.B iv0) (hF : FT (sta FI FB kv iv0 bv0) (dlt dyn0) lRuns.F) (iv : Nat → Int) (bv : Nat → Bool) (ha : Agr 7 iv0 bv0 iv bv) (hi : lRuns_inv iv0 bv0 0 iv bv) :
    LfT (sta FI FB kv) lRuns.os (lRuns_inv iv0 bv0) (lRuns_mu iv0 bv0) 0 iv bv (.bad [((.le (.v 3) (.d 1)), .false), ((.le (.op .add (.v 3) (.c 1)) (.d 1)), .true), ((.le (.v 3) (.d 0)), .true), ((.lt (.c 50) (.v 3)), .false), ((.le (.c 0) (.v 5)), .true), ((.le (.v 3) (.v 5)), .true)]) := by
  intro δ hf
  simp only [FT, TP, SB.tp, SI.tv, sta, IB.eval, and_true, true_and, ObsT, Ob.Tv, rowT, kix, In.tiv, In.tbv, get_cons, get_nil, reduceIte, Nat.reduceEqDiff, Int.reduceToNat, Int.reduceAdd, ap5, ne_eq, Bool.false_eq_true, not_true_eq_false, not_false_eq_true, FI_3, FI_7, FI_8, FI_9, FI_10, FI_11, FI_12, FI_13, FI_14, FI_15, FI_16, FI_17, FI_18, FI_19, FI_20, FI_21, FI_22, FI_23, FI_24, FI_25, FI_26, FI_27] at hf
  have a0 := ha.1 0 (by omega)
  have a1 := ha.1 1 (by omega)
  have a2 := ha.1 2 (by omega)
  have a3 := ha.1 3 (by omega)
  have a6 := ha.1 6 (by omega)
  have b0 := hin 0 (-9223372036854775808) 9223372036854775807 (by simp [lRuns, bW, b3])
  have b1 := hin 1 (-9223372036854775808) 9223372036854775807 (by simp [lRuns, bW, b3])
  have b2 := hin 2 0 18446744073709551615 (by simp [lRuns, bW, b3])
  have b3 := hin 3 0 9223372036854775807 (by simp [lRuns, bW])
  simp only [FT, TP, SB.tp, SI.tv, sta, IB.eval, and_true, true_and, ObsT, Ob.Tv, rowT, kix, In.tiv, In.tbv, get_cons, get_nil, reduceIte, Nat.reduceEqDiff, Int.reduceToNat, Int.reduceAdd, ap5, ne_eq, Bool.false_eq_true, not_true_eq_false, not_false_eq_true, FI_3, FI_7, FI_8, FI_9, FI_10, FI_11, FI_12, FI_13, FI_14, FI_15, FI_16, FI_17, FI_18, FI_19, FI_20, FI_21, FI_22, FI_23, FI_24, FI_25, FI_26, FI_27, lRuns, othT, a0, a1, a2, a3, a6] at hf ⊢
  obtain ⟨s1, s2, s3⟩ := run_same (iv0 0) (iv0 1) (iv0 2) (iv0 6) (iv0 3) 77 b3.1
  obtain ⟨w0, w1, w2⟩ := wraps b0 b1 b2
  have hl := M_len (v := iv0 0) (f := iv0 1) (r := iv0 2) (c := iv0 6) b3.1
  try simp only [s1, s2, s3, gt_setI, if_true, and_self, Int.reduceToNat, wrap77, not_true_eq_false, false_and, and_false] at hf
  all_goals (exfalso; rcases Nat.eq_zero_or_pos (M (iv0 0) (iv0 1) (iv0 2) (iv0 6) (iv0 3)) with hm | hm)
  all_goals (try obtain ⟨l0, l1, l2⟩ := want_last (iv0 0, iv0 1, iv0 2) (iv0 6) hm)
  all_goals (try simp only [l0, l1, l2, not_true_eq_false, false_and, and_false] at hf)
  all_goals (try simp only [hm, seq, w0, w1, w2, not_true_eq_false, false_and, and_false, Int.natCast_zero] at hf)
  all_goals omega

set_option maxRecDepth 100000 in
theorem lRuns_c : LsC ((tm0 lRuns Try.f5 (Try.f5.body.getD .skip)) :: []) lRuns.os [lRuns_L0] := by
  unfold lRuns_L0
  exact ⟨List.forall_mem_cons.2 ⟨⟨⟨_, rfl, rfl⟩, by kernel_rfl⟩, List.forall_mem_cons.2 ⟨⟨⟨_, rfl, rfl⟩, by kernel_rfl⟩, List.forall_mem_cons.2 ⟨⟨⟨_, rfl, rfl⟩, by kernel_rfl⟩, List.forall_mem_cons.2 ⟨trivial, List.forall_mem_cons.2 ⟨⟨⟨_, rfl, rfl⟩, by kernel_rfl⟩, List.forall_mem_cons.2 ⟨⟨⟨_, rfl, rfl⟩, by kernel_rfl⟩, List.forall_mem_cons.2 ⟨⟨⟨_, rfl, rfl⟩, by kernel_rfl⟩, List.forall_mem_cons.2 ⟨⟨⟨_, rfl, rfl⟩, by kernel_rfl⟩, List.forall_mem_cons.2 ⟨⟨⟨_, rfl, rfl⟩, by kernel_rfl⟩, List.forall_mem_cons.2 ⟨⟨⟨_, rfl, rfl⟩, by kernel_rfl⟩, List.forall_mem_cons.2 ⟨⟨⟨_, rfl, rfl⟩, by kernel_rfl⟩, List.forall_mem_cons.2 ⟨trivial, List.forall_mem_cons.2 ⟨⟨⟨_, rfl, rfl⟩, by kernel_rfl⟩, List.forall_mem_cons.2 ⟨⟨⟨_, rfl, rfl⟩, by kernel_rfl⟩, List.forall_mem_cons.2 ⟨⟨⟨_, rfl, rfl⟩, by kernel_rfl⟩, List.forall_mem_cons.2 ⟨⟨⟨_, rfl, rfl⟩, by kernel_rfl⟩, List.forall_mem_cons.2 ⟨⟨⟨_, rfl, rfl⟩, by kernel_rfl⟩, List.forall_mem_cons.2 ⟨trivial, List.forall_mem_cons.2 ⟨trivial, List.forall_mem_cons.2 ⟨⟨⟨_, rfl, rfl⟩, by kernel_rfl⟩, List.forall_mem_cons.2 ⟨⟨⟨_, rfl, rfl⟩, by kernel_rfl⟩, List.forall_mem_cons.2 ⟨trivial, List.forall_mem_cons.2 ⟨⟨⟨_, rfl, rfl⟩, by kernel_rfl⟩, List.forall_mem_cons.2 ⟨⟨⟨_, rfl, rfl⟩, by kernel_rfl⟩, List.forall_mem_cons.2 ⟨⟨⟨_, rfl, rfl⟩, by kernel_rfl⟩, List.forall_mem_cons.2 ⟨⟨⟨_, rfl, rfl⟩, by kernel_rfl⟩, List.forall_mem_cons.2 ⟨⟨⟨_, rfl, rfl⟩, by kernel_rfl⟩, List.forall_mem_cons.2 ⟨⟨⟨_, rfl, rfl⟩, by kernel_rfl⟩, List.forall_mem_cons.2 ⟨⟨⟨_, rfl, rfl⟩, by kernel_rfl⟩, List.forall_mem_cons.2 ⟨trivial, List.forall_mem_nil _⟩⟩⟩⟩⟩⟩⟩⟩⟩⟩⟩⟩⟩⟩⟩⟩⟩⟩⟩⟩⟩⟩⟩⟩⟩⟩⟩⟩⟩⟩, trivial⟩
theorem lRuns_ok : lRuns.Ok Try.prog FI FB :=
  Con.of_plain (body := Try.f5.body.getD .skip) pok fiok ents_for3 lRuns Try.func5 (by kernel_rfl) 7 [] (by kernel_rfl) [lRuns_L0] ⟨lRuns_h0, trivial⟩ lRuns_c
    lRuns_inv lRuns_mu (fun _ _ _ => trivial) fun kv iv0 bv0 hin hF k l iv bv hk ha hi => match k, hk, hi with
    | 0, hk, hi => by
      cases hk
      exact List.forall_mem_cons.2 ⟨lRuns_o0_0 kv iv0 bv0 hin hF iv bv ha hi, List.forall_mem_cons.2 ⟨lRuns_o0_1 kv iv0 bv0 hin hF iv bv ha hi, List.forall_mem_cons.2 ⟨lRuns_o0_2 kv iv0 bv0 hin hF iv bv ha hi, List.forall_mem_cons.2 ⟨lRuns_o0_3 kv iv0 bv0 hin hF iv bv ha hi, List.forall_mem_cons.2 ⟨lRuns_o0_4 kv iv0 bv0 hin hF iv bv ha hi, List.forall_mem_cons.2 ⟨lRuns_o0_5 kv iv0 bv0 hin hF iv bv ha hi, List.forall_mem_cons.2 ⟨lRuns_o0_6 kv iv0 bv0 hin hF iv bv ha hi, List.forall_mem_cons.2 ⟨lRuns_o0_7 kv iv0 bv0 hin hF iv bv ha hi, List.forall_mem_cons.2 ⟨lRuns_o0_8 kv iv0 bv0 hin hF iv bv ha hi, List.forall_mem_cons.2 ⟨lRuns_o0_9 kv iv0 bv0 hin hF iv bv ha hi, List.forall_mem_cons.2 ⟨lRuns_o0_10 kv iv0 bv0 hin hF iv bv ha hi, List.forall_mem_cons.2 ⟨lRuns_o0_11 kv iv0 bv0 hin hF iv bv ha hi, List.forall_mem_cons.2 ⟨lRuns_o0_12 kv iv0 bv0 hin hF iv bv ha hi, List.forall_mem_cons.2 ⟨lRuns_o0_13 kv iv0 bv0 hin hF iv bv ha hi, List.forall_mem_cons.2 ⟨lRuns_o0_14 kv iv0 bv0 hin hF iv bv ha hi, List.forall_mem_cons.2 ⟨lRuns_o0_15 kv iv0 bv0 hin hF iv bv ha hi, List.forall_mem_cons.2 ⟨lRuns_o0_16 kv iv0 bv0 hin hF iv bv ha hi, List.forall_mem_cons.2 ⟨lRuns_o0_17 kv iv0 bv0 hin hF iv bv ha hi, List.forall_mem_cons.2 ⟨lRuns_o0_18 kv iv0 bv0 hin hF iv bv ha hi, List.forall_mem_cons.2 ⟨lRuns_o0_19 kv iv0 bv0 hin hF iv bv ha hi, List.forall_mem_cons.2 ⟨lRuns_o0_20 kv iv0 bv0 hin hF iv bv ha hi, List.forall_mem_cons.2 ⟨lRuns_o0_21 kv iv0 bv0 hin hF iv bv ha hi, List.forall_mem_cons.2 ⟨lRuns_o0_22 kv iv0 bv0 hin hF iv bv ha hi, List.forall_mem_cons.2 ⟨lRuns_o0_23 kv iv0 bv0 hin hF iv bv ha hi, List.forall_mem_cons.2 ⟨lRuns_o0_24 kv iv0 bv0 hin hF iv bv ha hi, List.forall_mem_cons.2 ⟨lRuns_o0_25 kv iv0 bv0 hin hF iv bv ha hi, List.forall_mem_cons.2 ⟨lRuns_o0_26 kv iv0 bv0 hin hF iv bv ha hi, List.forall_mem_cons.2 ⟨lRuns_o0_27 kv iv0 bv0 hin hF iv bv ha hi, List.forall_mem_cons.2 ⟨lRuns_o0_28 kv iv0 bv0 hin hF iv bv ha hi, List.forall_mem_cons.2 ⟨lRuns_o0_29 kv iv0 bv0 hin hF iv bv ha hi, List.forall_mem_nil _⟩⟩⟩⟩⟩⟩⟩⟩⟩⟩⟩⟩⟩⟩⟩⟩⟩⟩⟩⟩⟩⟩⟩⟩⟩⟩⟩⟩⟩⟩
    | k + 1, hk, _ => by simp at hk
end Go.Sx.Esc
