/- Holds: the functions, by contract. -/
import Derived.Test.YtfgdpkceoadgjaaMoE
namespace Go.Sx.Mhw
set_option linter.unusedVariables false
set_option linter.unusedSimpArgs false
open Go Go.Sx Go.Proofs
/-- a list of holds that came in -/
noncomputable def lH : SV := .sl (.k 0) (.v 2) (.v 1) (.v 3)
noncomputable def gH : List Gv := [⟨0, .v 2, [.nt .i64, .nt .i64, .nt .i64], 0, .v 1⟩]
noncomputable def bH : List (Nat × Int × Int) := [(1, 0, 1000), (2, 0, -1)]
noncomputable def nw (k : List Kd) (t : TypeId) (c n : SI) : List (Nat × Bk) := [(0, .arr k c n t (.d 0))]
noncomputable def oNil (t : Bool) : Out := ⟨[(.lt (.c 0) (.v 1), t)], .sn, [], 0, 0, []⟩
noncomputable def kH : List Kd := [.nt .i64, .nt .i64, .nt .i64]
noncomputable def ap3 (f : Nat) (x : SI) : SI := .ap f (.v 0) (.v 1) x (.c 0) (.c 0) (.c 0)
noncomputable def hModes : Con := ⟨104, [0, 1, 2, 3], [.ag [lH]], gH, bH, fM, [⟨[(.lt (.c 0) (.v 1), false)], .sn, [], 0, 0, []⟩, ⟨[(.lt (.c 0) (.v 1), true)], .sl (.n 0) (.c 0) (.v 1) (.d 0), nw [.nt .i64] 22 (ap2 20) (.v 1), 1, 1, [(.le (.v 1) (.d 0), true)]⟩]⟩
noncomputable def rModes : Con := ⟨53, [0, 1, 2, 3], [lH], gH, bH, fM, [⟨[(.lt (.c 0) (.v 1), false)], .sn, [], 0, 0, []⟩, ⟨[(.lt (.c 0) (.v 1), true)], .sl (.n 0) (.c 0) (.v 1) (.d 0), nw [.nt .i64] 22 (ap2 20) (.v 1), 1, 1, [(.le (.v 1) (.d 0), true)]⟩]⟩
noncomputable def eTog0 : Con := ⟨28, [], [.sn], [], [], [], o1 (.tp [.bo (.c true), .it .i64 (.c 0)])⟩
noncomputable def rTog0 : Con := ⟨31, [], [.sn], [], [], [], o1 (.bo (.c true))⟩
noncomputable def rMay : Con := ⟨105, [0, 1, 2], [.ag [.it .i64 (.v 0), .it .i64 (.v 1), .it .i64 (.v 2)]], [], [i64b 0, i64b 1, i64b 2], [], o1 (.bo (.ap 23 (.v 0) (.v 1) (.v 2) (.c 0) (.c 0) (.c 0)))⟩
noncomputable def hMay : Con := ⟨106, [0, 1, 2], [.ag [.it .i64 (.v 0), .it .i64 (.v 1), .it .i64 (.v 2)]], [], [i64b 0, i64b 1, i64b 2], [], o1 (.bo (.ap 23 (.v 0) (.v 1) (.v 2) (.c 0) (.c 0) (.c 0)))⟩
noncomputable def hRight : Con := ⟨139, [0, 1, 2, 3], [.ag [lH]], gH, bH, fM, o1 (.bo (pb2 20))⟩
noncomputable def rRight : Con := ⟨52, [0, 1, 2, 3], [lH], gH, bH, fM, o1 (.bo (pb2 20))⟩
theorem set_row {c d k x : Int} (h0 : 0 ≤ k) (h : ∀ j : Nat, (j : Int) < k → fl d j 0 = fl c j 2) (hx : x = fl c k.toNat 2) : ∀ j : Nat, (j : Int) < k + 1 → fl (setC d k 0 x) j 0 = fl c j 2 := by
  intro j hj
  rw [fl_set]
  by_cases e : j = k.toNat
  · have := fl_in c k.toNat 2
    rw [if_pos ⟨e, rfl⟩, hx, wrap_in .i64 _ this.1 this.2, e]
  · rw [if_neg fun h => e h.1]; exact h j (by omega)
theorem mayA_none {c k : Int} (i : Nat) (hi : (i : Int) < k) (h : ¬ (mayP (fl c i 0) (fl c i 1) (fl c i 2) ∧ (0 < i → fl c (i - 1) 0 < fl c i 0))) : ¬ rgtP c k := fun hh => h (hh.1 i hi)
theorem allM_of {c n : Int} (h : mayA c n) : allM (modesC c n) n := fun i hi => by
  have := (h i hi).1.2.2
  rw [fl_modesC hi]; unfold inM; omega
noncomputable def rMay_L0 : List Lf :=
  [(.fin [((.eq (.v 2) (.c 0)), .true), ((.le (.v 1) (.c 1099511627776)), .true), ((.le (.c 1) (.v 1)), .true), ((.lt (.v 0) (.c 256)), .true), ((.le (.c 0) (.v 0)), .true)] 0 ⟨⟨[], []⟩, [], [], []⟩ [(.eb (.ap 23 (.v 0) (.v 1) (.v 2) (.c 0) (.c 0) (.c 0)) (.c .false))] []), (.fin [((.le (.c 0) (.v 2)), .true), ((.eq (.v 2) (.c 0)), .false), ((.le (.v 1) (.c 1099511627776)), .true), ((.le (.c 1) (.v 1)), .true), ((.lt (.v 0) (.c 256)), .true), ((.le (.c 0) (.v 0)), .true)] 0 ⟨⟨[], []⟩, [], [], []⟩ [(.eb (.ap 23 (.v 0) (.v 1) (.v 2) (.c 0) (.c 0) (.c 0)) (.le (.v 2) (.c 5)))] []), (.fin [((.le (.c 0) (.v 2)), .false), ((.eq (.v 2) (.c 0)), .false), ((.le (.v 1) (.c 1099511627776)), .true), ((.le (.c 1) (.v 1)), .true), ((.lt (.v 0) (.c 256)), .true), ((.le (.c 0) (.v 0)), .true)] 0 ⟨⟨[], []⟩, [], [], []⟩ [(.eb (.ap 23 (.v 0) (.v 1) (.v 2) (.c 0) (.c 0) (.c 0)) (.c .false))] []), (.fin [((.le (.v 1) (.c 1099511627776)), .false), ((.le (.c 1) (.v 1)), .true), ((.lt (.v 0) (.c 256)), .true), ((.le (.c 0) (.v 0)), .true)] 0 ⟨⟨[], []⟩, [], [], []⟩ [(.eb (.ap 23 (.v 0) (.v 1) (.v 2) (.c 0) (.c 0) (.c 0)) (.c .false))] []), (.fin [((.le (.c 1) (.v 1)), .false), ((.lt (.v 0) (.c 256)), .true), ((.le (.c 0) (.v 0)), .true)] 0 ⟨⟨[], []⟩, [], [], []⟩ [(.eb (.ap 23 (.v 0) (.v 1) (.v 2) (.c 0) (.c 0) (.c 0)) (.c .false))] []), (.fin [((.lt (.v 0) (.c 256)), .false), ((.le (.c 0) (.v 0)), .true)] 0 ⟨⟨[], []⟩, [], [], []⟩ [(.eb (.ap 23 (.v 0) (.v 1) (.v 2) (.c 0) (.c 0) (.c 0)) (.c .false))] []), (.fin [((.le (.c 0) (.v 0)), .false)] 0 ⟨⟨[], []⟩, [], [], []⟩ [(.eb (.ap 23 (.v 0) (.v 1) (.v 2) (.c 0) (.c 0) (.c 0)) (.c .false))] [])]
set_option maxRecDepth 100000 in
theorem rMay_h0 : (ex (ccOf Try.prog BF [58, 84] rMay) ((fun _ => []) (ccOf Try.prog BF [58, 84] rMay)) (dw (ccOf Try.prog BF [58, 84] rMay) ((fun _ => []) (ccOf Try.prog BF [58, 84] rMay)) 1000 4) (stopX []) 4000 (tm0 rMay Try.f105 (Try.f105.body.getD .skip)).f (tm0 rMay Try.f105 (Try.f105.body.getD .skip)).fs (tm0 rMay Try.f105 (Try.f105.body.getD .skip)).H).lfs (ccOf Try.prog BF [58, 84] rMay) ((tm0 rMay Try.f105 (Try.f105.body.getD .skip)) :: []) rMay.os = some rMay_L0 := by kernel_rfl
def rMay_inv : (Nat → Int) → (Nat → Bool) → Nat → (Nat → Int) → (Nat → Bool) → Prop := fun _ _ _ _ _ => True
def rMay_mu : (Nat → Int) → (Nat → Bool) → Nat → (Nat → Int) → (Nat → Bool) → Nat := fun _ _ _ _ _ => 0
set_option maxHeartbeats 0 in
theorem rMay_o0 (kv : Kv) (iv0 : Nat → Int) (bv0 : Nat → Bool) (hin : InB rMay.B iv0) (hF : FT (sta FI FB kv iv0 bv0) (dlt dyn0) rMay.F) (iv : Nat → Int) (bv : Nat → Bool) (ha : Agr 3 iv0 bv0 iv bv) (hi : rMay_inv iv0 bv0 0 iv bv) :
    ∀ lf ∈ rMay_L0, LfT (sta FI FB kv) rMay.os (rMay_inv iv0 bv0) (rMay_mu iv0 bv0) 0 iv bv lf := by
  unfold rMay_L0
  refine List.forall_mem_cons.2 ⟨?_, List.forall_mem_cons.2 ⟨?_, List.forall_mem_cons.2 ⟨?_, List.forall_mem_cons.2 ⟨?_, List.forall_mem_cons.2 ⟨?_, List.forall_mem_cons.2 ⟨?_, List.forall_mem_cons.2 ⟨?_, List.forall_mem_nil _⟩⟩⟩⟩⟩⟩⟩
  all_goals
    intro δ hf
  all_goals
    simp only [FT, TP, SB.tp, SI.tv, sta, IB.eval, and_true, true_and, ObsT, Ob.Tv, rowT, kix, In.tiv, ↓tbvT, In.tbv, get_cons, get_nil, reduceIte, Nat.reduceEqDiff, Int.reduceToNat, Int.reduceAdd, Int.reduceSub, Int.reduceLE, Int.reduceLT, Int.reduceEq, ne_eq, Bool.false_eq_true, not_true_eq_false, not_false_eq_true, true_iff, false_iff, iff_true, iff_false, false_implies, implies_true, decT, decide_true, decide_false, Bool.decide_eq_true, ap2, pb2, FI_3, FI_8, FI_9, FI_10, FI_11, FI_12, FI_13, FB_10, FB_11, FB_12, FB_13, FB_14, FB_15, FB_16, FI_20, FI_21, FI_22, FI_23, FI_24, FI_25, FI_26, FB_20, FB_21, FB_22, FB_23, Int.toNat_natCast, Int.toNat_zero] at hf
  all_goals
    have a0 := ha.1 0 (by omega)
    have a1 := ha.1 1 (by omega)
    have a2 := ha.1 2 (by omega)
  all_goals
    have b0 := hin 0 (-9223372036854775808) 9223372036854775807 (by simp [rMay, bH, gH, fM, lH, nw, ap3, i64b, kH])
    simp only [Int.reduceLE, reduceIte, Int.reduceNeg] at b0
  all_goals
    have b1 := hin 1 (-9223372036854775808) 9223372036854775807 (by simp [rMay, bH, gH, fM, lH, nw, ap3, i64b, kH])
    simp only [Int.reduceLE, reduceIte, Int.reduceNeg] at b1
  all_goals
    have b2 := hin 2 (-9223372036854775808) 9223372036854775807 (by simp [rMay, bH, gH, fM, lH, nw, ap3, i64b, kH])
    simp only [Int.reduceLE, reduceIte, Int.reduceNeg] at b2
  all_goals
    simp only [FT, TP, SB.tp, SI.tv, sta, IB.eval, and_true, true_and, ObsT, Ob.Tv, rowT, kix, In.tiv, ↓tbvT, In.tbv, get_cons, get_nil, reduceIte, Nat.reduceEqDiff, Int.reduceToNat, Int.reduceAdd, Int.reduceSub, Int.reduceLE, Int.reduceLT, Int.reduceEq, ne_eq, Bool.false_eq_true, not_true_eq_false, not_false_eq_true, true_iff, false_iff, iff_true, iff_false, false_implies, implies_true, decT, decide_true, decide_false, Bool.decide_eq_true, ap2, pb2, FI_3, FI_8, FI_9, FI_10, FI_11, FI_12, FI_13, FB_10, FB_11, FB_12, FB_13, FB_14, FB_15, FB_16, FI_20, FI_21, FI_22, FI_23, FI_24, FI_25, FI_26, FB_20, FB_21, FB_22, FB_23, Int.toNat_natCast, Int.toNat_zero, rMay_inv, rMay_mu, rMay, o1, othT, bH, gH, fM, lH, nw, ap3, i64b, kH, a0, a1, a2] at hf hi ⊢
  all_goals
    (repeat' (with_reducible apply And.intro)) <;> first
    | omega
    | assumption
    | (unfold inM; omega)
    | (unfold mayP; omega)
    | (simp only [mayP]; omega)
set_option maxRecDepth 100000 in
theorem rMay_c : LsC ((tm0 rMay Try.f105 (Try.f105.body.getD .skip)) :: []) rMay.os [rMay_L0] := by
  unfold rMay_L0
  exact ⟨List.forall_mem_cons.2 ⟨⟨⟨_, rfl, rfl⟩, by kernel_rfl⟩, List.forall_mem_cons.2 ⟨⟨⟨_, rfl, rfl⟩, by kernel_rfl⟩, List.forall_mem_cons.2 ⟨⟨⟨_, rfl, rfl⟩, by kernel_rfl⟩, List.forall_mem_cons.2 ⟨⟨⟨_, rfl, rfl⟩, by kernel_rfl⟩, List.forall_mem_cons.2 ⟨⟨⟨_, rfl, rfl⟩, by kernel_rfl⟩, List.forall_mem_cons.2 ⟨⟨⟨_, rfl, rfl⟩, by kernel_rfl⟩, List.forall_mem_cons.2 ⟨⟨⟨_, rfl, rfl⟩, by kernel_rfl⟩, List.forall_mem_nil _⟩⟩⟩⟩⟩⟩⟩, trivial⟩
theorem rMay_ok : rMay.Ok Try.prog FI FB :=
  Con.of_plain (body := Try.f105.body.getD .skip) pok fiok EntsFor.nil rMay Try.func105 (by kernel_rfl) 3 [] (by kernel_rfl) [rMay_L0] ⟨rMay_h0, trivial⟩ rMay_c
    rMay_inv rMay_mu (fun _ _ _ => trivial) fun kv iv0 bv0 hin hF k l iv bv hk ha hi => match k, hk, hi with
    | 0, hk, hi => by
      cases hk
      exact rMay_o0 kv iv0 bv0 hin hF iv bv ha hi
    | k + 1, hk, _ => by simp at hk
noncomputable def hMay_L0 : List Lf :=
  [(.fin [((.lt (.v 0) (.c 0)), .true)] 0 ⟨⟨[], []⟩, [], [], []⟩ [(.eb (.ap 23 (.v 0) (.v 1) (.v 2) (.c 0) (.c 0) (.c 0)) (.c .false))] []), (.fin [((.lt (.c 255) (.v 0)), .true), ((.lt (.v 0) (.c 0)), .false)] 0 ⟨⟨[], []⟩, [], [], []⟩ [(.eb (.ap 23 (.v 0) (.v 1) (.v 2) (.c 0) (.c 0) (.c 0)) (.c .false))] []), (.fin [((.lt (.v 1) (.c 1)), .true), ((.lt (.c 255) (.v 0)), .false), ((.lt (.v 0) (.c 0)), .false)] 0 ⟨⟨[], []⟩, [], [], []⟩ [(.eb (.ap 23 (.v 0) (.v 1) (.v 2) (.c 0) (.c 0) (.c 0)) (.c .false))] []), (.fin [((.lt (.c 1099511627776) (.v 1)), .true), ((.lt (.v 1) (.c 1)), .false), ((.lt (.c 255) (.v 0)), .false), ((.lt (.v 0) (.c 0)), .false)] 0 ⟨⟨[], []⟩, [], [], []⟩ [(.eb (.ap 23 (.v 0) (.v 1) (.v 2) (.c 0) (.c 0) (.c 0)) (.c .false))] []), (.fin [((.lt (.v 2) (.c 1)), .true), ((.lt (.c 1099511627776) (.v 1)), .false), ((.lt (.v 1) (.c 1)), .false), ((.lt (.c 255) (.v 0)), .false), ((.lt (.v 0) (.c 0)), .false)] 0 ⟨⟨[], []⟩, [], [], []⟩ [(.eb (.ap 23 (.v 0) (.v 1) (.v 2) (.c 0) (.c 0) (.c 0)) (.c .false))] []), (.fin [((.lt (.c 5) (.v 2)), .true), ((.lt (.v 2) (.c 1)), .false), ((.lt (.c 1099511627776) (.v 1)), .false), ((.lt (.v 1) (.c 1)), .false), ((.lt (.c 255) (.v 0)), .false), ((.lt (.v 0) (.c 0)), .false)] 0 ⟨⟨[], []⟩, [], [], []⟩ [(.eb (.ap 23 (.v 0) (.v 1) (.v 2) (.c 0) (.c 0) (.c 0)) (.c .false))] []), (.fin [((.lt (.c 5) (.v 2)), .false), ((.lt (.v 2) (.c 1)), .false), ((.lt (.c 1099511627776) (.v 1)), .false), ((.lt (.v 1) (.c 1)), .false), ((.lt (.c 255) (.v 0)), .false), ((.lt (.v 0) (.c 0)), .false)] 0 ⟨⟨[], []⟩, [], [], []⟩ [(.eb (.ap 23 (.v 0) (.v 1) (.v 2) (.c 0) (.c 0) (.c 0)) (.c .true))] [])]
set_option maxRecDepth 100000 in
theorem hMay_h0 : (ex (ccOf Try.prog BF [58, 84] hMay) ((fun _ => []) (ccOf Try.prog BF [58, 84] hMay)) (dw (ccOf Try.prog BF [58, 84] hMay) ((fun _ => []) (ccOf Try.prog BF [58, 84] hMay)) 1000 4) (stopX [106]) 4000 (tm0 hMay Try.f106 (Try.f106.body.getD .skip)).f (tm0 hMay Try.f106 (Try.f106.body.getD .skip)).fs (tm0 hMay Try.f106 (Try.f106.body.getD .skip)).H).lfs (ccOf Try.prog BF [58, 84] hMay) ((tm0 hMay Try.f106 (Try.f106.body.getD .skip)) :: []) hMay.os = some hMay_L0 := by kernel_rfl
def hMay_inv : (Nat → Int) → (Nat → Bool) → Nat → (Nat → Int) → (Nat → Bool) → Prop := fun _ _ _ _ _ => True
def hMay_mu : (Nat → Int) → (Nat → Bool) → Nat → (Nat → Int) → (Nat → Bool) → Nat := fun _ _ _ _ _ => 0
set_option maxHeartbeats 0 in
theorem hMay_o0 (kv : Kv) (iv0 : Nat → Int) (bv0 : Nat → Bool) (hin : InB hMay.B iv0) (hF : FT (sta FI FB kv iv0 bv0) (dlt dyn0) hMay.F) (iv : Nat → Int) (bv : Nat → Bool) (ha : Agr 3 iv0 bv0 iv bv) (hi : hMay_inv iv0 bv0 0 iv bv) :
    ∀ lf ∈ hMay_L0, LfT (sta FI FB kv) hMay.os (hMay_inv iv0 bv0) (hMay_mu iv0 bv0) 0 iv bv lf := by
  unfold hMay_L0
  refine List.forall_mem_cons.2 ⟨?_, List.forall_mem_cons.2 ⟨?_, List.forall_mem_cons.2 ⟨?_, List.forall_mem_cons.2 ⟨?_, List.forall_mem_cons.2 ⟨?_, List.forall_mem_cons.2 ⟨?_, List.forall_mem_cons.2 ⟨?_, List.forall_mem_nil _⟩⟩⟩⟩⟩⟩⟩
  all_goals
    intro δ hf
  all_goals
    simp only [FT, TP, SB.tp, SI.tv, sta, IB.eval, and_true, true_and, ObsT, Ob.Tv, rowT, kix, In.tiv, ↓tbvT, In.tbv, get_cons, get_nil, reduceIte, Nat.reduceEqDiff, Int.reduceToNat, Int.reduceAdd, Int.reduceSub, Int.reduceLE, Int.reduceLT, Int.reduceEq, ne_eq, Bool.false_eq_true, not_true_eq_false, not_false_eq_true, true_iff, false_iff, iff_true, iff_false, false_implies, implies_true, decT, decide_true, decide_false, Bool.decide_eq_true, ap2, pb2, FI_3, FI_8, FI_9, FI_10, FI_11, FI_12, FI_13, FB_10, FB_11, FB_12, FB_13, FB_14, FB_15, FB_16, FI_20, FI_21, FI_22, FI_23, FI_24, FI_25, FI_26, FB_20, FB_21, FB_22, FB_23, Int.toNat_natCast, Int.toNat_zero] at hf
  all_goals
    have a0 := ha.1 0 (by omega)
    have a1 := ha.1 1 (by omega)
    have a2 := ha.1 2 (by omega)
  all_goals
    have b0 := hin 0 (-9223372036854775808) 9223372036854775807 (by simp [hMay, bH, gH, fM, lH, nw, ap3, i64b, kH])
    simp only [Int.reduceLE, reduceIte, Int.reduceNeg] at b0
  all_goals
    have b1 := hin 1 (-9223372036854775808) 9223372036854775807 (by simp [hMay, bH, gH, fM, lH, nw, ap3, i64b, kH])
    simp only [Int.reduceLE, reduceIte, Int.reduceNeg] at b1
  all_goals
    have b2 := hin 2 (-9223372036854775808) 9223372036854775807 (by simp [hMay, bH, gH, fM, lH, nw, ap3, i64b, kH])
    simp only [Int.reduceLE, reduceIte, Int.reduceNeg] at b2
  all_goals
    simp only [FT, TP, SB.tp, SI.tv, sta, IB.eval, and_true, true_and, ObsT, Ob.Tv, rowT, kix, In.tiv, ↓tbvT, In.tbv, get_cons, get_nil, reduceIte, Nat.reduceEqDiff, Int.reduceToNat, Int.reduceAdd, Int.reduceSub, Int.reduceLE, Int.reduceLT, Int.reduceEq, ne_eq, Bool.false_eq_true, not_true_eq_false, not_false_eq_true, true_iff, false_iff, iff_true, iff_false, false_implies, implies_true, decT, decide_true, decide_false, Bool.decide_eq_true, ap2, pb2, FI_3, FI_8, FI_9, FI_10, FI_11, FI_12, FI_13, FB_10, FB_11, FB_12, FB_13, FB_14, FB_15, FB_16, FI_20, FI_21, FI_22, FI_23, FI_24, FI_25, FI_26, FB_20, FB_21, FB_22, FB_23, Int.toNat_natCast, Int.toNat_zero, hMay_inv, hMay_mu, hMay, o1, othT, bH, gH, fM, lH, nw, ap3, i64b, kH, a0, a1, a2] at hf hi ⊢
  all_goals
    (repeat' (with_reducible apply And.intro)) <;> first
    | omega
    | assumption
    | (unfold inM; omega)
    | (unfold mayP; omega)
    | (simp only [mayP]; omega)
set_option maxRecDepth 100000 in
theorem hMay_c : LsC ((tm0 hMay Try.f106 (Try.f106.body.getD .skip)) :: []) hMay.os [hMay_L0] := by
  unfold hMay_L0
  exact ⟨List.forall_mem_cons.2 ⟨⟨⟨_, rfl, rfl⟩, by kernel_rfl⟩, List.forall_mem_cons.2 ⟨⟨⟨_, rfl, rfl⟩, by kernel_rfl⟩, List.forall_mem_cons.2 ⟨⟨⟨_, rfl, rfl⟩, by kernel_rfl⟩, List.forall_mem_cons.2 ⟨⟨⟨_, rfl, rfl⟩, by kernel_rfl⟩, List.forall_mem_cons.2 ⟨⟨⟨_, rfl, rfl⟩, by kernel_rfl⟩, List.forall_mem_cons.2 ⟨⟨⟨_, rfl, rfl⟩, by kernel_rfl⟩, List.forall_mem_cons.2 ⟨⟨⟨_, rfl, rfl⟩, by kernel_rfl⟩, List.forall_mem_nil _⟩⟩⟩⟩⟩⟩⟩, trivial⟩
theorem hMay_ok : hMay.Ok Try.prog FI FB :=
  Con.of_plain (body := Try.f106.body.getD .skip) pok fiok EntsFor.nil hMay Try.func106 (by kernel_rfl) 3 [] (by kernel_rfl) [hMay_L0] ⟨hMay_h0, trivial⟩ hMay_c
    hMay_inv hMay_mu (fun _ _ _ => trivial) fun kv iv0 bv0 hin hF k l iv bv hk ha hi => match k, hk, hi with
    | 0, hk, hi => by
      cases hk
      exact hMay_o0 kv iv0 bv0 hin hF iv bv ha hi
    | k + 1, hk, _ => by simp at hk
noncomputable def hModes_T1 : Tm := ⟨⟨104, 19, [(8, (.it .i64 (.c 0))), (7, (.it .i64 (.v 1))), (6, (.sl (.k 0) (.v 2) (.v 1) (.v 3))), (2, .sn)], [(.code (atC Try.f104 [1, 0, 1, 0, 0])), (.inLoop (atC Try.f104 [1, 0, 1, 0, 0])), (.inBlock 0), (.code (atC Try.f104 [1, 1]))], [], .none⟩, [],
    ⟨[], 0, 0, 0, [((.le (.v 1) (.v 3)), .true), ((.le (.c 0) (.v 3)), .true)], [1, 0], [(1, (0, 1000)), (2, (0, (-1)))]⟩, []⟩
noncomputable def hModes_T2 : Tm := ⟨⟨104, 19, [(8, (.it .i64 (.v 27))), (2, (.sl (.n 2) (.c 0) (.v 27) (.v 24))), (7, (.it .i64 (.v 1))), (6, (.sl (.k 0) (.v 2) (.v 1) (.v 3)))], [(.code (atC Try.f104 [1, 0, 1, 0, 0])), (.inLoop (atC Try.f104 [1, 0, 1, 0, 0])), (.inBlock 0), (.code (atC Try.f104 [1, 1]))], [], .none⟩, [],
    ⟨[(2, (.arr [(.nt .i64)] (.v 28) (.v 27) 22 (.v 24)))], 3, 0, 0, [((.lt (.c 0) (.v 1)), .true), ((.le (.v 1) (.v 3)), .true), ((.le (.c 0) (.v 3)), .true)], [1, 0], [(1, (1, 1000)), (2, (0, (-1))), (27, (1, 0))]⟩, [27, 28, 24]⟩
noncomputable def hModes_L0 : List Lf :=
  [(.cut [((.le (.v 1) (.v 3)), .true), ((.le (.c 0) (.v 3)), .true)] 1 ⟨⟨[], []⟩, [], [], []⟩ [] (shT hModes_T1 ⟨⟨[], []⟩, [], [], []⟩))]
noncomputable def hModes_L1 : List Lf :=
  [(.cut [((.le (.c 1) (.d 0)), .true), ((.lt (.c 0) (.v 1)), .true), ((.le (.v 1) (.v 3)), .true), ((.le (.c 0) (.v 3)), .true)] 2 ⟨⟨[(28, (.ap 8 (.c 0) (.c 0) (.c 0) (.ap 3 (.v 0) (.c 0) (.c 2) (.c 0) (.c 0) (.c 0)) (.c 0) (.c 0))), (24, (.d 0)), (27, (.c 1))], []⟩, [(2, 2)], [], []⟩ [(.ei (.ap 3 (.ap 8 (.c 0) (.c 0) (.c 0) (.ap 3 (.v 0) (.c 0) (.c 2) (.c 0) (.c 0) (.c 0)) (.c 0) (.c 0)) (.c 0) (.c 0) (.c 0) (.c 0) (.c 0)) (.ap 3 (.v 0) (.c 0) (.c 2) (.c 0) (.c 0) (.c 0))), (.fa (.le (.c 1) (.c 1)) .true), (.fa (.le (.c 1) (.d 0)) .true)] (shT hModes_T2 ⟨⟨[(28, (.ap 8 (.c 0) (.c 0) (.c 0) (.ap 3 (.v 0) (.c 0) (.c 2) (.c 0) (.c 0) (.c 0)) (.c 0) (.c 0))), (24, (.d 0)), (27, (.c 1))], []⟩, [(2, 2)], [], []⟩)), (.fin [((.lt (.c 0) (.v 1)), .false), ((.le (.v 1) (.v 3)), .true), ((.le (.c 0) (.v 3)), .true)] 0 ⟨⟨[], []⟩, [], [], []⟩ [] [])]
noncomputable def hModes_L2 : List Lf :=
  [(.cut [((.le (.op .add (.v 27) (.c 1)) (.d 0)), .true), ((.lt (.v 27) (.v 1)), .true), ((.lt (.c 0) (.v 1)), .true), ((.le (.v 1) (.v 3)), .true), ((.le (.c 0) (.v 3)), .true)] 2 ⟨⟨[(28, (.ap 8 (.v 28) (.v 27) (.c 0) (.ap 3 (.v 0) (.v 27) (.c 2) (.c 0) (.c 0) (.c 0)) (.c 0) (.c 0))), (24, (.d 0)), (27, (.op .add (.v 27) (.c 1)))], []⟩, [(2, 5)], [], []⟩ [] (shT hModes_T2 ⟨⟨[(28, (.ap 8 (.v 28) (.v 27) (.c 0) (.ap 3 (.v 0) (.v 27) (.c 2) (.c 0) (.c 0) (.c 0)) (.c 0) (.c 0))), (24, (.d 0)), (27, (.op .add (.v 27) (.c 1)))], []⟩, [(2, 5)], [], []⟩)), (.fin [((.lt (.v 27) (.v 1)), .false), ((.lt (.c 0) (.v 1)), .true), ((.le (.v 1) (.v 3)), .true), ((.le (.c 0) (.v 3)), .true)] 1 ⟨⟨[], []⟩, [(0, 2)], [(0, (.v 24))], []⟩ [(.ei (.v 1) (.v 27)), (.ar [(.nt .i64)] (.ap 20 (.v 0) (.v 1) (.c 0) (.c 0) (.c 0) (.c 0)) (.v 28) (.v 1)), (.fa (.le (.v 1) (.v 27)) .true), (.fa (.le (.v 1) (.v 24)) .true)] [.none])]
set_option maxRecDepth 100000 in
theorem hModes_h0 : (ex (ccOf Try.prog BF [58, 84] hModes) ((fun _ => []) (ccOf Try.prog BF [58, 84] hModes)) (dw (ccOf Try.prog BF [58, 84] hModes) ((fun _ => []) (ccOf Try.prog BF [58, 84] hModes)) 1000 4) (stopX []) 4000 (tm0 hModes Try.f104 (Try.f104.body.getD .skip)).f (tm0 hModes Try.f104 (Try.f104.body.getD .skip)).fs (tm0 hModes Try.f104 (Try.f104.body.getD .skip)).H).lfs (ccOf Try.prog BF [58, 84] hModes) ((tm0 hModes Try.f104 (Try.f104.body.getD .skip)) :: [hModes_T1, hModes_T2]) hModes.os = some hModes_L0 := by kernel_rfl
set_option maxRecDepth 100000 in
theorem hModes_h1 : (ex (ccOf Try.prog BF [58, 84] hModes) ((fun _ => []) (ccOf Try.prog BF [58, 84] hModes)) (dw (ccOf Try.prog BF [58, 84] hModes) ((fun _ => []) (ccOf Try.prog BF [58, 84] hModes)) 1000 4) (stopX []) 4000 hModes_T1.f hModes_T1.fs hModes_T1.H).lfs (ccOf Try.prog BF [58, 84] hModes) ((tm0 hModes Try.f104 (Try.f104.body.getD .skip)) :: [hModes_T1, hModes_T2]) hModes.os = some hModes_L1 := by kernel_rfl
set_option maxRecDepth 100000 in
theorem hModes_h2 : (ex (ccOf Try.prog BF [58, 84] hModes) ((fun _ => []) (ccOf Try.prog BF [58, 84] hModes)) (dw (ccOf Try.prog BF [58, 84] hModes) ((fun _ => []) (ccOf Try.prog BF [58, 84] hModes)) 1000 4) (stopX []) 4000 hModes_T2.f hModes_T2.fs hModes_T2.H).lfs (ccOf Try.prog BF [58, 84] hModes) ((tm0 hModes Try.f104 (Try.f104.body.getD .skip)) :: [hModes_T1, hModes_T2]) hModes.os = some hModes_L2 := by kernel_rfl
def hModes_inv : (Nat → Int) → (Nat → Bool) → Nat → (Nat → Int) → (Nat → Bool) → Prop := fun iv0 _ k iv _ => match k with
  | 0 => True
  | 1 => True
  | _ => 1 ≤ iv 27 ∧ iv 27 ≤ iv0 1 ∧ iv 27 ≤ iv 24 ∧ ∀ j : Nat, (j : Int) < iv 27 → fl (iv 28) j 0 = fl (iv0 0) j 2
def hModes_mu : (Nat → Int) → (Nat → Bool) → Nat → (Nat → Int) → (Nat → Bool) → Nat := fun iv0 _ k iv _ => match k with | 0 => 2 ^ 90 | 1 => 2 ^ 80 | _ => (iv0 1 - iv 27).toNat
set_option maxHeartbeats 0 in
theorem hModes_o0 (kv : Kv) (iv0 : Nat → Int) (bv0 : Nat → Bool) (hin : InB hModes.B iv0) (hF : FT (sta FI FB kv iv0 bv0) (dlt dyn0) hModes.F) (iv : Nat → Int) (bv : Nat → Bool) (ha : Agr 4 iv0 bv0 iv bv) (hi : hModes_inv iv0 bv0 0 iv bv) :
    ∀ lf ∈ hModes_L0, LfT (sta FI FB kv) hModes.os (hModes_inv iv0 bv0) (hModes_mu iv0 bv0) 0 iv bv lf := by
  unfold hModes_L0
  refine List.forall_mem_cons.2 ⟨?_, List.forall_mem_nil _⟩
  all_goals
    intro δ hf
  all_goals
    simp only [FT, TP, SB.tp, SI.tv, sta, IB.eval, and_true, true_and, ObsT, Ob.Tv, rowT, kix, In.tiv, ↓tbvT, In.tbv, get_cons, get_nil, reduceIte, Nat.reduceEqDiff, Int.reduceToNat, Int.reduceAdd, Int.reduceSub, Int.reduceLE, Int.reduceLT, Int.reduceEq, ne_eq, Bool.false_eq_true, not_true_eq_false, not_false_eq_true, true_iff, false_iff, iff_true, iff_false, false_implies, implies_true, decT, decide_true, decide_false, Bool.decide_eq_true, ap2, pb2, FI_3, FI_8, FI_9, FI_10, FI_11, FI_12, FI_13, FB_10, FB_11, FB_12, FB_13, FB_14, FB_15, FB_16, FI_20, FI_21, FI_22, FI_23, FI_24, FI_25, FI_26, FB_20, FB_21, FB_22, FB_23, Int.toNat_natCast, Int.toNat_zero] at hf
  all_goals
    have a0 := ha.1 0 (by omega)
    have a1 := ha.1 1 (by omega)
    have a2 := ha.1 2 (by omega)
    have a3 := ha.1 3 (by omega)
  all_goals
    have b1 := hin 1 0 1000 (by simp [hModes, bH, gH, fM, lH, nw, ap3, i64b, kH])
    simp only [Int.reduceLE, reduceIte, Int.reduceNeg] at b1
  all_goals
    simp only [FT, TP, SB.tp, SI.tv, sta, IB.eval, and_true, true_and, ObsT, Ob.Tv, rowT, kix, In.tiv, ↓tbvT, In.tbv, get_cons, get_nil, reduceIte, Nat.reduceEqDiff, Int.reduceToNat, Int.reduceAdd, Int.reduceSub, Int.reduceLE, Int.reduceLT, Int.reduceEq, ne_eq, Bool.false_eq_true, not_true_eq_false, not_false_eq_true, true_iff, false_iff, iff_true, iff_false, false_implies, implies_true, decT, decide_true, decide_false, Bool.decide_eq_true, ap2, pb2, FI_3, FI_8, FI_9, FI_10, FI_11, FI_12, FI_13, FB_10, FB_11, FB_12, FB_13, FB_14, FB_15, FB_16, FI_20, FI_21, FI_22, FI_23, FI_24, FI_25, FI_26, FB_20, FB_21, FB_22, FB_23, Int.toNat_natCast, Int.toNat_zero, hModes_inv, hModes_mu, hModes, o1, othT, bH, gH, fM, lH, nw, ap3, i64b, kH, a0, a1, a2, a3] at hf hi ⊢
  all_goals
    (repeat' (with_reducible apply And.intro)) <;> first
    | omega
    | assumption
    | (unfold inM; omega)
set_option maxHeartbeats 0 in
theorem hModes_o1 (kv : Kv) (iv0 : Nat → Int) (bv0 : Nat → Bool) (hin : InB hModes.B iv0) (hF : FT (sta FI FB kv iv0 bv0) (dlt dyn0) hModes.F) (iv : Nat → Int) (bv : Nat → Bool) (ha : Agr 4 iv0 bv0 iv bv) (hi : hModes_inv iv0 bv0 1 iv bv) :
    ∀ lf ∈ hModes_L1, LfT (sta FI FB kv) hModes.os (hModes_inv iv0 bv0) (hModes_mu iv0 bv0) 1 iv bv lf := by
  unfold hModes_L1
  refine List.forall_mem_cons.2 ⟨?_, List.forall_mem_cons.2 ⟨?_, List.forall_mem_nil _⟩⟩
  all_goals
    intro δ hf
  all_goals
    simp only [FT, TP, SB.tp, SI.tv, sta, IB.eval, and_true, true_and, ObsT, Ob.Tv, rowT, kix, In.tiv, ↓tbvT, In.tbv, get_cons, get_nil, reduceIte, Nat.reduceEqDiff, Int.reduceToNat, Int.reduceAdd, Int.reduceSub, Int.reduceLE, Int.reduceLT, Int.reduceEq, ne_eq, Bool.false_eq_true, not_true_eq_false, not_false_eq_true, true_iff, false_iff, iff_true, iff_false, false_implies, implies_true, decT, decide_true, decide_false, Bool.decide_eq_true, ap2, pb2, FI_3, FI_8, FI_9, FI_10, FI_11, FI_12, FI_13, FB_10, FB_11, FB_12, FB_13, FB_14, FB_15, FB_16, FI_20, FI_21, FI_22, FI_23, FI_24, FI_25, FI_26, FB_20, FB_21, FB_22, FB_23, Int.toNat_natCast, Int.toNat_zero] at hf
  all_goals
    have a0 := ha.1 0 (by omega)
    have a1 := ha.1 1 (by omega)
    have a2 := ha.1 2 (by omega)
    have a3 := ha.1 3 (by omega)
  all_goals
    have b1 := hin 1 0 1000 (by simp [hModes, bH, gH, fM, lH, nw, ap3, i64b, kH])
    simp only [Int.reduceLE, reduceIte, Int.reduceNeg] at b1
  all_goals
    simp only [FT, TP, SB.tp, SI.tv, sta, IB.eval, and_true, true_and, ObsT, Ob.Tv, rowT, kix, In.tiv, ↓tbvT, In.tbv, get_cons, get_nil, reduceIte, Nat.reduceEqDiff, Int.reduceToNat, Int.reduceAdd, Int.reduceSub, Int.reduceLE, Int.reduceLT, Int.reduceEq, ne_eq, Bool.false_eq_true, not_true_eq_false, not_false_eq_true, true_iff, false_iff, iff_true, iff_false, false_implies, implies_true, decT, decide_true, decide_false, Bool.decide_eq_true, ap2, pb2, FI_3, FI_8, FI_9, FI_10, FI_11, FI_12, FI_13, FB_10, FB_11, FB_12, FB_13, FB_14, FB_15, FB_16, FI_20, FI_21, FI_22, FI_23, FI_24, FI_25, FI_26, FB_20, FB_21, FB_22, FB_23, Int.toNat_natCast, Int.toNat_zero, hModes_inv, hModes_mu, hModes, o1, othT, bH, gH, fM, lH, nw, ap3, i64b, kH, a0, a1, a2, a3] at hf hi ⊢
  all_goals
    (repeat' (with_reducible apply And.intro)) <;> first
    | omega
    | assumption
    | (unfold inM; omega)
    | exact set_row (k := 0) (by omega) (fun j hj => by omega) rfl 0 (by omega)
    | exact fun j hj => set_row (k := 0) (by omega) (fun j hj => by omega) rfl j (by omega)
set_option maxHeartbeats 0 in
theorem hModes_o2 (kv : Kv) (iv0 : Nat → Int) (bv0 : Nat → Bool) (hin : InB hModes.B iv0) (hF : FT (sta FI FB kv iv0 bv0) (dlt dyn0) hModes.F) (iv : Nat → Int) (bv : Nat → Bool) (ha : Agr 4 iv0 bv0 iv bv) (hi : hModes_inv iv0 bv0 2 iv bv) :
    ∀ lf ∈ hModes_L2, LfT (sta FI FB kv) hModes.os (hModes_inv iv0 bv0) (hModes_mu iv0 bv0) 2 iv bv lf := by
  unfold hModes_L2
  refine List.forall_mem_cons.2 ⟨?_, List.forall_mem_cons.2 ⟨?_, List.forall_mem_nil _⟩⟩
  all_goals
    intro δ hf
  all_goals
    simp only [FT, TP, SB.tp, SI.tv, sta, IB.eval, and_true, true_and, ObsT, Ob.Tv, rowT, kix, In.tiv, ↓tbvT, In.tbv, get_cons, get_nil, reduceIte, Nat.reduceEqDiff, Int.reduceToNat, Int.reduceAdd, Int.reduceSub, Int.reduceLE, Int.reduceLT, Int.reduceEq, ne_eq, Bool.false_eq_true, not_true_eq_false, not_false_eq_true, true_iff, false_iff, iff_true, iff_false, false_implies, implies_true, decT, decide_true, decide_false, Bool.decide_eq_true, ap2, pb2, FI_3, FI_8, FI_9, FI_10, FI_11, FI_12, FI_13, FB_10, FB_11, FB_12, FB_13, FB_14, FB_15, FB_16, FI_20, FI_21, FI_22, FI_23, FI_24, FI_25, FI_26, FB_20, FB_21, FB_22, FB_23, Int.toNat_natCast, Int.toNat_zero] at hf
  all_goals
    have a0 := ha.1 0 (by omega)
    have a1 := ha.1 1 (by omega)
    have a2 := ha.1 2 (by omega)
    have a3 := ha.1 3 (by omega)
  all_goals
    have b1 := hin 1 0 1000 (by simp [hModes, bH, gH, fM, lH, nw, ap3, i64b, kH])
    simp only [Int.reduceLE, reduceIte, Int.reduceNeg] at b1
  all_goals
    simp only [FT, TP, SB.tp, SI.tv, sta, IB.eval, and_true, true_and, ObsT, Ob.Tv, rowT, kix, In.tiv, ↓tbvT, In.tbv, get_cons, get_nil, reduceIte, Nat.reduceEqDiff, Int.reduceToNat, Int.reduceAdd, Int.reduceSub, Int.reduceLE, Int.reduceLT, Int.reduceEq, ne_eq, Bool.false_eq_true, not_true_eq_false, not_false_eq_true, true_iff, false_iff, iff_true, iff_false, false_implies, implies_true, decT, decide_true, decide_false, Bool.decide_eq_true, ap2, pb2, FI_3, FI_8, FI_9, FI_10, FI_11, FI_12, FI_13, FB_10, FB_11, FB_12, FB_13, FB_14, FB_15, FB_16, FI_20, FI_21, FI_22, FI_23, FI_24, FI_25, FI_26, FB_20, FB_21, FB_22, FB_23, Int.toNat_natCast, Int.toNat_zero, hModes_inv, hModes_mu, hModes, o1, othT, bH, gH, fM, lH, nw, ap3, i64b, kH, a0, a1, a2, a3] at hf hi ⊢
  all_goals
    (repeat' (with_reducible apply And.intro)) <;> first
    | omega
    | assumption
    | (unfold inM; omega)
    | exact set_row (by omega) hi.2.2.2 rfl
    | exact fun j hj => by rw [fl_modesC (by omega)]; exact (hi.2.2.2 j (by omega)).symm
    | exact fun j hj => ⟨by rw [fl_modesC (by omega)]; exact (hi.2.2.2 j (by omega)).symm, trivial⟩
set_option maxRecDepth 100000 in
theorem hModes_c : LsC ((tm0 hModes Try.f104 (Try.f104.body.getD .skip)) :: [hModes_T1, hModes_T2]) hModes.os [hModes_L0, hModes_L1, hModes_L2] := by
  unfold hModes_L0 hModes_L1 hModes_L2
  exact ⟨List.forall_mem_cons.2 ⟨⟨⟨_, rfl, rfl⟩, by kernel_rfl⟩, List.forall_mem_nil _⟩, List.forall_mem_cons.2 ⟨⟨⟨_, rfl, rfl⟩, by kernel_rfl⟩, List.forall_mem_cons.2 ⟨⟨⟨_, rfl, rfl⟩, by kernel_rfl⟩, List.forall_mem_nil _⟩⟩, List.forall_mem_cons.2 ⟨⟨⟨_, rfl, rfl⟩, by kernel_rfl⟩, List.forall_mem_cons.2 ⟨⟨⟨_, rfl, rfl⟩, by kernel_rfl⟩, List.forall_mem_nil _⟩⟩, trivial⟩
theorem hModes_ok : hModes.Ok Try.prog FI FB :=
  Con.of_plain (body := Try.f104.body.getD .skip) pok fiok EntsFor.nil hModes Try.func104 (by kernel_rfl) 4 [hModes_T1, hModes_T2] (by kernel_rfl) [hModes_L0, hModes_L1, hModes_L2] ⟨hModes_h0, hModes_h1, hModes_h2, trivial⟩ hModes_c
    hModes_inv hModes_mu (fun _ _ _ => trivial) fun kv iv0 bv0 hin hF k l iv bv hk ha hi => match k, hk, hi with
    | 0, hk, hi => by
      cases hk
      exact hModes_o0 kv iv0 bv0 hin hF iv bv ha hi
    | 1, hk, hi => by
      cases hk
      exact hModes_o1 kv iv0 bv0 hin hF iv bv ha hi
    | 2, hk, hi => by
      cases hk
      exact hModes_o2 kv iv0 bv0 hin hF iv bv ha hi
    | k + 3, hk, _ => by simp at hk
noncomputable def rModes_T1 : Tm := ⟨⟨53, 20, [(4, (.it .i64 (.c 0))), (3, .sn), (0, (.sl (.k 0) (.v 2) (.v 1) (.v 3)))], [(.code (atC Try.f53 [1, 1, 0, 1, 0, 0])), (.inLoop (atC Try.f53 [1, 1, 0, 1, 0, 0])), (.inBlock 0), (.code (atC Try.f53 [1, 1, 1]))], [], .none⟩, [],
    ⟨[], 0, 0, 0, [((.le (.v 1) (.v 3)), .true), ((.le (.c 0) (.v 3)), .true)], [1, 0], [(1, (0, 1000)), (2, (0, (-1)))]⟩, []⟩
noncomputable def rModes_T2 : Tm := ⟨⟨53, 20, [(4, (.it .i64 (.v 27))), (3, (.sl (.n 1) (.c 0) (.v 27) (.v 24))), (0, (.sl (.k 0) (.v 2) (.v 1) (.v 3)))], [(.code (atC Try.f53 [1, 1, 0, 1, 0, 0])), (.inLoop (atC Try.f53 [1, 1, 0, 1, 0, 0])), (.inBlock 0), (.code (atC Try.f53 [1, 1, 1]))], [], .none⟩, [],
    ⟨[(1, (.arr [(.nt .i64)] (.v 28) (.v 27) 22 (.v 24)))], 2, 0, 0, [((.lt (.c 0) (.v 1)), .true), ((.le (.v 1) (.v 3)), .true), ((.le (.c 0) (.v 3)), .true)], [1, 0], [(1, (1, 1000)), (2, (0, (-1))), (27, (1, 0))]⟩, [27, 28, 24]⟩
noncomputable def rModes_L0 : List Lf :=
  [(.cut [((.le (.v 1) (.v 3)), .true), ((.le (.c 0) (.v 3)), .true)] 1 ⟨⟨[], []⟩, [], [], []⟩ [] (shT rModes_T1 ⟨⟨[], []⟩, [], [], []⟩))]
noncomputable def rModes_L1 : List Lf :=
  [(.cut [((.le (.c 1) (.d 0)), .true), ((.lt (.c 0) (.v 1)), .true), ((.le (.v 1) (.v 3)), .true), ((.le (.c 0) (.v 3)), .true)] 2 ⟨⟨[(28, (.ap 8 (.c 0) (.c 0) (.c 0) (.ap 3 (.v 0) (.c 0) (.c 2) (.c 0) (.c 0) (.c 0)) (.c 0) (.c 0))), (24, (.d 0)), (27, (.c 1))], []⟩, [(1, 1)], [], []⟩ [(.ei (.ap 3 (.ap 8 (.c 0) (.c 0) (.c 0) (.ap 3 (.v 0) (.c 0) (.c 2) (.c 0) (.c 0) (.c 0)) (.c 0) (.c 0)) (.c 0) (.c 0) (.c 0) (.c 0) (.c 0)) (.ap 3 (.v 0) (.c 0) (.c 2) (.c 0) (.c 0) (.c 0))), (.fa (.le (.c 1) (.c 1)) .true), (.fa (.le (.c 1) (.d 0)) .true)] (shT rModes_T2 ⟨⟨[(28, (.ap 8 (.c 0) (.c 0) (.c 0) (.ap 3 (.v 0) (.c 0) (.c 2) (.c 0) (.c 0) (.c 0)) (.c 0) (.c 0))), (24, (.d 0)), (27, (.c 1))], []⟩, [(1, 1)], [], []⟩)), (.fin [((.lt (.c 0) (.v 1)), .false), ((.le (.v 1) (.v 3)), .true), ((.le (.c 0) (.v 3)), .true)] 0 ⟨⟨[], []⟩, [], [], []⟩ [] [])]
noncomputable def rModes_L2 : List Lf :=
  [(.cut [((.le (.op .add (.v 27) (.c 1)) (.d 0)), .true), ((.lt (.v 27) (.v 1)), .true), ((.lt (.c 0) (.v 1)), .true), ((.le (.v 1) (.v 3)), .true), ((.le (.c 0) (.v 3)), .true)] 2 ⟨⟨[(28, (.ap 8 (.v 28) (.v 27) (.c 0) (.ap 3 (.v 0) (.v 27) (.c 2) (.c 0) (.c 0) (.c 0)) (.c 0) (.c 0))), (24, (.d 0)), (27, (.op .add (.v 27) (.c 1)))], []⟩, [(1, 3)], [], []⟩ [] (shT rModes_T2 ⟨⟨[(28, (.ap 8 (.v 28) (.v 27) (.c 0) (.ap 3 (.v 0) (.v 27) (.c 2) (.c 0) (.c 0) (.c 0)) (.c 0) (.c 0))), (24, (.d 0)), (27, (.op .add (.v 27) (.c 1)))], []⟩, [(1, 3)], [], []⟩)), (.fin [((.lt (.v 27) (.v 1)), .false), ((.lt (.c 0) (.v 1)), .true), ((.le (.v 1) (.v 3)), .true), ((.le (.c 0) (.v 3)), .true)] 1 ⟨⟨[], []⟩, [(0, 1)], [(0, (.v 24))], []⟩ [(.ei (.v 1) (.v 27)), (.ar [(.nt .i64)] (.ap 20 (.v 0) (.v 1) (.c 0) (.c 0) (.c 0) (.c 0)) (.v 28) (.v 1)), (.fa (.le (.v 1) (.v 27)) .true), (.fa (.le (.v 1) (.v 24)) .true)] [.none])]
set_option maxRecDepth 100000 in
theorem rModes_h0 : (ex (ccOf Try.prog BF [58, 84] rModes) ((fun _ => []) (ccOf Try.prog BF [58, 84] rModes)) (dw (ccOf Try.prog BF [58, 84] rModes) ((fun _ => []) (ccOf Try.prog BF [58, 84] rModes)) 1000 4) (stopX []) 4000 (tm0 rModes Try.f53 (Try.f53.body.getD .skip)).f (tm0 rModes Try.f53 (Try.f53.body.getD .skip)).fs (tm0 rModes Try.f53 (Try.f53.body.getD .skip)).H).lfs (ccOf Try.prog BF [58, 84] rModes) ((tm0 rModes Try.f53 (Try.f53.body.getD .skip)) :: [rModes_T1, rModes_T2]) rModes.os = some rModes_L0 := by kernel_rfl
set_option maxRecDepth 100000 in
theorem rModes_h1 : (ex (ccOf Try.prog BF [58, 84] rModes) ((fun _ => []) (ccOf Try.prog BF [58, 84] rModes)) (dw (ccOf Try.prog BF [58, 84] rModes) ((fun _ => []) (ccOf Try.prog BF [58, 84] rModes)) 1000 4) (stopX []) 4000 rModes_T1.f rModes_T1.fs rModes_T1.H).lfs (ccOf Try.prog BF [58, 84] rModes) ((tm0 rModes Try.f53 (Try.f53.body.getD .skip)) :: [rModes_T1, rModes_T2]) rModes.os = some rModes_L1 := by kernel_rfl
set_option maxRecDepth 100000 in
theorem rModes_h2 : (ex (ccOf Try.prog BF [58, 84] rModes) ((fun _ => []) (ccOf Try.prog BF [58, 84] rModes)) (dw (ccOf Try.prog BF [58, 84] rModes) ((fun _ => []) (ccOf Try.prog BF [58, 84] rModes)) 1000 4) (stopX []) 4000 rModes_T2.f rModes_T2.fs rModes_T2.H).lfs (ccOf Try.prog BF [58, 84] rModes) ((tm0 rModes Try.f53 (Try.f53.body.getD .skip)) :: [rModes_T1, rModes_T2]) rModes.os = some rModes_L2 := by kernel_rfl
def rModes_inv : (Nat → Int) → (Nat → Bool) → Nat → (Nat → Int) → (Nat → Bool) → Prop := fun iv0 _ k iv _ => match k with
  | 0 => True
  | 1 => True
  | _ => 1 ≤ iv 27 ∧ iv 27 ≤ iv0 1 ∧ iv 27 ≤ iv 24 ∧ ∀ j : Nat, (j : Int) < iv 27 → fl (iv 28) j 0 = fl (iv0 0) j 2
def rModes_mu : (Nat → Int) → (Nat → Bool) → Nat → (Nat → Int) → (Nat → Bool) → Nat := fun iv0 _ k iv _ => match k with | 0 => 2 ^ 90 | 1 => 2 ^ 80 | _ => (iv0 1 - iv 27).toNat
set_option maxHeartbeats 0 in
theorem rModes_o0 (kv : Kv) (iv0 : Nat → Int) (bv0 : Nat → Bool) (hin : InB rModes.B iv0) (hF : FT (sta FI FB kv iv0 bv0) (dlt dyn0) rModes.F) (iv : Nat → Int) (bv : Nat → Bool) (ha : Agr 4 iv0 bv0 iv bv) (hi : rModes_inv iv0 bv0 0 iv bv) :
    ∀ lf ∈ rModes_L0, LfT (sta FI FB kv) rModes.os (rModes_inv iv0 bv0) (rModes_mu iv0 bv0) 0 iv bv lf := by
  unfold rModes_L0
  refine List.forall_mem_cons.2 ⟨?_, List.forall_mem_nil _⟩
  all_goals
    intro δ hf
  all_goals
    simp only [FT, TP, SB.tp, SI.tv, sta, IB.eval, and_true, true_and, ObsT, Ob.Tv, rowT, kix, In.tiv, ↓tbvT, In.tbv, get_cons, get_nil, reduceIte, Nat.reduceEqDiff, Int.reduceToNat, Int.reduceAdd, Int.reduceSub, Int.reduceLE, Int.reduceLT, Int.reduceEq, ne_eq, Bool.false_eq_true, not_true_eq_false, not_false_eq_true, true_iff, false_iff, iff_true, iff_false, false_implies, implies_true, decT, decide_true, decide_false, Bool.decide_eq_true, ap2, pb2, FI_3, FI_8, FI_9, FI_10, FI_11, FI_12, FI_13, FB_10, FB_11, FB_12, FB_13, FB_14, FB_15, FB_16, FI_20, FI_21, FI_22, FI_23, FI_24, FI_25, FI_26, FB_20, FB_21, FB_22, FB_23, Int.toNat_natCast, Int.toNat_zero] at hf
  all_goals
    have a0 := ha.1 0 (by omega)
    have a1 := ha.1 1 (by omega)
    have a2 := ha.1 2 (by omega)
    have a3 := ha.1 3 (by omega)
  all_goals
    have b1 := hin 1 0 1000 (by simp [rModes, bH, gH, fM, lH, nw, ap3, i64b, kH])
    simp only [Int.reduceLE, reduceIte, Int.reduceNeg] at b1
  all_goals
    simp only [FT, TP, SB.tp, SI.tv, sta, IB.eval, and_true, true_and, ObsT, Ob.Tv, rowT, kix, In.tiv, ↓tbvT, In.tbv, get_cons, get_nil, reduceIte, Nat.reduceEqDiff, Int.reduceToNat, Int.reduceAdd, Int.reduceSub, Int.reduceLE, Int.reduceLT, Int.reduceEq, ne_eq, Bool.false_eq_true, not_true_eq_false, not_false_eq_true, true_iff, false_iff, iff_true, iff_false, false_implies, implies_true, decT, decide_true, decide_false, Bool.decide_eq_true, ap2, pb2, FI_3, FI_8, FI_9, FI_10, FI_11, FI_12, FI_13, FB_10, FB_11, FB_12, FB_13, FB_14, FB_15, FB_16, FI_20, FI_21, FI_22, FI_23, FI_24, FI_25, FI_26, FB_20, FB_21, FB_22, FB_23, Int.toNat_natCast, Int.toNat_zero, rModes_inv, rModes_mu, rModes, o1, othT, bH, gH, fM, lH, nw, ap3, i64b, kH, a0, a1, a2, a3] at hf hi ⊢
  all_goals
    (repeat' (with_reducible apply And.intro)) <;> first
    | omega
    | assumption
    | (unfold inM; omega)
set_option maxHeartbeats 0 in
theorem rModes_o1 (kv : Kv) (iv0 : Nat → Int) (bv0 : Nat → Bool) (hin : InB rModes.B iv0) (hF : FT (sta FI FB kv iv0 bv0) (dlt dyn0) rModes.F) (iv : Nat → Int) (bv : Nat → Bool) (ha : Agr 4 iv0 bv0 iv bv) (hi : rModes_inv iv0 bv0 1 iv bv) :
    ∀ lf ∈ rModes_L1, LfT (sta FI FB kv) rModes.os (rModes_inv iv0 bv0) (rModes_mu iv0 bv0) 1 iv bv lf := by
  unfold rModes_L1
  refine List.forall_mem_cons.2 ⟨?_, List.forall_mem_cons.2 ⟨?_, List.forall_mem_nil _⟩⟩
  all_goals
    intro δ hf
  all_goals
    simp only [FT, TP, SB.tp, SI.tv, sta, IB.eval, and_true, true_and, ObsT, Ob.Tv, rowT, kix, In.tiv, ↓tbvT, In.tbv, get_cons, get_nil, reduceIte, Nat.reduceEqDiff, Int.reduceToNat, Int.reduceAdd, Int.reduceSub, Int.reduceLE, Int.reduceLT, Int.reduceEq, ne_eq, Bool.false_eq_true, not_true_eq_false, not_false_eq_true, true_iff, false_iff, iff_true, iff_false, false_implies, implies_true, decT, decide_true, decide_false, Bool.decide_eq_true, ap2, pb2, FI_3, FI_8, FI_9, FI_10, FI_11, FI_12, FI_13, FB_10, FB_11, FB_12, FB_13, FB_14, FB_15, FB_16, FI_20, FI_21, FI_22, FI_23, FI_24, FI_25, FI_26, FB_20, FB_21, FB_22, FB_23, Int.toNat_natCast, Int.toNat_zero] at hf
  all_goals
    have a0 := ha.1 0 (by omega)
    have a1 := ha.1 1 (by omega)
    have a2 := ha.1 2 (by omega)
    have a3 := ha.1 3 (by omega)
  all_goals
    have b1 := hin 1 0 1000 (by simp [rModes, bH, gH, fM, lH, nw, ap3, i64b, kH])
    simp only [Int.reduceLE, reduceIte, Int.reduceNeg] at b1
  all_goals
    simp only [FT, TP, SB.tp, SI.tv, sta, IB.eval, and_true, true_and, ObsT, Ob.Tv, rowT, kix, In.tiv, ↓tbvT, In.tbv, get_cons, get_nil, reduceIte, Nat.reduceEqDiff, Int.reduceToNat, Int.reduceAdd, Int.reduceSub, Int.reduceLE, Int.reduceLT, Int.reduceEq, ne_eq, Bool.false_eq_true, not_true_eq_false, not_false_eq_true, true_iff, false_iff, iff_true, iff_false, false_implies, implies_true, decT, decide_true, decide_false, Bool.decide_eq_true, ap2, pb2, FI_3, FI_8, FI_9, FI_10, FI_11, FI_12, FI_13, FB_10, FB_11, FB_12, FB_13, FB_14, FB_15, FB_16, FI_20, FI_21, FI_22, FI_23, FI_24, FI_25, FI_26, FB_20, FB_21, FB_22, FB_23, Int.toNat_natCast, Int.toNat_zero, rModes_inv, rModes_mu, rModes, o1, othT, bH, gH, fM, lH, nw, ap3, i64b, kH, a0, a1, a2, a3] at hf hi ⊢
  all_goals
    (repeat' (with_reducible apply And.intro)) <;> first
    | omega
    | assumption
    | (unfold inM; omega)
    | exact set_row (k := 0) (by omega) (fun j hj => by omega) rfl 0 (by omega)
    | exact fun j hj => set_row (k := 0) (by omega) (fun j hj => by omega) rfl j (by omega)
set_option maxHeartbeats 0 in
theorem rModes_o2 (kv : Kv) (iv0 : Nat → Int) (bv0 : Nat → Bool) (hin : InB rModes.B iv0) (hF : FT (sta FI FB kv iv0 bv0) (dlt dyn0) rModes.F) (iv : Nat → Int) (bv : Nat → Bool) (ha : Agr 4 iv0 bv0 iv bv) (hi : rModes_inv iv0 bv0 2 iv bv) :
    ∀ lf ∈ rModes_L2, LfT (sta FI FB kv) rModes.os (rModes_inv iv0 bv0) (rModes_mu iv0 bv0) 2 iv bv lf := by
  unfold rModes_L2
  refine List.forall_mem_cons.2 ⟨?_, List.forall_mem_cons.2 ⟨?_, List.forall_mem_nil _⟩⟩
  all_goals
    intro δ hf
  all_goals
    simp only [FT, TP, SB.tp, SI.tv, sta, IB.eval, and_true, true_and, ObsT, Ob.Tv, rowT, kix, In.tiv, ↓tbvT, In.tbv, get_cons, get_nil, reduceIte, Nat.reduceEqDiff, Int.reduceToNat, Int.reduceAdd, Int.reduceSub, Int.reduceLE, Int.reduceLT, Int.reduceEq, ne_eq, Bool.false_eq_true, not_true_eq_false, not_false_eq_true, true_iff, false_iff, iff_true, iff_false, false_implies, implies_true, decT, decide_true, decide_false, Bool.decide_eq_true, ap2, pb2, FI_3, FI_8, FI_9, FI_10, FI_11, FI_12, FI_13, FB_10, FB_11, FB_12, FB_13, FB_14, FB_15, FB_16, FI_20, FI_21, FI_22, FI_23, FI_24, FI_25, FI_26, FB_20, FB_21, FB_22, FB_23, Int.toNat_natCast, Int.toNat_zero] at hf
  all_goals
    have a0 := ha.1 0 (by omega)
    have a1 := ha.1 1 (by omega)
    have a2 := ha.1 2 (by omega)
    have a3 := ha.1 3 (by omega)
  all_goals
    have b1 := hin 1 0 1000 (by simp [rModes, bH, gH, fM, lH, nw, ap3, i64b, kH])
    simp only [Int.reduceLE, reduceIte, Int.reduceNeg] at b1
  all_goals
    simp only [FT, TP, SB.tp, SI.tv, sta, IB.eval, and_true, true_and, ObsT, Ob.Tv, rowT, kix, In.tiv, ↓tbvT, In.tbv, get_cons, get_nil, reduceIte, Nat.reduceEqDiff, Int.reduceToNat, Int.reduceAdd, Int.reduceSub, Int.reduceLE, Int.reduceLT, Int.reduceEq, ne_eq, Bool.false_eq_true, not_true_eq_false, not_false_eq_true, true_iff, false_iff, iff_true, iff_false, false_implies, implies_true, decT, decide_true, decide_false, Bool.decide_eq_true, ap2, pb2, FI_3, FI_8, FI_9, FI_10, FI_11, FI_12, FI_13, FB_10, FB_11, FB_12, FB_13, FB_14, FB_15, FB_16, FI_20, FI_21, FI_22, FI_23, FI_24, FI_25, FI_26, FB_20, FB_21, FB_22, FB_23, Int.toNat_natCast, Int.toNat_zero, rModes_inv, rModes_mu, rModes, o1, othT, bH, gH, fM, lH, nw, ap3, i64b, kH, a0, a1, a2, a3] at hf hi ⊢
  all_goals
    (repeat' (with_reducible apply And.intro)) <;> first
    | omega
    | assumption
    | (unfold inM; omega)
    | exact set_row (by omega) hi.2.2.2 rfl
    | exact fun j hj => by rw [fl_modesC (by omega)]; exact (hi.2.2.2 j (by omega)).symm
    | exact fun j hj => ⟨by rw [fl_modesC (by omega)]; exact (hi.2.2.2 j (by omega)).symm, trivial⟩
set_option maxRecDepth 100000 in
theorem rModes_c : LsC ((tm0 rModes Try.f53 (Try.f53.body.getD .skip)) :: [rModes_T1, rModes_T2]) rModes.os [rModes_L0, rModes_L1, rModes_L2] := by
  unfold rModes_L0 rModes_L1 rModes_L2
  exact ⟨List.forall_mem_cons.2 ⟨⟨⟨_, rfl, rfl⟩, by kernel_rfl⟩, List.forall_mem_nil _⟩, List.forall_mem_cons.2 ⟨⟨⟨_, rfl, rfl⟩, by kernel_rfl⟩, List.forall_mem_cons.2 ⟨⟨⟨_, rfl, rfl⟩, by kernel_rfl⟩, List.forall_mem_nil _⟩⟩, List.forall_mem_cons.2 ⟨⟨⟨_, rfl, rfl⟩, by kernel_rfl⟩, List.forall_mem_cons.2 ⟨⟨⟨_, rfl, rfl⟩, by kernel_rfl⟩, List.forall_mem_nil _⟩⟩, trivial⟩
theorem rModes_ok : rModes.Ok Try.prog FI FB :=
  Con.of_plain (body := Try.f53.body.getD .skip) pok fiok EntsFor.nil rModes Try.func53 (by kernel_rfl) 4 [rModes_T1, rModes_T2] (by kernel_rfl) [rModes_L0, rModes_L1, rModes_L2] ⟨rModes_h0, rModes_h1, rModes_h2, trivial⟩ rModes_c
    rModes_inv rModes_mu (fun _ _ _ => trivial) fun kv iv0 bv0 hin hF k l iv bv hk ha hi => match k, hk, hi with
    | 0, hk, hi => by
      cases hk
      exact rModes_o0 kv iv0 bv0 hin hF iv bv ha hi
    | 1, hk, hi => by
      cases hk
      exact rModes_o1 kv iv0 bv0 hin hF iv bv ha hi
    | 2, hk, hi => by
      cases hk
      exact rModes_o2 kv iv0 bv0 hin hF iv bv ha hi
    | k + 3, hk, _ => by simp at hk
noncomputable def eTog0_L0 : List Lf :=
  [(.fin [] 0 ⟨⟨[], []⟩, [], [], []⟩ [] [])]
set_option maxRecDepth 100000 in
theorem eTog0_h0 : (ex (ccOf Try.prog BF [58, 84] eTog0) ((fun _ => []) (ccOf Try.prog BF [58, 84] eTog0)) (dw (ccOf Try.prog BF [58, 84] eTog0) ((fun _ => []) (ccOf Try.prog BF [58, 84] eTog0)) 1000 4) (stopX [28, 31]) 4000 (tm0 eTog0 Try.f28 (Try.f28.body.getD .skip)).f (tm0 eTog0 Try.f28 (Try.f28.body.getD .skip)).fs (tm0 eTog0 Try.f28 (Try.f28.body.getD .skip)).H).lfs (ccOf Try.prog BF [58, 84] eTog0) ((tm0 eTog0 Try.f28 (Try.f28.body.getD .skip)) :: []) eTog0.os = some eTog0_L0 := by kernel_rfl
def eTog0_inv : (Nat → Int) → (Nat → Bool) → Nat → (Nat → Int) → (Nat → Bool) → Prop := fun _ _ _ _ _ => True
def eTog0_mu : (Nat → Int) → (Nat → Bool) → Nat → (Nat → Int) → (Nat → Bool) → Nat := fun _ _ _ _ _ => 0
set_option maxHeartbeats 0 in
theorem eTog0_o0 (kv : Kv) (iv0 : Nat → Int) (bv0 : Nat → Bool) (hin : InB eTog0.B iv0) (hF : FT (sta FI FB kv iv0 bv0) (dlt dyn0) eTog0.F) (iv : Nat → Int) (bv : Nat → Bool) (ha : Agr 0 iv0 bv0 iv bv) (hi : eTog0_inv iv0 bv0 0 iv bv) :
    ∀ lf ∈ eTog0_L0, LfT (sta FI FB kv) eTog0.os (eTog0_inv iv0 bv0) (eTog0_mu iv0 bv0) 0 iv bv lf := by
  unfold eTog0_L0
  refine List.forall_mem_cons.2 ⟨?_, List.forall_mem_nil _⟩
  all_goals
    intro δ hf
  all_goals
    simp only [FT, TP, SB.tp, SI.tv, sta, IB.eval, and_true, true_and, ObsT, Ob.Tv, rowT, kix, In.tiv, ↓tbvT, In.tbv, get_cons, get_nil, reduceIte, Nat.reduceEqDiff, Int.reduceToNat, Int.reduceAdd, Int.reduceSub, Int.reduceLE, Int.reduceLT, Int.reduceEq, ne_eq, Bool.false_eq_true, not_true_eq_false, not_false_eq_true, true_iff, false_iff, iff_true, iff_false, false_implies, implies_true, decT, decide_true, decide_false, Bool.decide_eq_true, ap2, pb2, FI_3, FI_8, FI_9, FI_10, FI_11, FI_12, FI_13, FB_10, FB_11, FB_12, FB_13, FB_14, FB_15, FB_16, FI_20, FI_21, FI_22, FI_23, FI_24, FI_25, FI_26, FB_20, FB_21, FB_22, FB_23, Int.toNat_natCast, Int.toNat_zero] at hf
  all_goals
    
  all_goals
    simp only [FT, TP, SB.tp, SI.tv, sta, IB.eval, and_true, true_and, ObsT, Ob.Tv, rowT, kix, In.tiv, ↓tbvT, In.tbv, get_cons, get_nil, reduceIte, Nat.reduceEqDiff, Int.reduceToNat, Int.reduceAdd, Int.reduceSub, Int.reduceLE, Int.reduceLT, Int.reduceEq, ne_eq, Bool.false_eq_true, not_true_eq_false, not_false_eq_true, true_iff, false_iff, iff_true, iff_false, false_implies, implies_true, decT, decide_true, decide_false, Bool.decide_eq_true, ap2, pb2, FI_3, FI_8, FI_9, FI_10, FI_11, FI_12, FI_13, FB_10, FB_11, FB_12, FB_13, FB_14, FB_15, FB_16, FI_20, FI_21, FI_22, FI_23, FI_24, FI_25, FI_26, FB_20, FB_21, FB_22, FB_23, Int.toNat_natCast, Int.toNat_zero, eTog0_inv, eTog0_mu, eTog0, o1, othT, bH, gH, fM, lH, nw, ap3, i64b, kH] at hf hi ⊢
  all_goals
    (repeat' (with_reducible apply And.intro)) <;> first
    | omega
    | assumption
    | (unfold inM; omega)
set_option maxRecDepth 100000 in
theorem eTog0_c : LsC ((tm0 eTog0 Try.f28 (Try.f28.body.getD .skip)) :: []) eTog0.os [eTog0_L0] := by
  unfold eTog0_L0
  exact ⟨List.forall_mem_cons.2 ⟨⟨⟨_, rfl, rfl⟩, by kernel_rfl⟩, List.forall_mem_nil _⟩, trivial⟩
theorem eTog0_ok : eTog0.Ok Try.prog FI FB :=
  Con.of_plain (body := Try.f28.body.getD .skip) pok fiok EntsFor.nil eTog0 Try.func28 (by kernel_rfl) 0 [] (by kernel_rfl) [eTog0_L0] ⟨eTog0_h0, trivial⟩ eTog0_c
    eTog0_inv eTog0_mu (fun _ _ _ => trivial) fun kv iv0 bv0 hin hF k l iv bv hk ha hi => match k, hk, hi with
    | 0, hk, hi => by
      cases hk
      exact eTog0_o0 kv iv0 bv0 hin hF iv bv ha hi
    | k + 1, hk, _ => by simp at hk
noncomputable def rTog0_L0 : List Lf :=
  [(.fin [] 0 ⟨⟨[], []⟩, [], [], []⟩ [] [])]
set_option maxRecDepth 100000 in
theorem rTog0_h0 : (ex (ccOf Try.prog BF [58, 84] rTog0) ((fun _ => []) (ccOf Try.prog BF [58, 84] rTog0)) (dw (ccOf Try.prog BF [58, 84] rTog0) ((fun _ => []) (ccOf Try.prog BF [58, 84] rTog0)) 1000 4) (stopX [28, 31]) 4000 (tm0 rTog0 Try.f31 (Try.f31.body.getD .skip)).f (tm0 rTog0 Try.f31 (Try.f31.body.getD .skip)).fs (tm0 rTog0 Try.f31 (Try.f31.body.getD .skip)).H).lfs (ccOf Try.prog BF [58, 84] rTog0) ((tm0 rTog0 Try.f31 (Try.f31.body.getD .skip)) :: []) rTog0.os = some rTog0_L0 := by kernel_rfl
def rTog0_inv : (Nat → Int) → (Nat → Bool) → Nat → (Nat → Int) → (Nat → Bool) → Prop := fun _ _ _ _ _ => True
def rTog0_mu : (Nat → Int) → (Nat → Bool) → Nat → (Nat → Int) → (Nat → Bool) → Nat := fun _ _ _ _ _ => 0
set_option maxHeartbeats 0 in
theorem rTog0_o0 (kv : Kv) (iv0 : Nat → Int) (bv0 : Nat → Bool) (hin : InB rTog0.B iv0) (hF : FT (sta FI FB kv iv0 bv0) (dlt dyn0) rTog0.F) (iv : Nat → Int) (bv : Nat → Bool) (ha : Agr 0 iv0 bv0 iv bv) (hi : rTog0_inv iv0 bv0 0 iv bv) :
    ∀ lf ∈ rTog0_L0, LfT (sta FI FB kv) rTog0.os (rTog0_inv iv0 bv0) (rTog0_mu iv0 bv0) 0 iv bv lf := by
  unfold rTog0_L0
  refine List.forall_mem_cons.2 ⟨?_, List.forall_mem_nil _⟩
  all_goals
    intro δ hf
  all_goals
    simp only [FT, TP, SB.tp, SI.tv, sta, IB.eval, and_true, true_and, ObsT, Ob.Tv, rowT, kix, In.tiv, ↓tbvT, In.tbv, get_cons, get_nil, reduceIte, Nat.reduceEqDiff, Int.reduceToNat, Int.reduceAdd, Int.reduceSub, Int.reduceLE, Int.reduceLT, Int.reduceEq, ne_eq, Bool.false_eq_true, not_true_eq_false, not_false_eq_true, true_iff, false_iff, iff_true, iff_false, false_implies, implies_true, decT, decide_true, decide_false, Bool.decide_eq_true, ap2, pb2, FI_3, FI_8, FI_9, FI_10, FI_11, FI_12, FI_13, FB_10, FB_11, FB_12, FB_13, FB_14, FB_15, FB_16, FI_20, FI_21, FI_22, FI_23, FI_24, FI_25, FI_26, FB_20, FB_21, FB_22, FB_23, Int.toNat_natCast, Int.toNat_zero] at hf
  all_goals
    
  all_goals
    simp only [FT, TP, SB.tp, SI.tv, sta, IB.eval, and_true, true_and, ObsT, Ob.Tv, rowT, kix, In.tiv, ↓tbvT, In.tbv, get_cons, get_nil, reduceIte, Nat.reduceEqDiff, Int.reduceToNat, Int.reduceAdd, Int.reduceSub, Int.reduceLE, Int.reduceLT, Int.reduceEq, ne_eq, Bool.false_eq_true, not_true_eq_false, not_false_eq_true, true_iff, false_iff, iff_true, iff_false, false_implies, implies_true, decT, decide_true, decide_false, Bool.decide_eq_true, ap2, pb2, FI_3, FI_8, FI_9, FI_10, FI_11, FI_12, FI_13, FB_10, FB_11, FB_12, FB_13, FB_14, FB_15, FB_16, FI_20, FI_21, FI_22, FI_23, FI_24, FI_25, FI_26, FB_20, FB_21, FB_22, FB_23, Int.toNat_natCast, Int.toNat_zero, rTog0_inv, rTog0_mu, rTog0, o1, othT, bH, gH, fM, lH, nw, ap3, i64b, kH] at hf hi ⊢
  all_goals
    (repeat' (with_reducible apply And.intro)) <;> first
    | omega
    | assumption
    | (unfold inM; omega)
set_option maxRecDepth 100000 in
theorem rTog0_c : LsC ((tm0 rTog0 Try.f31 (Try.f31.body.getD .skip)) :: []) rTog0.os [rTog0_L0] := by
  unfold rTog0_L0
  exact ⟨List.forall_mem_cons.2 ⟨⟨⟨_, rfl, rfl⟩, by kernel_rfl⟩, List.forall_mem_nil _⟩, trivial⟩
theorem rTog0_ok : rTog0.Ok Try.prog FI FB :=
  Con.of_plain (body := Try.f31.body.getD .skip) pok fiok EntsFor.nil rTog0 Try.func31 (by kernel_rfl) 0 [] (by kernel_rfl) [rTog0_L0] ⟨rTog0_h0, trivial⟩ rTog0_c
    rTog0_inv rTog0_mu (fun _ _ _ => trivial) fun kv iv0 bv0 hin hF k l iv bv hk ha hi => match k, hk, hi with
    | 0, hk, hi => by
      cases hk
      exact rTog0_o0 kv iv0 bv0 hin hF iv bv ha hi
    | k + 1, hk, _ => by simp at hk
end Go.Sx.Mhw
