/- Holds: the functions, by contract (2). -/
import Derived.Test.YtfgdpkceoadgjaaHoE
namespace Go.Sx.Mhw
set_option linter.unusedVariables false
set_option linter.unusedSimpArgs false
open Go Go.Sx Go.Proofs
noncomputable def hOf : Con := ⟨97, [0, 1, 2, 3], [lH], gH, bH, fM, [⟨[(pb2 20, true)], .ag [lH, .bo (.c true)], [], 0, 0, []⟩, ⟨[(pb2 20, false)], .ag [.sn, .bo (.c false)], [], 0, 0, []⟩]⟩
noncomputable def hOf0 : Con := ⟨97, [], [.sn], [], [], [], o1 (.ag [.sn, .bo (.c true)])⟩
noncomputable def hRight0 : Con := ⟨139, [], [.ag [.sn]], [], [], [], o1 (.bo (.c true))⟩
noncomputable def rRight0 : Con := ⟨52, [], [.sn], [], [], [], o1 (.bo (.c true))⟩
theorem rgt_tog {c n k : Int} (h : mayA c k) (e : ¬ k < n) (hk : k ≤ n) : rgtP c n ↔ allM (modesC c n) n ∧ togA (modesC c n) n := by
  have : k = n := by omega
  subst this
  exact ⟨fun hh => hh.2, fun hh => ⟨h, hh⟩⟩
theorem rgt_nil {c n : Int} (h : ¬ 0 < n) : rgtP c n := ⟨fun i hi => by omega, fun i hi => by omega, fun i hi => by omega⟩
theorem mayA_ext {c k : Int} (h : mayA c k) (h0 : 0 ≤ k) (h1 : mayP (fl c k.toNat 0) (fl c k.toNat 1) (fl c k.toNat 2)) (h2 : 0 < k → fl c (k + -1).toNat 0 < fl c k.toNat 0) : mayA c (k + 1) := by
  refine all_succ h0 h ⟨h1, fun hk => ?_⟩
  have := h2 (by omega)
  rwa [show (k + -1).toNat = k.toNat - 1 by omega] at this
theorem mayA_not {c k n : Int} (h0 : 0 ≤ k) (hk : k < n) (h : ¬ (mayP (fl c k.toNat 0) (fl c k.toNat 1) (fl c k.toNat 2) ∧ (0 < k → fl c (k + -1).toNat 0 < fl c k.toNat 0))) : ¬ rgtP c n := fun hh => h ⟨(hh.1 k.toNat (by omega)).1, fun h1 => by
  have := (hh.1 k.toNat (by omega)).2 (by omega)
  rwa [show (k + -1).toNat = k.toNat - 1 by omega]⟩
theorem rgt_tog2 {c n k : Int} (h : mayA c k) (e : ¬ k < n) (hk : k ≤ n) : rgtP c n ↔ togA (modesC c n) n := by
  have : k = n := by omega
  subst this
  exact ⟨fun hh => hh.2.2, fun hh => ⟨h, allM_of h, hh⟩⟩
noncomputable def hRight_T1 : Tm := ⟨⟨139, 47, [(11, (.it .i64 (.v 24))), (10, (.it .i64 (.v 1))), (9, (.sl (.k 0) (.v 2) (.v 1) (.v 3))), (3, (.fn 109 [] [])), (1, (.pt (.n 0) (.c 0)))], [(.code (atC Try.f139 [1, 1, 0, 1, 0, 0])), (.inLoop (atC Try.f139 [1, 1, 0, 1, 0, 0])), (.inBlock 0), (.code (atC Try.f139 [1, 1, 1]))], [], .none⟩, [],
    ⟨[(0, (.cells [(.sl (.k 0) (.v 2) (.v 1) (.v 3))] 135))], 1, 0, 0, [((.le (.v 1) (.v 3)), .true), ((.le (.c 0) (.v 3)), .true)], [1, 0], [(1, (0, 1000)), (2, (0, (-1))), (24, (0, (-1)))]⟩, [24]⟩
noncomputable def hRight_L0 : List Lf :=
  [(.cut [((.le (.v 1) (.v 3)), .true), ((.le (.c 0) (.v 3)), .true)] 1 ⟨⟨[(24, (.c 0))], []⟩, [(0, 0)], [], []⟩ [] (shT hRight_T1 ⟨⟨[(24, (.c 0))], []⟩, [(0, 0)], [], []⟩))]
noncomputable def hRight_L1 : List Lf :=
  [(.cut [((.lt (.ap 3 (.v 0) (.op .add (.v 24) (.c (-1))) (.c 0) (.c 0) (.c 0) (.c 0)) (.ap 3 (.v 0) (.v 24) (.c 0) (.c 0) (.c 0) (.c 0))), .true), ((.lt (.c 0) (.v 24)), .true), ((.ap 23 (.ap 3 (.v 0) (.v 24) (.c 0) (.c 0) (.c 0) (.c 0)) (.ap 3 (.v 0) (.v 24) (.c 1) (.c 0) (.c 0) (.c 0)) (.ap 3 (.v 0) (.v 24) (.c 2) (.c 0) (.c 0) (.c 0)) (.c 0) (.c 0) (.c 0)), .true), ((.lt (.v 24) (.v 1)), .true), ((.le (.v 1) (.v 3)), .true), ((.le (.c 0) (.v 3)), .true)] 1 ⟨⟨[(24, (.op .add (.v 24) (.c 1)))], []⟩, [(0, 0)], [], []⟩ [] (shT hRight_T1 ⟨⟨[(24, (.op .add (.v 24) (.c 1)))], []⟩, [(0, 0)], [], []⟩)), (.fin [((.lt (.ap 3 (.v 0) (.v 24) (.c 0) (.c 0) (.c 0) (.c 0)) (.ap 3 (.v 0) (.op .add (.v 24) (.c (-1))) (.c 0) (.c 0) (.c 0) (.c 0))), .true), ((.lt (.ap 3 (.v 0) (.op .add (.v 24) (.c (-1))) (.c 0) (.c 0) (.c 0) (.c 0)) (.ap 3 (.v 0) (.v 24) (.c 0) (.c 0) (.c 0) (.c 0))), .false), ((.lt (.c 0) (.v 24)), .true), ((.ap 23 (.ap 3 (.v 0) (.v 24) (.c 0) (.c 0) (.c 0) (.c 0)) (.ap 3 (.v 0) (.v 24) (.c 1) (.c 0) (.c 0) (.c 0)) (.ap 3 (.v 0) (.v 24) (.c 2) (.c 0) (.c 0) (.c 0)) (.c 0) (.c 0) (.c 0)), .true), ((.lt (.v 24) (.v 1)), .true), ((.le (.v 1) (.v 3)), .true), ((.le (.c 0) (.v 3)), .true)] 0 ⟨⟨[], []⟩, [], [], []⟩ [(.eb (.ap 20 (.v 0) (.v 1) (.c 0) (.c 0) (.c 0) (.c 0)) (.c .false))] []), (.fin [((.lt (.ap 3 (.v 0) (.v 24) (.c 0) (.c 0) (.c 0) (.c 0)) (.ap 3 (.v 0) (.op .add (.v 24) (.c (-1))) (.c 0) (.c 0) (.c 0) (.c 0))), .false), ((.lt (.ap 3 (.v 0) (.op .add (.v 24) (.c (-1))) (.c 0) (.c 0) (.c 0) (.c 0)) (.ap 3 (.v 0) (.v 24) (.c 0) (.c 0) (.c 0) (.c 0))), .false), ((.lt (.c 0) (.v 24)), .true), ((.ap 23 (.ap 3 (.v 0) (.v 24) (.c 0) (.c 0) (.c 0) (.c 0)) (.ap 3 (.v 0) (.v 24) (.c 1) (.c 0) (.c 0) (.c 0)) (.ap 3 (.v 0) (.v 24) (.c 2) (.c 0) (.c 0) (.c 0)) (.c 0) (.c 0) (.c 0)), .true), ((.lt (.v 24) (.v 1)), .true), ((.le (.v 1) (.v 3)), .true), ((.le (.c 0) (.v 3)), .true)] 0 ⟨⟨[], []⟩, [], [], []⟩ [(.eb (.ap 20 (.v 0) (.v 1) (.c 0) (.c 0) (.c 0) (.c 0)) (.c .false))] []), (.cut [((.lt (.c 0) (.v 24)), .false), ((.ap 23 (.ap 3 (.v 0) (.v 24) (.c 0) (.c 0) (.c 0) (.c 0)) (.ap 3 (.v 0) (.v 24) (.c 1) (.c 0) (.c 0) (.c 0)) (.ap 3 (.v 0) (.v 24) (.c 2) (.c 0) (.c 0) (.c 0)) (.c 0) (.c 0) (.c 0)), .true), ((.lt (.v 24) (.v 1)), .true), ((.le (.v 1) (.v 3)), .true), ((.le (.c 0) (.v 3)), .true)] 1 ⟨⟨[(24, (.op .add (.v 24) (.c 1)))], []⟩, [(0, 0)], [], []⟩ [] (shT hRight_T1 ⟨⟨[(24, (.op .add (.v 24) (.c 1)))], []⟩, [(0, 0)], [], []⟩)), (.fin [((.ap 23 (.ap 3 (.v 0) (.v 24) (.c 0) (.c 0) (.c 0) (.c 0)) (.ap 3 (.v 0) (.v 24) (.c 1) (.c 0) (.c 0) (.c 0)) (.ap 3 (.v 0) (.v 24) (.c 2) (.c 0) (.c 0) (.c 0)) (.c 0) (.c 0) (.c 0)), .false), ((.lt (.v 24) (.v 1)), .true), ((.le (.v 1) (.v 3)), .true), ((.le (.c 0) (.v 3)), .true)] 0 ⟨⟨[], []⟩, [], [], []⟩ [(.eb (.ap 20 (.v 0) (.v 1) (.c 0) (.c 0) (.c 0) (.c 0)) (.c .false))] []), (.fin [((.ap 14 (.ap 20 (.v 0) (.v 1) (.c 0) (.c 0) (.c 0) (.c 0)) (.v 1) (.c 0) (.c 0) (.c 0) (.c 0)), .true), ((.le (.v 1) (.d 0)), .true), ((.lt (.c 0) (.v 1)), .true), ((.lt (.v 24) (.v 1)), .false), ((.le (.v 1) (.v 3)), .true), ((.le (.c 0) (.v 3)), .true)] 0 ⟨⟨[], []⟩, [], [], []⟩ [(.eb (.ap 20 (.v 0) (.v 1) (.c 0) (.c 0) (.c 0) (.c 0)) (.eq (.ap 12 (.ap 20 (.v 0) (.v 1) (.c 0) (.c 0) (.c 0) (.c 0)) (.v 1) (.c 0) (.c 0) (.c 0) (.c 0)) (.c 0)))] []), (.fin [((.ap 14 (.ap 20 (.v 0) (.v 1) (.c 0) (.c 0) (.c 0) (.c 0)) (.v 1) (.c 0) (.c 0) (.c 0) (.c 0)), .false), ((.le (.v 1) (.d 0)), .true), ((.lt (.c 0) (.v 1)), .true), ((.lt (.v 24) (.v 1)), .false), ((.le (.v 1) (.v 3)), .true), ((.le (.c 0) (.v 3)), .true)] 0 ⟨⟨[], []⟩, [], [], []⟩ [(.eb (.ap 20 (.v 0) (.v 1) (.c 0) (.c 0) (.c 0) (.c 0)) (.c .false))] []), (.fin [((.lt (.c 0) (.v 1)), .false), ((.lt (.v 24) (.v 1)), .false), ((.le (.v 1) (.v 3)), .true), ((.le (.c 0) (.v 3)), .true)] 0 ⟨⟨[], []⟩, [], [], []⟩ [(.eb (.ap 20 (.v 0) (.v 1) (.c 0) (.c 0) (.c 0) (.c 0)) (.c .true))] [])]
set_option maxRecDepth 100000 in
theorem hRight_h0 : (ex (ccOf Try.prog BF [58, 84] hRight) ((fun cc => [hMay.ent cc, hModes.ent cc, eTog.ent cc, eTog0.ent cc]) (ccOf Try.prog BF [58, 84] hRight)) (dw (ccOf Try.prog BF [58, 84] hRight) ((fun cc => [hMay.ent cc, hModes.ent cc, eTog.ent cc, eTog0.ent cc]) (ccOf Try.prog BF [58, 84] hRight)) 1000 4) (stopX []) 4000 (tm0 hRight Try.f139 (Try.f139.body.getD .skip)).f (tm0 hRight Try.f139 (Try.f139.body.getD .skip)).fs (tm0 hRight Try.f139 (Try.f139.body.getD .skip)).H).lfs (ccOf Try.prog BF [58, 84] hRight) ((tm0 hRight Try.f139 (Try.f139.body.getD .skip)) :: [hRight_T1]) hRight.os = some hRight_L0 := by kernel_rfl
set_option maxRecDepth 100000 in
theorem hRight_h1 : (ex (ccOf Try.prog BF [58, 84] hRight) ((fun cc => [hMay.ent cc, hModes.ent cc, eTog.ent cc, eTog0.ent cc]) (ccOf Try.prog BF [58, 84] hRight)) (dw (ccOf Try.prog BF [58, 84] hRight) ((fun cc => [hMay.ent cc, hModes.ent cc, eTog.ent cc, eTog0.ent cc]) (ccOf Try.prog BF [58, 84] hRight)) 1000 4) (stopX []) 4000 hRight_T1.f hRight_T1.fs hRight_T1.H).lfs (ccOf Try.prog BF [58, 84] hRight) ((tm0 hRight Try.f139 (Try.f139.body.getD .skip)) :: [hRight_T1]) hRight.os = some hRight_L1 := by kernel_rfl
def hRight_inv : (Nat → Int) → (Nat → Bool) → Nat → (Nat → Int) → (Nat → Bool) → Prop := fun iv0 _ k iv _ => match k with
  | 0 => True
  | _ => 0 ≤ iv 24 ∧ iv 24 ≤ iv0 1 ∧ mayA (iv0 0) (iv 24)
def hRight_mu : (Nat → Int) → (Nat → Bool) → Nat → (Nat → Int) → (Nat → Bool) → Nat := fun iv0 _ k iv _ => match k with | 0 => 2 ^ 80 | _ => (iv0 1 - iv 24).toNat
set_option maxHeartbeats 0 in
theorem hRight_o0 (kv : Kv) (iv0 : Nat → Int) (bv0 : Nat → Bool) (hin : InB hRight.B iv0) (hF : FT (sta FI FB kv iv0 bv0) (dlt dyn0) hRight.F) (iv : Nat → Int) (bv : Nat → Bool) (ha : Agr 4 iv0 bv0 iv bv) (hi : hRight_inv iv0 bv0 0 iv bv) :
    ∀ lf ∈ hRight_L0, LfT (sta FI FB kv) hRight.os (hRight_inv iv0 bv0) (hRight_mu iv0 bv0) 0 iv bv lf := by
  unfold hRight_L0
  refine List.forall_mem_cons.2 ⟨?_, List.forall_mem_nil _⟩
  all_goals
    intro δ hf
  all_goals
    simp only [FT, TP, SB.tp, SI.tv, sta, IB.eval, and_true, true_and, ObsT, Ob.Tv, rowT, kix, In.tiv, ↓tbvT, In.tbv, get_cons, get_nil, reduceIte, Nat.reduceEqDiff, Int.reduceToNat, Int.reduceAdd, Int.reduceSub, Int.reduceLE, Int.reduceLT, Int.reduceEq, ne_eq, Bool.false_eq_true, not_true_eq_false, not_false_eq_true, true_iff, false_iff, iff_true, iff_false, false_implies, implies_true, decT, decide_true, decide_false, Bool.decide_eq_true, ap2, pb2, FI_3, FI_8, FI_9, FI_10, FI_11, FI_12, FI_13, FB_10, FB_11, FB_12, FB_13, FB_14, FB_15, FB_16, FI_20, FI_21, FI_22, FI_23, FI_24, FI_25, FI_26, FB_20, FB_21, FB_22, FB_23, Int.toNat_natCast, Int.toNat_zero] at hf
  all_goals
    have a0 := ha.1 0 (by omega)
    have a1 := ha.1 1 (by omega)
    have a2 := ha.1 2 (by omega)
    have a3 := ha.1 3 (by omega)
  all_goals
    have b1 := hin 1 0 1000 (by simp [hRight, bH, gH, fM, lH, nw, ap3, i64b, kH])
    simp only [Int.reduceLE, reduceIte, Int.reduceNeg] at b1
  all_goals
    simp only [FT, TP, SB.tp, SI.tv, sta, IB.eval, and_true, true_and, ObsT, Ob.Tv, rowT, kix, In.tiv, ↓tbvT, In.tbv, get_cons, get_nil, reduceIte, Nat.reduceEqDiff, Int.reduceToNat, Int.reduceAdd, Int.reduceSub, Int.reduceLE, Int.reduceLT, Int.reduceEq, ne_eq, Bool.false_eq_true, not_true_eq_false, not_false_eq_true, true_iff, false_iff, iff_true, iff_false, false_implies, implies_true, decT, decide_true, decide_false, Bool.decide_eq_true, ap2, pb2, FI_3, FI_8, FI_9, FI_10, FI_11, FI_12, FI_13, FB_10, FB_11, FB_12, FB_13, FB_14, FB_15, FB_16, FI_20, FI_21, FI_22, FI_23, FI_24, FI_25, FI_26, FB_20, FB_21, FB_22, FB_23, Int.toNat_natCast, Int.toNat_zero, hRight_inv, hRight_mu, hRight, o1, othT, bH, gH, fM, lH, nw, ap3, i64b, kH, a0, a1, a2, a3] at hf hi ⊢
  all_goals
    (repeat' (with_reducible apply And.intro)) <;> first
    | omega
    | assumption
    | (unfold inM; omega)
    | exact fun i hi => by omega
set_option maxHeartbeats 0 in
theorem hRight_o1 (kv : Kv) (iv0 : Nat → Int) (bv0 : Nat → Bool) (hin : InB hRight.B iv0) (hF : FT (sta FI FB kv iv0 bv0) (dlt dyn0) hRight.F) (iv : Nat → Int) (bv : Nat → Bool) (ha : Agr 4 iv0 bv0 iv bv) (hi : hRight_inv iv0 bv0 1 iv bv) :
    ∀ lf ∈ hRight_L1, LfT (sta FI FB kv) hRight.os (hRight_inv iv0 bv0) (hRight_mu iv0 bv0) 1 iv bv lf := by
  unfold hRight_L1
  refine List.forall_mem_cons.2 ⟨?_, List.forall_mem_cons.2 ⟨?_, List.forall_mem_cons.2 ⟨?_, List.forall_mem_cons.2 ⟨?_, List.forall_mem_cons.2 ⟨?_, List.forall_mem_cons.2 ⟨?_, List.forall_mem_cons.2 ⟨?_, List.forall_mem_cons.2 ⟨?_, List.forall_mem_nil _⟩⟩⟩⟩⟩⟩⟩⟩
  all_goals
    intro δ hf
  all_goals
    simp only [FT, TP, SB.tp, SI.tv, sta, IB.eval, and_true, true_and, ObsT, Ob.Tv, rowT, kix, In.tiv, ↓tbvT, In.tbv, get_cons, get_nil, reduceIte, Nat.reduceEqDiff, Int.reduceToNat, Int.reduceAdd, Int.reduceSub, Int.reduceLE, Int.reduceLT, Int.reduceEq, ne_eq, Bool.false_eq_true, not_true_eq_false, not_false_eq_true, true_iff, false_iff, iff_true, iff_false, false_implies, implies_true, decT, decide_true, decide_false, Bool.decide_eq_true, ap2, pb2, FI_3, FI_8, FI_9, FI_10, FI_11, FI_12, FI_13, FB_10, FB_11, FB_12, FB_13, FB_14, FB_15, FB_16, FI_20, FI_21, FI_22, FI_23, FI_24, FI_25, FI_26, FB_20, FB_21, FB_22, FB_23, Int.toNat_natCast, Int.toNat_zero] at hf
  all_goals
    have a0 := ha.1 0 (by omega)
    have a1 := ha.1 1 (by omega)
    have a2 := ha.1 2 (by omega)
    have a3 := ha.1 3 (by omega)
  all_goals
    have b1 := hin 1 0 1000 (by simp [hRight, bH, gH, fM, lH, nw, ap3, i64b, kH])
    simp only [Int.reduceLE, reduceIte, Int.reduceNeg] at b1
  all_goals
    simp only [FT, TP, SB.tp, SI.tv, sta, IB.eval, and_true, true_and, ObsT, Ob.Tv, rowT, kix, In.tiv, ↓tbvT, In.tbv, get_cons, get_nil, reduceIte, Nat.reduceEqDiff, Int.reduceToNat, Int.reduceAdd, Int.reduceSub, Int.reduceLE, Int.reduceLT, Int.reduceEq, ne_eq, Bool.false_eq_true, not_true_eq_false, not_false_eq_true, true_iff, false_iff, iff_true, iff_false, false_implies, implies_true, decT, decide_true, decide_false, Bool.decide_eq_true, ap2, pb2, FI_3, FI_8, FI_9, FI_10, FI_11, FI_12, FI_13, FB_10, FB_11, FB_12, FB_13, FB_14, FB_15, FB_16, FI_20, FI_21, FI_22, FI_23, FI_24, FI_25, FI_26, FB_20, FB_21, FB_22, FB_23, Int.toNat_natCast, Int.toNat_zero, hRight_inv, hRight_mu, hRight, o1, othT, bH, gH, fM, lH, nw, ap3, i64b, kH, a0, a1, a2, a3] at hf hi ⊢
  all_goals
    (repeat' (with_reducible apply And.intro)) <;> first
    | omega
    | assumption
    | (unfold inM; omega)
    | (exact mayA_ext hi.2.2 hi.1 (by first | exact hf.1 | exact hf.2.1 | exact hf.2.2.1) (fun h => by omega))
    | (exact mayA_not hi.1 (by omega) fun h => by first | exact hf.1 h.1 | (have := h.2 (by omega); omega))
    | (rw [rgt_tog hi.2.2 (by omega) (by omega)]; simp [hf.1.1, hf.1.2])
    | (exact fun h => hf.1 ((rgt_tog hi.2.2 (by omega) (by omega)).1 h))
    | exact rgt_nil (by omega)
    | exact rgt_tog2 hi.2.2 (by omega) (by omega)
set_option maxRecDepth 100000 in
theorem hRight_c : LsC ((tm0 hRight Try.f139 (Try.f139.body.getD .skip)) :: [hRight_T1]) hRight.os [hRight_L0, hRight_L1] := by
  unfold hRight_L0 hRight_L1
  exact ⟨List.forall_mem_cons.2 ⟨⟨⟨_, rfl, rfl⟩, by kernel_rfl⟩, List.forall_mem_nil _⟩, List.forall_mem_cons.2 ⟨⟨⟨_, rfl, rfl⟩, by kernel_rfl⟩, List.forall_mem_cons.2 ⟨⟨⟨_, rfl, rfl⟩, by kernel_rfl⟩, List.forall_mem_cons.2 ⟨⟨⟨_, rfl, rfl⟩, by kernel_rfl⟩, List.forall_mem_cons.2 ⟨⟨⟨_, rfl, rfl⟩, by kernel_rfl⟩, List.forall_mem_cons.2 ⟨⟨⟨_, rfl, rfl⟩, by kernel_rfl⟩, List.forall_mem_cons.2 ⟨⟨⟨_, rfl, rfl⟩, by kernel_rfl⟩, List.forall_mem_cons.2 ⟨⟨⟨_, rfl, rfl⟩, by kernel_rfl⟩, List.forall_mem_cons.2 ⟨⟨⟨_, rfl, rfl⟩, by kernel_rfl⟩, List.forall_mem_nil _⟩⟩⟩⟩⟩⟩⟩⟩, trivial⟩
theorem hRight_ok : hRight.Ok Try.prog FI FB :=
  Con.of_plain (body := Try.f139.body.getD .skip) pok fiok (EntsFor.cons hMay_ok (EntsFor.cons hModes_ok (EntsFor.cons eTog_ok (EntsFor.cons eTog0_ok EntsFor.nil)))) hRight Try.func139 (by kernel_rfl) 4 [hRight_T1] (by kernel_rfl) [hRight_L0, hRight_L1] ⟨hRight_h0, hRight_h1, trivial⟩ hRight_c
    hRight_inv hRight_mu (fun _ _ _ => trivial) fun kv iv0 bv0 hin hF k l iv bv hk ha hi => match k, hk, hi with
    | 0, hk, hi => by
      cases hk
      exact hRight_o0 kv iv0 bv0 hin hF iv bv ha hi
    | 1, hk, hi => by
      cases hk
      exact hRight_o1 kv iv0 bv0 hin hF iv bv ha hi
    | k + 2, hk, _ => by simp at hk
noncomputable def rRight_T1 : Tm := ⟨⟨52, 37, [(3, (.it .i64 (.v 24))), (0, (.sl (.k 0) (.v 2) (.v 1) (.v 3)))], [(.code (atC Try.f52 [1, 0, 1, 0, 0])), (.inLoop (atC Try.f52 [1, 0, 1, 0, 0])), (.inBlock 0), (.code (atC Try.f52 [1, 1]))], [], .none⟩, [],
    ⟨[], 0, 0, 0, [((.le (.v 1) (.v 3)), .true), ((.le (.c 0) (.v 3)), .true)], [1, 0], [(1, (0, 1000)), (2, (0, (-1))), (24, (0, (-1)))]⟩, [24]⟩
noncomputable def rRight_L0 : List Lf :=
  [(.cut [((.le (.v 1) (.v 3)), .true), ((.le (.c 0) (.v 3)), .true)] 1 ⟨⟨[(24, (.c 0))], []⟩, [], [], []⟩ [] (shT rRight_T1 ⟨⟨[(24, (.c 0))], []⟩, [], [], []⟩))]
noncomputable def rRight_L1 : List Lf :=
  [(.fin [((.le (.ap 3 (.v 0) (.v 24) (.c 0) (.c 0) (.c 0) (.c 0)) (.ap 3 (.v 0) (.op .add (.v 24) (.c (-1))) (.c 0) (.c 0) (.c 0) (.c 0))), .true), ((.lt (.c 0) (.v 24)), .true), ((.ap 23 (.ap 3 (.v 0) (.v 24) (.c 0) (.c 0) (.c 0) (.c 0)) (.ap 3 (.v 0) (.v 24) (.c 1) (.c 0) (.c 0) (.c 0)) (.ap 3 (.v 0) (.v 24) (.c 2) (.c 0) (.c 0) (.c 0)) (.c 0) (.c 0) (.c 0)), .true), ((.lt (.v 24) (.v 1)), .true), ((.le (.v 1) (.v 3)), .true), ((.le (.c 0) (.v 3)), .true)] 0 ⟨⟨[], []⟩, [], [], []⟩ [(.eb (.ap 20 (.v 0) (.v 1) (.c 0) (.c 0) (.c 0) (.c 0)) (.c .false))] []), (.cut [((.le (.ap 3 (.v 0) (.v 24) (.c 0) (.c 0) (.c 0) (.c 0)) (.ap 3 (.v 0) (.op .add (.v 24) (.c (-1))) (.c 0) (.c 0) (.c 0) (.c 0))), .false), ((.lt (.c 0) (.v 24)), .true), ((.ap 23 (.ap 3 (.v 0) (.v 24) (.c 0) (.c 0) (.c 0) (.c 0)) (.ap 3 (.v 0) (.v 24) (.c 1) (.c 0) (.c 0) (.c 0)) (.ap 3 (.v 0) (.v 24) (.c 2) (.c 0) (.c 0) (.c 0)) (.c 0) (.c 0) (.c 0)), .true), ((.lt (.v 24) (.v 1)), .true), ((.le (.v 1) (.v 3)), .true), ((.le (.c 0) (.v 3)), .true)] 1 ⟨⟨[(24, (.op .add (.v 24) (.c 1)))], []⟩, [], [], []⟩ [] (shT rRight_T1 ⟨⟨[(24, (.op .add (.v 24) (.c 1)))], []⟩, [], [], []⟩)), (.cut [((.lt (.c 0) (.v 24)), .false), ((.ap 23 (.ap 3 (.v 0) (.v 24) (.c 0) (.c 0) (.c 0) (.c 0)) (.ap 3 (.v 0) (.v 24) (.c 1) (.c 0) (.c 0) (.c 0)) (.ap 3 (.v 0) (.v 24) (.c 2) (.c 0) (.c 0) (.c 0)) (.c 0) (.c 0) (.c 0)), .true), ((.lt (.v 24) (.v 1)), .true), ((.le (.v 1) (.v 3)), .true), ((.le (.c 0) (.v 3)), .true)] 1 ⟨⟨[(24, (.op .add (.v 24) (.c 1)))], []⟩, [], [], []⟩ [] (shT rRight_T1 ⟨⟨[(24, (.op .add (.v 24) (.c 1)))], []⟩, [], [], []⟩)), (.fin [((.ap 23 (.ap 3 (.v 0) (.v 24) (.c 0) (.c 0) (.c 0) (.c 0)) (.ap 3 (.v 0) (.v 24) (.c 1) (.c 0) (.c 0) (.c 0)) (.ap 3 (.v 0) (.v 24) (.c 2) (.c 0) (.c 0) (.c 0)) (.c 0) (.c 0) (.c 0)), .false), ((.lt (.v 24) (.v 1)), .true), ((.le (.v 1) (.v 3)), .true), ((.le (.c 0) (.v 3)), .true)] 0 ⟨⟨[], []⟩, [], [], []⟩ [(.eb (.ap 20 (.v 0) (.v 1) (.c 0) (.c 0) (.c 0) (.c 0)) (.c .false))] []), (.fin [((.le (.v 1) (.d 0)), .true), ((.lt (.c 0) (.v 1)), .true), ((.lt (.v 24) (.v 1)), .false), ((.le (.v 1) (.v 3)), .true), ((.le (.c 0) (.v 3)), .true)] 0 ⟨⟨[], []⟩, [], [], []⟩ [(.eb (.ap 20 (.v 0) (.v 1) (.c 0) (.c 0) (.c 0) (.c 0)) (.ap 16 (.ap 20 (.v 0) (.v 1) (.c 0) (.c 0) (.c 0) (.c 0)) (.v 1) (.c 0) (.c 0) (.c 0) (.c 0)))] []), (.fin [((.lt (.c 0) (.v 1)), .false), ((.lt (.v 24) (.v 1)), .false), ((.le (.v 1) (.v 3)), .true), ((.le (.c 0) (.v 3)), .true)] 0 ⟨⟨[], []⟩, [], [], []⟩ [(.eb (.ap 20 (.v 0) (.v 1) (.c 0) (.c 0) (.c 0) (.c 0)) (.c .true))] [])]
set_option maxRecDepth 100000 in
theorem rRight_h0 : (ex (ccOf Try.prog BF [58, 84] rRight) ((fun cc => [rMay.ent cc, rModes.ent cc, rTog.ent cc, rTog0.ent cc]) (ccOf Try.prog BF [58, 84] rRight)) (dw (ccOf Try.prog BF [58, 84] rRight) ((fun cc => [rMay.ent cc, rModes.ent cc, rTog.ent cc, rTog0.ent cc]) (ccOf Try.prog BF [58, 84] rRight)) 1000 4) (stopX []) 4000 (tm0 rRight Try.f52 (Try.f52.body.getD .skip)).f (tm0 rRight Try.f52 (Try.f52.body.getD .skip)).fs (tm0 rRight Try.f52 (Try.f52.body.getD .skip)).H).lfs (ccOf Try.prog BF [58, 84] rRight) ((tm0 rRight Try.f52 (Try.f52.body.getD .skip)) :: [rRight_T1]) rRight.os = some rRight_L0 := by kernel_rfl
set_option maxRecDepth 100000 in
theorem rRight_h1 : (ex (ccOf Try.prog BF [58, 84] rRight) ((fun cc => [rMay.ent cc, rModes.ent cc, rTog.ent cc, rTog0.ent cc]) (ccOf Try.prog BF [58, 84] rRight)) (dw (ccOf Try.prog BF [58, 84] rRight) ((fun cc => [rMay.ent cc, rModes.ent cc, rTog.ent cc, rTog0.ent cc]) (ccOf Try.prog BF [58, 84] rRight)) 1000 4) (stopX []) 4000 rRight_T1.f rRight_T1.fs rRight_T1.H).lfs (ccOf Try.prog BF [58, 84] rRight) ((tm0 rRight Try.f52 (Try.f52.body.getD .skip)) :: [rRight_T1]) rRight.os = some rRight_L1 := by kernel_rfl
def rRight_inv : (Nat → Int) → (Nat → Bool) → Nat → (Nat → Int) → (Nat → Bool) → Prop := fun iv0 _ k iv _ => match k with
  | 0 => True
  | _ => 0 ≤ iv 24 ∧ iv 24 ≤ iv0 1 ∧ mayA (iv0 0) (iv 24)
def rRight_mu : (Nat → Int) → (Nat → Bool) → Nat → (Nat → Int) → (Nat → Bool) → Nat := fun iv0 _ k iv _ => match k with | 0 => 2 ^ 80 | _ => (iv0 1 - iv 24).toNat
set_option maxHeartbeats 0 in
theorem rRight_o0 (kv : Kv) (iv0 : Nat → Int) (bv0 : Nat → Bool) (hin : InB rRight.B iv0) (hF : FT (sta FI FB kv iv0 bv0) (dlt dyn0) rRight.F) (iv : Nat → Int) (bv : Nat → Bool) (ha : Agr 4 iv0 bv0 iv bv) (hi : rRight_inv iv0 bv0 0 iv bv) :
    ∀ lf ∈ rRight_L0, LfT (sta FI FB kv) rRight.os (rRight_inv iv0 bv0) (rRight_mu iv0 bv0) 0 iv bv lf := by
  unfold rRight_L0
  refine List.forall_mem_cons.2 ⟨?_, List.forall_mem_nil _⟩
  all_goals
    intro δ hf
  all_goals
    simp only [FT, TP, SB.tp, SI.tv, sta, IB.eval, and_true, true_and, ObsT, Ob.Tv, rowT, kix, In.tiv, ↓tbvT, In.tbv, get_cons, get_nil, reduceIte, Nat.reduceEqDiff, Int.reduceToNat, Int.reduceAdd, Int.reduceSub, Int.reduceLE, Int.reduceLT, Int.reduceEq, ne_eq, Bool.false_eq_true, not_true_eq_false, not_false_eq_true, true_iff, false_iff, iff_true, iff_false, false_implies, implies_true, decT, decide_true, decide_false, Bool.decide_eq_true, ap2, pb2, FI_3, FI_8, FI_9, FI_10, FI_11, FI_12, FI_13, FB_10, FB_11, FB_12, FB_13, FB_14, FB_15, FB_16, FI_20, FI_21, FI_22, FI_23, FI_24, FI_25, FI_26, FB_20, FB_21, FB_22, FB_23, Int.toNat_natCast, Int.toNat_zero] at hf
  all_goals
    have a0 := ha.1 0 (by omega)
    have a1 := ha.1 1 (by omega)
    have a2 := ha.1 2 (by omega)
    have a3 := ha.1 3 (by omega)
  all_goals
    have b1 := hin 1 0 1000 (by simp [rRight, bH, gH, fM, lH, nw, ap3, i64b, kH])
    simp only [Int.reduceLE, reduceIte, Int.reduceNeg] at b1
  all_goals
    simp only [FT, TP, SB.tp, SI.tv, sta, IB.eval, and_true, true_and, ObsT, Ob.Tv, rowT, kix, In.tiv, ↓tbvT, In.tbv, get_cons, get_nil, reduceIte, Nat.reduceEqDiff, Int.reduceToNat, Int.reduceAdd, Int.reduceSub, Int.reduceLE, Int.reduceLT, Int.reduceEq, ne_eq, Bool.false_eq_true, not_true_eq_false, not_false_eq_true, true_iff, false_iff, iff_true, iff_false, false_implies, implies_true, decT, decide_true, decide_false, Bool.decide_eq_true, ap2, pb2, FI_3, FI_8, FI_9, FI_10, FI_11, FI_12, FI_13, FB_10, FB_11, FB_12, FB_13, FB_14, FB_15, FB_16, FI_20, FI_21, FI_22, FI_23, FI_24, FI_25, FI_26, FB_20, FB_21, FB_22, FB_23, Int.toNat_natCast, Int.toNat_zero, rRight_inv, rRight_mu, rRight, o1, othT, bH, gH, fM, lH, nw, ap3, i64b, kH, a0, a1, a2, a3] at hf hi ⊢
  all_goals
    (repeat' (with_reducible apply And.intro)) <;> first
    | omega
    | assumption
    | (unfold inM; omega)
    | exact fun i hi => by omega
set_option maxHeartbeats 0 in
theorem rRight_o1 (kv : Kv) (iv0 : Nat → Int) (bv0 : Nat → Bool) (hin : InB rRight.B iv0) (hF : FT (sta FI FB kv iv0 bv0) (dlt dyn0) rRight.F) (iv : Nat → Int) (bv : Nat → Bool) (ha : Agr 4 iv0 bv0 iv bv) (hi : rRight_inv iv0 bv0 1 iv bv) :
    ∀ lf ∈ rRight_L1, LfT (sta FI FB kv) rRight.os (rRight_inv iv0 bv0) (rRight_mu iv0 bv0) 1 iv bv lf := by
  unfold rRight_L1
  refine List.forall_mem_cons.2 ⟨?_, List.forall_mem_cons.2 ⟨?_, List.forall_mem_cons.2 ⟨?_, List.forall_mem_cons.2 ⟨?_, List.forall_mem_cons.2 ⟨?_, List.forall_mem_cons.2 ⟨?_, List.forall_mem_nil _⟩⟩⟩⟩⟩⟩
  all_goals
    intro δ hf
  all_goals
    simp only [FT, TP, SB.tp, SI.tv, sta, IB.eval, and_true, true_and, ObsT, Ob.Tv, rowT, kix, In.tiv, ↓tbvT, In.tbv, get_cons, get_nil, reduceIte, Nat.reduceEqDiff, Int.reduceToNat, Int.reduceAdd, Int.reduceSub, Int.reduceLE, Int.reduceLT, Int.reduceEq, ne_eq, Bool.false_eq_true, not_true_eq_false, not_false_eq_true, true_iff, false_iff, iff_true, iff_false, false_implies, implies_true, decT, decide_true, decide_false, Bool.decide_eq_true, ap2, pb2, FI_3, FI_8, FI_9, FI_10, FI_11, FI_12, FI_13, FB_10, FB_11, FB_12, FB_13, FB_14, FB_15, FB_16, FI_20, FI_21, FI_22, FI_23, FI_24, FI_25, FI_26, FB_20, FB_21, FB_22, FB_23, Int.toNat_natCast, Int.toNat_zero] at hf
  all_goals
    have a0 := ha.1 0 (by omega)
    have a1 := ha.1 1 (by omega)
    have a2 := ha.1 2 (by omega)
    have a3 := ha.1 3 (by omega)
  all_goals
    have b1 := hin 1 0 1000 (by simp [rRight, bH, gH, fM, lH, nw, ap3, i64b, kH])
    simp only [Int.reduceLE, reduceIte, Int.reduceNeg] at b1
  all_goals
    simp only [FT, TP, SB.tp, SI.tv, sta, IB.eval, and_true, true_and, ObsT, Ob.Tv, rowT, kix, In.tiv, ↓tbvT, In.tbv, get_cons, get_nil, reduceIte, Nat.reduceEqDiff, Int.reduceToNat, Int.reduceAdd, Int.reduceSub, Int.reduceLE, Int.reduceLT, Int.reduceEq, ne_eq, Bool.false_eq_true, not_true_eq_false, not_false_eq_true, true_iff, false_iff, iff_true, iff_false, false_implies, implies_true, decT, decide_true, decide_false, Bool.decide_eq_true, ap2, pb2, FI_3, FI_8, FI_9, FI_10, FI_11, FI_12, FI_13, FB_10, FB_11, FB_12, FB_13, FB_14, FB_15, FB_16, FI_20, FI_21, FI_22, FI_23, FI_24, FI_25, FI_26, FB_20, FB_21, FB_22, FB_23, Int.toNat_natCast, Int.toNat_zero, rRight_inv, rRight_mu, rRight, o1, othT, bH, gH, fM, lH, nw, ap3, i64b, kH, a0, a1, a2, a3] at hf hi ⊢
  all_goals
    (repeat' (with_reducible apply And.intro)) <;> first
    | omega
    | assumption
    | (unfold inM; omega)
    | (exact mayA_ext hi.2.2 hi.1 (by first | exact hf.1 | exact hf.2.1 | exact hf.2.2.1) (fun h => by omega))
    | (exact mayA_not hi.1 (by omega) fun h => by first | exact hf.1 h.1 | (have := h.2 (by omega); omega))
    | (rw [rgt_tog hi.2.2 (by omega) (by omega)]; simp [hf.1.1, hf.1.2])
    | (exact fun h => hf.1 ((rgt_tog hi.2.2 (by omega) (by omega)).1 h))
    | exact rgt_nil (by omega)
    | exact rgt_tog2 hi.2.2 (by omega) (by omega)
set_option maxRecDepth 100000 in
theorem rRight_c : LsC ((tm0 rRight Try.f52 (Try.f52.body.getD .skip)) :: [rRight_T1]) rRight.os [rRight_L0, rRight_L1] := by
  unfold rRight_L0 rRight_L1
  exact ⟨List.forall_mem_cons.2 ⟨⟨⟨_, rfl, rfl⟩, by kernel_rfl⟩, List.forall_mem_nil _⟩, List.forall_mem_cons.2 ⟨⟨⟨_, rfl, rfl⟩, by kernel_rfl⟩, List.forall_mem_cons.2 ⟨⟨⟨_, rfl, rfl⟩, by kernel_rfl⟩, List.forall_mem_cons.2 ⟨⟨⟨_, rfl, rfl⟩, by kernel_rfl⟩, List.forall_mem_cons.2 ⟨⟨⟨_, rfl, rfl⟩, by kernel_rfl⟩, List.forall_mem_cons.2 ⟨⟨⟨_, rfl, rfl⟩, by kernel_rfl⟩, List.forall_mem_cons.2 ⟨⟨⟨_, rfl, rfl⟩, by kernel_rfl⟩, List.forall_mem_nil _⟩⟩⟩⟩⟩⟩, trivial⟩
theorem rRight_ok : rRight.Ok Try.prog FI FB :=
  Con.of_plain (body := Try.f52.body.getD .skip) pok fiok (EntsFor.cons rMay_ok (EntsFor.cons rModes_ok (EntsFor.cons rTog_ok (EntsFor.cons rTog0_ok EntsFor.nil)))) rRight Try.func52 (by kernel_rfl) 4 [rRight_T1] (by kernel_rfl) [rRight_L0, rRight_L1] ⟨rRight_h0, rRight_h1, trivial⟩ rRight_c
    rRight_inv rRight_mu (fun _ _ _ => trivial) fun kv iv0 bv0 hin hF k l iv bv hk ha hi => match k, hk, hi with
    | 0, hk, hi => by
      cases hk
      exact rRight_o0 kv iv0 bv0 hin hF iv bv ha hi
    | 1, hk, hi => by
      cases hk
      exact rRight_o1 kv iv0 bv0 hin hF iv bv ha hi
    | k + 2, hk, _ => by simp at hk
noncomputable def hRight0_L0 : List Lf :=
  [(.fin [] 0 ⟨⟨[], []⟩, [], [], []⟩ [] [])]
set_option maxRecDepth 100000 in
theorem hRight0_h0 : (ex (ccOf Try.prog BF [58, 84] hRight0) ((fun _ => []) (ccOf Try.prog BF [58, 84] hRight0)) (dw (ccOf Try.prog BF [58, 84] hRight0) ((fun _ => []) (ccOf Try.prog BF [58, 84] hRight0)) 1000 4) (stopX [0, 1, 2, 3, 4, 5, 6, 7, 8, 9, 10, 11, 12, 13, 14, 15, 16, 17, 18, 19, 20, 21, 22, 23, 24, 25, 26, 27, 28, 29, 30, 31, 32, 33, 34, 35, 36, 37, 38, 39, 40, 41, 42, 43, 44, 45, 46, 47, 48, 49, 50, 51, 52, 53, 54, 55, 56, 57, 58, 59, 60, 61, 62, 63, 64, 65, 66, 67, 68, 69, 70, 71, 72, 73, 74, 75, 76, 77, 78, 79, 80, 81, 82, 83, 84, 85, 86, 87, 88, 89, 90, 91, 92, 93, 94, 95, 96, 97, 98, 99, 100, 101, 102, 103, 104, 105, 106, 107, 108, 109, 110, 111, 112, 113, 114, 115, 116, 117, 118, 119, 120, 121, 122, 123, 124, 125, 126, 127, 128, 129, 130, 131, 132, 133, 134, 135, 136, 137, 138, 139, 140, 141, 142, 143, 144, 145, 146, 147, 148, 149, 150, 151, 152, 153, 154, 155, 156, 157, 158, 159, 160, 161, 162, 163, 164, 165, 166, 167, 168, 169, 170, 171, 172, 173, 174, 175, 176, 177, 178, 179, 180, 181, 182, 183, 184, 185, 186, 187, 188, 189, 190, 191, 192, 193, 194, 195, 196, 197, 198, 199]) 4000 (tm0 hRight0 Try.f139 (Try.f139.body.getD .skip)).f (tm0 hRight0 Try.f139 (Try.f139.body.getD .skip)).fs (tm0 hRight0 Try.f139 (Try.f139.body.getD .skip)).H).lfs (ccOf Try.prog BF [58, 84] hRight0) ((tm0 hRight0 Try.f139 (Try.f139.body.getD .skip)) :: []) hRight0.os = some hRight0_L0 := by kernel_rfl
def hRight0_inv : (Nat → Int) → (Nat → Bool) → Nat → (Nat → Int) → (Nat → Bool) → Prop := fun _ _ _ _ _ => True
def hRight0_mu : (Nat → Int) → (Nat → Bool) → Nat → (Nat → Int) → (Nat → Bool) → Nat := fun _ _ _ _ _ => 0
set_option maxHeartbeats 0 in
theorem hRight0_o0 (kv : Kv) (iv0 : Nat → Int) (bv0 : Nat → Bool) (hin : InB hRight0.B iv0) (hF : FT (sta FI FB kv iv0 bv0) (dlt dyn0) hRight0.F) (iv : Nat → Int) (bv : Nat → Bool) (ha : Agr 0 iv0 bv0 iv bv) (hi : hRight0_inv iv0 bv0 0 iv bv) :
    ∀ lf ∈ hRight0_L0, LfT (sta FI FB kv) hRight0.os (hRight0_inv iv0 bv0) (hRight0_mu iv0 bv0) 0 iv bv lf := by
  unfold hRight0_L0
  refine List.forall_mem_cons.2 ⟨?_, List.forall_mem_nil _⟩
  all_goals
    intro δ hf
  all_goals
    simp only [FT, TP, SB.tp, SI.tv, sta, IB.eval, and_true, true_and, ObsT, Ob.Tv, rowT, kix, In.tiv, ↓tbvT, In.tbv, get_cons, get_nil, reduceIte, Nat.reduceEqDiff, Int.reduceToNat, Int.reduceAdd, Int.reduceSub, Int.reduceLE, Int.reduceLT, Int.reduceEq, ne_eq, Bool.false_eq_true, not_true_eq_false, not_false_eq_true, true_iff, false_iff, iff_true, iff_false, false_implies, implies_true, decT, decide_true, decide_false, Bool.decide_eq_true, ap2, pb2, FI_3, FI_8, FI_9, FI_10, FI_11, FI_12, FI_13, FB_10, FB_11, FB_12, FB_13, FB_14, FB_15, FB_16, FI_20, FI_21, FI_22, FI_23, FI_24, FI_25, FI_26, FB_20, FB_21, FB_22, FB_23, Int.toNat_natCast, Int.toNat_zero] at hf
  all_goals
    
  all_goals
    simp only [FT, TP, SB.tp, SI.tv, sta, IB.eval, and_true, true_and, ObsT, Ob.Tv, rowT, kix, In.tiv, ↓tbvT, In.tbv, get_cons, get_nil, reduceIte, Nat.reduceEqDiff, Int.reduceToNat, Int.reduceAdd, Int.reduceSub, Int.reduceLE, Int.reduceLT, Int.reduceEq, ne_eq, Bool.false_eq_true, not_true_eq_false, not_false_eq_true, true_iff, false_iff, iff_true, iff_false, false_implies, implies_true, decT, decide_true, decide_false, Bool.decide_eq_true, ap2, pb2, FI_3, FI_8, FI_9, FI_10, FI_11, FI_12, FI_13, FB_10, FB_11, FB_12, FB_13, FB_14, FB_15, FB_16, FI_20, FI_21, FI_22, FI_23, FI_24, FI_25, FI_26, FB_20, FB_21, FB_22, FB_23, Int.toNat_natCast, Int.toNat_zero, hRight0_inv, hRight0_mu, hRight0, o1, othT, bH, gH, fM, lH, nw, ap3, i64b, kH] at hf hi ⊢
  all_goals
    (repeat' (with_reducible apply And.intro)) <;> first
    | omega
    | assumption
    | (unfold inM; omega)
set_option maxRecDepth 100000 in
theorem hRight0_c : LsC ((tm0 hRight0 Try.f139 (Try.f139.body.getD .skip)) :: []) hRight0.os [hRight0_L0] := by
  unfold hRight0_L0
  exact ⟨List.forall_mem_cons.2 ⟨⟨⟨_, rfl, rfl⟩, by kernel_rfl⟩, List.forall_mem_nil _⟩, trivial⟩
theorem hRight0_ok : hRight0.Ok Try.prog FI FB :=
  Con.of_plain (body := Try.f139.body.getD .skip) pok fiok EntsFor.nil hRight0 Try.func139 (by kernel_rfl) 0 [] (by kernel_rfl) [hRight0_L0] ⟨hRight0_h0, trivial⟩ hRight0_c
    hRight0_inv hRight0_mu (fun _ _ _ => trivial) fun kv iv0 bv0 hin hF k l iv bv hk ha hi => match k, hk, hi with
    | 0, hk, hi => by
      cases hk
      exact hRight0_o0 kv iv0 bv0 hin hF iv bv ha hi
    | k + 1, hk, _ => by simp at hk
noncomputable def rRight0_L0 : List Lf :=
  [(.fin [] 0 ⟨⟨[], []⟩, [], [], []⟩ [] [])]
set_option maxRecDepth 100000 in
theorem rRight0_h0 : (ex (ccOf Try.prog BF [58, 84] rRight0) ((fun _ => []) (ccOf Try.prog BF [58, 84] rRight0)) (dw (ccOf Try.prog BF [58, 84] rRight0) ((fun _ => []) (ccOf Try.prog BF [58, 84] rRight0)) 1000 4) (stopX [0, 1, 2, 3, 4, 5, 6, 7, 8, 9, 10, 11, 12, 13, 14, 15, 16, 17, 18, 19, 20, 21, 22, 23, 24, 25, 26, 27, 28, 29, 30, 31, 32, 33, 34, 35, 36, 37, 38, 39, 40, 41, 42, 43, 44, 45, 46, 47, 48, 49, 50, 51, 52, 53, 54, 55, 56, 57, 58, 59, 60, 61, 62, 63, 64, 65, 66, 67, 68, 69, 70, 71, 72, 73, 74, 75, 76, 77, 78, 79, 80, 81, 82, 83, 84, 85, 86, 87, 88, 89, 90, 91, 92, 93, 94, 95, 96, 97, 98, 99, 100, 101, 102, 103, 104, 105, 106, 107, 108, 109, 110, 111, 112, 113, 114, 115, 116, 117, 118, 119, 120, 121, 122, 123, 124, 125, 126, 127, 128, 129, 130, 131, 132, 133, 134, 135, 136, 137, 138, 139, 140, 141, 142, 143, 144, 145, 146, 147, 148, 149, 150, 151, 152, 153, 154, 155, 156, 157, 158, 159, 160, 161, 162, 163, 164, 165, 166, 167, 168, 169, 170, 171, 172, 173, 174, 175, 176, 177, 178, 179, 180, 181, 182, 183, 184, 185, 186, 187, 188, 189, 190, 191, 192, 193, 194, 195, 196, 197, 198, 199]) 4000 (tm0 rRight0 Try.f52 (Try.f52.body.getD .skip)).f (tm0 rRight0 Try.f52 (Try.f52.body.getD .skip)).fs (tm0 rRight0 Try.f52 (Try.f52.body.getD .skip)).H).lfs (ccOf Try.prog BF [58, 84] rRight0) ((tm0 rRight0 Try.f52 (Try.f52.body.getD .skip)) :: []) rRight0.os = some rRight0_L0 := by kernel_rfl
def rRight0_inv : (Nat → Int) → (Nat → Bool) → Nat → (Nat → Int) → (Nat → Bool) → Prop := fun _ _ _ _ _ => True
def rRight0_mu : (Nat → Int) → (Nat → Bool) → Nat → (Nat → Int) → (Nat → Bool) → Nat := fun _ _ _ _ _ => 0
set_option maxHeartbeats 0 in
theorem rRight0_o0 (kv : Kv) (iv0 : Nat → Int) (bv0 : Nat → Bool) (hin : InB rRight0.B iv0) (hF : FT (sta FI FB kv iv0 bv0) (dlt dyn0) rRight0.F) (iv : Nat → Int) (bv : Nat → Bool) (ha : Agr 0 iv0 bv0 iv bv) (hi : rRight0_inv iv0 bv0 0 iv bv) :
    ∀ lf ∈ rRight0_L0, LfT (sta FI FB kv) rRight0.os (rRight0_inv iv0 bv0) (rRight0_mu iv0 bv0) 0 iv bv lf := by
  unfold rRight0_L0
  refine List.forall_mem_cons.2 ⟨?_, List.forall_mem_nil _⟩
  all_goals
    intro δ hf
  all_goals
    simp only [FT, TP, SB.tp, SI.tv, sta, IB.eval, and_true, true_and, ObsT, Ob.Tv, rowT, kix, In.tiv, ↓tbvT, In.tbv, get_cons, get_nil, reduceIte, Nat.reduceEqDiff, Int.reduceToNat, Int.reduceAdd, Int.reduceSub, Int.reduceLE, Int.reduceLT, Int.reduceEq, ne_eq, Bool.false_eq_true, not_true_eq_false, not_false_eq_true, true_iff, false_iff, iff_true, iff_false, false_implies, implies_true, decT, decide_true, decide_false, Bool.decide_eq_true, ap2, pb2, FI_3, FI_8, FI_9, FI_10, FI_11, FI_12, FI_13, FB_10, FB_11, FB_12, FB_13, FB_14, FB_15, FB_16, FI_20, FI_21, FI_22, FI_23, FI_24, FI_25, FI_26, FB_20, FB_21, FB_22, FB_23, Int.toNat_natCast, Int.toNat_zero] at hf
  all_goals
    
  all_goals
    simp only [FT, TP, SB.tp, SI.tv, sta, IB.eval, and_true, true_and, ObsT, Ob.Tv, rowT, kix, In.tiv, ↓tbvT, In.tbv, get_cons, get_nil, reduceIte, Nat.reduceEqDiff, Int.reduceToNat, Int.reduceAdd, Int.reduceSub, Int.reduceLE, Int.reduceLT, Int.reduceEq, ne_eq, Bool.false_eq_true, not_true_eq_false, not_false_eq_true, true_iff, false_iff, iff_true, iff_false, false_implies, implies_true, decT, decide_true, decide_false, Bool.decide_eq_true, ap2, pb2, FI_3, FI_8, FI_9, FI_10, FI_11, FI_12, FI_13, FB_10, FB_11, FB_12, FB_13, FB_14, FB_15, FB_16, FI_20, FI_21, FI_22, FI_23, FI_24, FI_25, FI_26, FB_20, FB_21, FB_22, FB_23, Int.toNat_natCast, Int.toNat_zero, rRight0_inv, rRight0_mu, rRight0, o1, othT, bH, gH, fM, lH, nw, ap3, i64b, kH] at hf hi ⊢
  all_goals
    (repeat' (with_reducible apply And.intro)) <;> first
    | omega
    | assumption
    | (unfold inM; omega)
set_option maxRecDepth 100000 in
theorem rRight0_c : LsC ((tm0 rRight0 Try.f52 (Try.f52.body.getD .skip)) :: []) rRight0.os [rRight0_L0] := by
  unfold rRight0_L0
  exact ⟨List.forall_mem_cons.2 ⟨⟨⟨_, rfl, rfl⟩, by kernel_rfl⟩, List.forall_mem_nil _⟩, trivial⟩
theorem rRight0_ok : rRight0.Ok Try.prog FI FB :=
  Con.of_plain (body := Try.f52.body.getD .skip) pok fiok EntsFor.nil rRight0 Try.func52 (by kernel_rfl) 0 [] (by kernel_rfl) [rRight0_L0] ⟨rRight0_h0, trivial⟩ rRight0_c
    rRight0_inv rRight0_mu (fun _ _ _ => trivial) fun kv iv0 bv0 hin hF k l iv bv hk ha hi => match k, hk, hi with
    | 0, hk, hi => by
      cases hk
      exact rRight0_o0 kv iv0 bv0 hin hF iv bv ha hi
    | k + 1, hk, _ => by simp at hk
noncomputable def hOf_L0 : List Lf :=
  [(.fin [((.ap 20 (.v 0) (.v 1) (.c 0) (.c 0) (.c 0) (.c 0)), .true), ((.le (.v 1) (.v 3)), .true), ((.le (.c 0) (.v 3)), .true)] 0 ⟨⟨[], []⟩, [], [], []⟩ [] []), (.fin [((.ap 20 (.v 0) (.v 1) (.c 0) (.c 0) (.c 0) (.c 0)), .false), ((.le (.v 1) (.v 3)), .true), ((.le (.c 0) (.v 3)), .true)] 1 ⟨⟨[], []⟩, [], [], []⟩ [] [])]
set_option maxRecDepth 100000 in
theorem hOf_h0 : (ex (ccOf Try.prog BF [58, 84] hOf) ((fun cc => [hRight.ent cc, hRight0.ent cc]) (ccOf Try.prog BF [58, 84] hOf)) (dw (ccOf Try.prog BF [58, 84] hOf) ((fun cc => [hRight.ent cc, hRight0.ent cc]) (ccOf Try.prog BF [58, 84] hOf)) 1000 4) (stopX []) 4000 (tm0 hOf Try.f97 (Try.f97.body.getD .skip)).f (tm0 hOf Try.f97 (Try.f97.body.getD .skip)).fs (tm0 hOf Try.f97 (Try.f97.body.getD .skip)).H).lfs (ccOf Try.prog BF [58, 84] hOf) ((tm0 hOf Try.f97 (Try.f97.body.getD .skip)) :: []) hOf.os = some hOf_L0 := by kernel_rfl
def hOf_inv : (Nat → Int) → (Nat → Bool) → Nat → (Nat → Int) → (Nat → Bool) → Prop := fun _ _ _ _ _ => True
def hOf_mu : (Nat → Int) → (Nat → Bool) → Nat → (Nat → Int) → (Nat → Bool) → Nat := fun _ _ _ _ _ => 0
set_option maxHeartbeats 0 in
theorem hOf_o0 (kv : Kv) (iv0 : Nat → Int) (bv0 : Nat → Bool) (hin : InB hOf.B iv0) (hF : FT (sta FI FB kv iv0 bv0) (dlt dyn0) hOf.F) (iv : Nat → Int) (bv : Nat → Bool) (ha : Agr 4 iv0 bv0 iv bv) (hi : hOf_inv iv0 bv0 0 iv bv) :
    ∀ lf ∈ hOf_L0, LfT (sta FI FB kv) hOf.os (hOf_inv iv0 bv0) (hOf_mu iv0 bv0) 0 iv bv lf := by
  unfold hOf_L0
  refine List.forall_mem_cons.2 ⟨?_, List.forall_mem_cons.2 ⟨?_, List.forall_mem_nil _⟩⟩
  all_goals
    intro δ hf
  all_goals
    simp only [FT, TP, SB.tp, SI.tv, sta, IB.eval, and_true, true_and, ObsT, Ob.Tv, rowT, kix, In.tiv, ↓tbvT, In.tbv, get_cons, get_nil, reduceIte, Nat.reduceEqDiff, Int.reduceToNat, Int.reduceAdd, Int.reduceSub, Int.reduceLE, Int.reduceLT, Int.reduceEq, ne_eq, Bool.false_eq_true, not_true_eq_false, not_false_eq_true, true_iff, false_iff, iff_true, iff_false, false_implies, implies_true, decT, decide_true, decide_false, Bool.decide_eq_true, ap2, pb2, FI_3, FI_8, FI_9, FI_10, FI_11, FI_12, FI_13, FB_10, FB_11, FB_12, FB_13, FB_14, FB_15, FB_16, FI_20, FI_21, FI_22, FI_23, FI_24, FI_25, FI_26, FB_20, FB_21, FB_22, FB_23, Int.toNat_natCast, Int.toNat_zero] at hf
  all_goals
    have a0 := ha.1 0 (by omega)
    have a1 := ha.1 1 (by omega)
    have a2 := ha.1 2 (by omega)
    have a3 := ha.1 3 (by omega)
  all_goals
    have b1 := hin 1 0 1000 (by simp [hOf, bH, gH, fM, lH, nw, ap3, i64b, kH])
    simp only [Int.reduceLE, reduceIte, Int.reduceNeg] at b1
  all_goals
    simp only [FT, TP, SB.tp, SI.tv, sta, IB.eval, and_true, true_and, ObsT, Ob.Tv, rowT, kix, In.tiv, ↓tbvT, In.tbv, get_cons, get_nil, reduceIte, Nat.reduceEqDiff, Int.reduceToNat, Int.reduceAdd, Int.reduceSub, Int.reduceLE, Int.reduceLT, Int.reduceEq, ne_eq, Bool.false_eq_true, not_true_eq_false, not_false_eq_true, true_iff, false_iff, iff_true, iff_false, false_implies, implies_true, decT, decide_true, decide_false, Bool.decide_eq_true, ap2, pb2, FI_3, FI_8, FI_9, FI_10, FI_11, FI_12, FI_13, FB_10, FB_11, FB_12, FB_13, FB_14, FB_15, FB_16, FI_20, FI_21, FI_22, FI_23, FI_24, FI_25, FI_26, FB_20, FB_21, FB_22, FB_23, Int.toNat_natCast, Int.toNat_zero, hOf_inv, hOf_mu, hOf, o1, othT, bH, gH, fM, lH, nw, ap3, i64b, kH, a0, a1, a2, a3] at hf hi ⊢
  all_goals
    (repeat' (with_reducible apply And.intro)) <;> first
    | omega
    | assumption
    | (unfold inM; omega)
    | exact fun _ h => h hf.1
    | exact fun _ h => hf.1 h
set_option maxRecDepth 100000 in
theorem hOf_c : LsC ((tm0 hOf Try.f97 (Try.f97.body.getD .skip)) :: []) hOf.os [hOf_L0] := by
  unfold hOf_L0
  exact ⟨List.forall_mem_cons.2 ⟨⟨⟨_, rfl, rfl⟩, by kernel_rfl⟩, List.forall_mem_cons.2 ⟨⟨⟨_, rfl, rfl⟩, by kernel_rfl⟩, List.forall_mem_nil _⟩⟩, trivial⟩
theorem hOf_ok : hOf.Ok Try.prog FI FB :=
  Con.of_plain (body := Try.f97.body.getD .skip) pok fiok (EntsFor.cons hRight_ok (EntsFor.cons hRight0_ok EntsFor.nil)) hOf Try.func97 (by kernel_rfl) 4 [] (by kernel_rfl) [hOf_L0] ⟨hOf_h0, trivial⟩ hOf_c
    hOf_inv hOf_mu (fun _ _ _ => trivial) fun kv iv0 bv0 hin hF k l iv bv hk ha hi => match k, hk, hi with
    | 0, hk, hi => by
      cases hk
      exact hOf_o0 kv iv0 bv0 hin hF iv bv ha hi
    | k + 1, hk, _ => by simp at hk
noncomputable def hOf0_L0 : List Lf :=
  [(.fin [] 0 ⟨⟨[], []⟩, [], [], []⟩ [] [])]
set_option maxRecDepth 100000 in
theorem hOf0_h0 : (ex (ccOf Try.prog BF [58, 84] hOf0) ((fun cc => [hRight.ent cc, hRight0.ent cc]) (ccOf Try.prog BF [58, 84] hOf0)) (dw (ccOf Try.prog BF [58, 84] hOf0) ((fun cc => [hRight.ent cc, hRight0.ent cc]) (ccOf Try.prog BF [58, 84] hOf0)) 1000 4) (stopX []) 4000 (tm0 hOf0 Try.f97 (Try.f97.body.getD .skip)).f (tm0 hOf0 Try.f97 (Try.f97.body.getD .skip)).fs (tm0 hOf0 Try.f97 (Try.f97.body.getD .skip)).H).lfs (ccOf Try.prog BF [58, 84] hOf0) ((tm0 hOf0 Try.f97 (Try.f97.body.getD .skip)) :: []) hOf0.os = some hOf0_L0 := by kernel_rfl
def hOf0_inv : (Nat → Int) → (Nat → Bool) → Nat → (Nat → Int) → (Nat → Bool) → Prop := fun _ _ _ _ _ => True
def hOf0_mu : (Nat → Int) → (Nat → Bool) → Nat → (Nat → Int) → (Nat → Bool) → Nat := fun _ _ _ _ _ => 0
set_option maxHeartbeats 0 in
theorem hOf0_o0 (kv : Kv) (iv0 : Nat → Int) (bv0 : Nat → Bool) (hin : InB hOf0.B iv0) (hF : FT (sta FI FB kv iv0 bv0) (dlt dyn0) hOf0.F) (iv : Nat → Int) (bv : Nat → Bool) (ha : Agr 0 iv0 bv0 iv bv) (hi : hOf0_inv iv0 bv0 0 iv bv) :
    ∀ lf ∈ hOf0_L0, LfT (sta FI FB kv) hOf0.os (hOf0_inv iv0 bv0) (hOf0_mu iv0 bv0) 0 iv bv lf := by
  unfold hOf0_L0
  refine List.forall_mem_cons.2 ⟨?_, List.forall_mem_nil _⟩
  all_goals
    intro δ hf
  all_goals
    simp only [FT, TP, SB.tp, SI.tv, sta, IB.eval, and_true, true_and, ObsT, Ob.Tv, rowT, kix, In.tiv, ↓tbvT, In.tbv, get_cons, get_nil, reduceIte, Nat.reduceEqDiff, Int.reduceToNat, Int.reduceAdd, Int.reduceSub, Int.reduceLE, Int.reduceLT, Int.reduceEq, ne_eq, Bool.false_eq_true, not_true_eq_false, not_false_eq_true, true_iff, false_iff, iff_true, iff_false, false_implies, implies_true, decT, decide_true, decide_false, Bool.decide_eq_true, ap2, pb2, FI_3, FI_8, FI_9, FI_10, FI_11, FI_12, FI_13, FB_10, FB_11, FB_12, FB_13, FB_14, FB_15, FB_16, FI_20, FI_21, FI_22, FI_23, FI_24, FI_25, FI_26, FB_20, FB_21, FB_22, FB_23, Int.toNat_natCast, Int.toNat_zero] at hf
  all_goals
    
  all_goals
    simp only [FT, TP, SB.tp, SI.tv, sta, IB.eval, and_true, true_and, ObsT, Ob.Tv, rowT, kix, In.tiv, ↓tbvT, In.tbv, get_cons, get_nil, reduceIte, Nat.reduceEqDiff, Int.reduceToNat, Int.reduceAdd, Int.reduceSub, Int.reduceLE, Int.reduceLT, Int.reduceEq, ne_eq, Bool.false_eq_true, not_true_eq_false, not_false_eq_true, true_iff, false_iff, iff_true, iff_false, false_implies, implies_true, decT, decide_true, decide_false, Bool.decide_eq_true, ap2, pb2, FI_3, FI_8, FI_9, FI_10, FI_11, FI_12, FI_13, FB_10, FB_11, FB_12, FB_13, FB_14, FB_15, FB_16, FI_20, FI_21, FI_22, FI_23, FI_24, FI_25, FI_26, FB_20, FB_21, FB_22, FB_23, Int.toNat_natCast, Int.toNat_zero, hOf0_inv, hOf0_mu, hOf0, o1, othT, bH, gH, fM, lH, nw, ap3, i64b, kH] at hf hi ⊢
  all_goals
    (repeat' (with_reducible apply And.intro)) <;> first
    | omega
    | assumption
    | (unfold inM; omega)
set_option maxRecDepth 100000 in
theorem hOf0_c : LsC ((tm0 hOf0 Try.f97 (Try.f97.body.getD .skip)) :: []) hOf0.os [hOf0_L0] := by
  unfold hOf0_L0
  exact ⟨List.forall_mem_cons.2 ⟨⟨⟨_, rfl, rfl⟩, by kernel_rfl⟩, List.forall_mem_nil _⟩, trivial⟩
theorem hOf0_ok : hOf0.Ok Try.prog FI FB :=
  Con.of_plain (body := Try.f97.body.getD .skip) pok fiok (EntsFor.cons hRight_ok (EntsFor.cons hRight0_ok EntsFor.nil)) hOf0 Try.func97 (by kernel_rfl) 0 [] (by kernel_rfl) [hOf0_L0] ⟨hOf0_h0, trivial⟩ hOf0_c
    hOf0_inv hOf0_mu (fun _ _ _ => trivial) fun kv iv0 bv0 hin hF k l iv bv hk ha hi => match k, hk, hi with
    | 0, hk, hi => by
      cases hk
      exact hOf0_o0 kv iv0 bv0 hin hF iv bv ha hi
    | k + 1, hk, _ => by simp at hk
end Go.Sx.Mhw
