/- Holds: the laws by contract (HoldEach). -/
import Derived.Test.YtfgdpkceoadgjaaHoG
import Derived.Test.YtfgdpkceoadgjaaHoW
namespace Go.Sx.Mhw
set_option linter.unusedVariables false
set_option linter.unusedSimpArgs false
open Go Go.Sx Go.Proofs
noncomputable def bL1 : List (Nat × Int × Int) := i64b 4 :: [(1, 0, 9223372036854775807), (2, 0, -1)]
noncomputable def lEachH : Con := ⟨12, [0, 1, 2, 3, 4], [lH, .it .i64 (.v 4)], gH, bL1, fM, o1 (.bo (.c true))⟩
noncomputable def lEachH0 : Con := ⟨12, [4], [.sn, .it .i64 (.v 4)], [], [i64b 4], [], o1 (.bo (.c true))⟩
noncomputable def lEachH0_L0 : List Lf :=
  [(.fin [] 0 ⟨⟨[], []⟩, [], [], []⟩ [] [])]
set_option maxRecDepth 100000 in
theorem lEachH0_h0 : (ex (ccOf Try.prog BF [58, 84] lEachH0) ((fun cc => [cWorks.ent cc]) (ccOf Try.prog BF [58, 84] lEachH0)) (dw (ccOf Try.prog BF [58, 84] lEachH0) ((fun cc => [cWorks.ent cc]) (ccOf Try.prog BF [58, 84] lEachH0)) 1000 4) (stopX [0, 1, 2, 3, 4, 5, 6, 7, 8, 9, 10, 11, 12, 13, 14, 15, 16, 17, 18, 19, 20, 21, 22, 23, 24, 25, 26, 27, 28, 29, 30, 31, 32, 33, 34, 35, 36, 37, 38, 39, 40, 41, 42, 43, 44, 45, 46, 47, 48, 49, 50, 51, 52, 53, 54, 55, 56, 57, 58, 59, 60, 61, 62, 63, 64, 65, 66, 67, 68, 69, 70, 71, 72, 73, 74, 75, 76, 77, 78, 79, 80, 81, 82, 83, 84, 85, 86, 87, 88, 89, 90, 91, 92, 93, 94, 95, 96, 97, 98, 99, 100, 101, 102, 103, 104, 105, 106, 107, 108, 109, 110, 111, 112, 113, 114, 115, 116, 117, 118, 119, 120, 121, 122, 123, 124, 125, 126, 127, 128, 129, 130, 131, 132, 133, 134, 135, 136, 137, 138, 139, 140, 141, 142, 143, 144, 145, 146, 147, 148, 149, 150, 151, 152, 153, 154, 155, 156, 157, 158, 159, 160, 161, 162, 163, 164, 165, 166, 167, 168, 169, 170, 171, 172, 173, 174, 175, 176, 177, 178, 179, 180, 181, 182, 183, 184, 185, 186, 187, 188, 189, 190, 191, 192, 193, 194, 195, 196, 197, 198, 199]) 4000 (tm0 lEachH0 Try.f12 (Try.f12.body.getD .skip)).f (tm0 lEachH0 Try.f12 (Try.f12.body.getD .skip)).fs (tm0 lEachH0 Try.f12 (Try.f12.body.getD .skip)).H).lfs (ccOf Try.prog BF [58, 84] lEachH0) ((tm0 lEachH0 Try.f12 (Try.f12.body.getD .skip)) :: []) lEachH0.os = some lEachH0_L0 := by kernel_rfl
def lEachH0_inv : (Nat → Int) → (Nat → Bool) → Nat → (Nat → Int) → (Nat → Bool) → Prop := fun _ _ _ _ _ => True
def lEachH0_mu : (Nat → Int) → (Nat → Bool) → Nat → (Nat → Int) → (Nat → Bool) → Nat := fun _ _ _ _ _ => 0
set_option maxHeartbeats 0 in
theorem lEachH0_o0 (kv : Kv) (iv0 : Nat → Int) (bv0 : Nat → Bool) (hin : InB lEachH0.B iv0) (hF : FT (sta FI FB kv iv0 bv0) (dlt dyn0) lEachH0.F) (iv : Nat → Int) (bv : Nat → Bool) (ha : Agr 5 iv0 bv0 iv bv) (hi : lEachH0_inv iv0 bv0 0 iv bv) :
    ∀ lf ∈ lEachH0_L0, LfT (sta FI FB kv) lEachH0.os (lEachH0_inv iv0 bv0) (lEachH0_mu iv0 bv0) 0 iv bv lf := by
  unfold lEachH0_L0
  refine List.forall_mem_cons.2 ⟨?_, List.forall_mem_nil _⟩
  all_goals
    intro δ hf
  all_goals
    simp only [FT, TP, SB.tp, SI.tv, sta, IB.eval, and_true, true_and, ObsT, Ob.Tv, rowT, kix, In.tiv, ↓tbvT, In.tbv, get_cons, get_nil, reduceIte, Nat.reduceEqDiff, Int.reduceToNat, Int.reduceAdd, Int.reduceSub, Int.reduceLE, Int.reduceLT, Int.reduceEq, ne_eq, Bool.false_eq_true, not_true_eq_false, not_false_eq_true, true_iff, false_iff, iff_true, iff_false, false_implies, implies_true, decT, decide_true, decide_false, Bool.decide_eq_true, ap2, pb2, FI_3, FI_8, FI_9, FI_10, FI_11, FI_12, FI_13, FB_10, FB_11, FB_12, FB_13, FB_14, FB_15, FB_16, FI_20, FI_21, FI_22, FI_23, FI_24, FI_25, FI_26, FB_20, FB_21, FB_22, FB_23, FB_24, FB_25, FB_26, FB_27, FI_27, Int.toNat_natCast, Int.toNat_zero] at hf
  all_goals
    have a4 := ha.1 4 (by omega)
  all_goals
    have b4 := hin 4 (-9223372036854775808) 9223372036854775807 (by simp [lEachH0, bH, gH, fM, lH, nw, ap3, i64b, kH, ap3, pb3, pb4, i64l, bL1])
    simp only [Int.reduceLE, reduceIte, Int.reduceNeg] at b4
  all_goals
    simp only [FT, TP, SB.tp, SI.tv, sta, IB.eval, and_true, true_and, ObsT, Ob.Tv, rowT, kix, In.tiv, ↓tbvT, In.tbv, get_cons, get_nil, reduceIte, Nat.reduceEqDiff, Int.reduceToNat, Int.reduceAdd, Int.reduceSub, Int.reduceLE, Int.reduceLT, Int.reduceEq, ne_eq, Bool.false_eq_true, not_true_eq_false, not_false_eq_true, true_iff, false_iff, iff_true, iff_false, false_implies, implies_true, decT, decide_true, decide_false, Bool.decide_eq_true, ap2, pb2, FI_3, FI_8, FI_9, FI_10, FI_11, FI_12, FI_13, FB_10, FB_11, FB_12, FB_13, FB_14, FB_15, FB_16, FI_20, FI_21, FI_22, FI_23, FI_24, FI_25, FI_26, FB_20, FB_21, FB_22, FB_23, FB_24, FB_25, FB_26, FB_27, FI_27, Int.toNat_natCast, Int.toNat_zero, lEachH0_inv, lEachH0_mu, lEachH0, o1, othT, bH, gH, fM, lH, nw, ap3, i64b, kH, ap3, pb3, pb4, i64l, bL1, a4] at hf hi ⊢
  all_goals
    (repeat' (with_reducible apply And.intro)) <;> first
    | omega
    | assumption
    | (unfold inM; omega)
    | exact trivial
set_option maxRecDepth 100000 in
theorem lEachH0_c : LsC ((tm0 lEachH0 Try.f12 (Try.f12.body.getD .skip)) :: []) lEachH0.os [lEachH0_L0] := by
  unfold lEachH0_L0
  exact ⟨List.forall_mem_cons.2 ⟨⟨⟨_, rfl, rfl⟩, by kernel_rfl⟩, List.forall_mem_nil _⟩, trivial⟩
theorem lEachH0_ok : lEachH0.Ok Try.prog FI FB :=
  Con.of_plain (body := Try.f12.body.getD .skip) pok fiok (EntsFor.cons cWorks_ok EntsFor.nil) lEachH0 Try.func12 (by kernel_rfl) 5 [] (by kernel_rfl) [lEachH0_L0] ⟨lEachH0_h0, trivial⟩ lEachH0_c
    lEachH0_inv lEachH0_mu (fun _ _ _ => trivial) fun kv iv0 bv0 hin hF k l iv bv hk ha hi => match k, hk, hi with
    | 0, hk, hi => by
      cases hk
      exact lEachH0_o0 kv iv0 bv0 hin hF iv bv ha hi
    | k + 1, hk, _ => by simp at hk
noncomputable def lEachH_T1 : Tm := ⟨⟨12, 82, [(7, (.pt (.n 6) (.c 0))), (6, (.fn 111 [] [(.pt (.n 5) (.c 0))])), (5, (.pt (.n 2) (.c 0))), (4, (.pt (.n 1) (.c 0))), (3, (.pt (.n 0) (.c 0)))], [(.code (atC Try.f12 [1, 1, 1, 1, 1, 1, 0, 1, 0, 0])), (.inLoop (atC Try.f12 [1, 1, 1, 1, 1, 1, 0, 1, 0, 0])), (.inBlock 0), (.code (atC Try.f12 [1, 1, 1, 1, 1, 1, 1]))], [], .none⟩, [],
    ⟨[(0, (.cells [(.it .i64 (.v 4))] 3)), (1, (.cells [(.bo (.c .false))] 4)), (2, (.cells [(.sl (.k 0) (.v 2) (.v 1) (.v 3))] 49)), (4, (.arr [(.nt .i64), (.nt .i64), (.nt .i64)] (.v 0) (.v 1) 58 (.v 25))), (5, (.cells [(.sl (.n 4) (.c 0) (.v 1) (.v 25))] 49)), (6, (.cells [(.it .i64 (.c 0))] 3))], 7, 0, 0, [((.le (.v 1) (.v 25)), .true), ((.ap 20 (.v 0) (.v 1) (.c 0) (.c 0) (.c 0) (.c 0)), .true), ((.le (.v 1) (.c 300)), .true), ((.le (.v 1) (.v 3)), .true), ((.le (.c 0) (.v 3)), .true)], [1, 0], [(1, (0, 300)), (4, ((-9223372036854775808), 9223372036854775807)), (1, (0, 9223372036854775807)), (2, (0, (-1)))]⟩, [25]⟩
noncomputable def lEachH_T2 : Tm := ⟨⟨12, 82, [(7, (.pt (.n 4) (.c 0))), (6, (.fn 111 [] [(.pt (.n 3) (.c 0))])), (5, (.pt (.n 2) (.c 0))), (4, (.pt (.n 1) (.c 0))), (3, (.pt (.n 0) (.c 0)))], [(.code (atC Try.f12 [1, 1, 1, 1, 1, 1, 0, 1, 0, 0])), (.inLoop (atC Try.f12 [1, 1, 1, 1, 1, 1, 0, 1, 0, 0])), (.inBlock 0), (.code (atC Try.f12 [1, 1, 1, 1, 1, 1, 1]))], [], .none⟩, [],
    ⟨[(0, (.cells [(.it .i64 (.v 4))] 3)), (1, (.cells [(.bo (.c .false))] 4)), (2, (.cells [.sn] 49)), (3, (.cells [.sn] 49)), (4, (.cells [(.it .i64 (.c 0))] 3))], 5, 0, 0, [((.ap 20 (.v 0) (.v 1) (.c 0) (.c 0) (.c 0) (.c 0)), .false), ((.le (.v 1) (.c 300)), .true), ((.le (.v 1) (.v 3)), .true), ((.le (.c 0) (.v 3)), .true)], [1, 0], [(1, (0, 300)), (4, ((-9223372036854775808), 9223372036854775807)), (1, (0, 9223372036854775807)), (2, (0, (-1)))]⟩, []⟩
noncomputable def lEachH_T3 : Tm := ⟨⟨146, 16, [(7, (.it .i64 (.v 28))), (6, (.it .i64 (.v 1))), (5, (.sl (.n 4) (.c 0) (.v 1) (.v 25))), (0, (.yl 13))], [(.code (atC Try.f146 [1, 0, 0])), (.inLoop (atC Try.f146 [1, 0, 0])), (.inBlock 0)], [], .none⟩, [⟨111, 13, [], [(.inRangeFunc 13), (.inBlock 0), (.inScope (atC Try.f111 [1, 0]))], [12], .none⟩, ⟨12, 82, [(8, (.pt (.n 7) (.c 0))), (7, (.pt (.n 6) (.c 0))), (6, (.fn 111 [] [(.pt (.n 5) (.c 0))])), (5, (.pt (.n 2) (.c 0))), (4, (.pt (.n 1) (.c 0))), (3, (.pt (.n 0) (.c 0)))], [(.inRangeFunc 9), (.inBlock 2), (.code (atC Try.f12 [1, 1, 1, 1, 1, 1, 0, 1, 0, 0, 1, 0, 0, 1, 1])), (.inBlock 1), (.code (atC Try.f12 [1, 1, 1, 1, 1, 1, 0, 1, 0, 0, 1, 1])), (.inLoop (atC Try.f12 [1, 1, 1, 1, 1, 1, 0, 1, 0, 0])), (.inBlock 0), (.code (atC Try.f12 [1, 1, 1, 1, 1, 1, 1]))], [8], .none⟩],
    ⟨[(0, (.cells [(.it .i64 (.v 4))] 3)), (1, (.cells [(.bo (.c .false))] 4)), (2, (.cells [(.sl (.k 0) (.v 2) (.v 1) (.v 3))] 49)), (4, (.arr [(.nt .i64), (.nt .i64), (.nt .i64)] (.v 0) (.v 1) 58 (.v 25))), (5, (.cells [(.sl (.n 4) (.c 0) (.v 1) (.v 25))] 49)), (6, (.cells [(.it .i64 (.c 0))] 3)), (7, (.cells [(.it .i64 (.v 28))] 3)), (8, .dfr), (9, (.loop .ready .none 12 82 [(26, (.fn 111 [] [(.pt (.n 5) (.c 0))])), (8, (.pt (.n 7) (.c 0))), (23, (.bo (.c .true))), (22, (.it .i64 (.c 0))), (7, (.pt (.n 6) (.c 0))), (6, (.fn 111 [] [(.pt (.n 5) (.c 0))])), (5, (.pt (.n 2) (.c 0))), (4, (.pt (.n 1) (.c 0))), (3, (.pt (.n 0) (.c 0)))] #[27, 28] (atC Try.f12 [1, 1, 1, 1, 1, 1, 0, 1, 0, 0, 1, 0, 0, 1, 0, 1, 0, 0]) (atC Try.f12 [1, 1, 1, 1, 1, 1, 0, 1, 0, 0, 1, 0, 0, 1, 0, 1, 0, 1]) 8)), (10, (.cells [(.yl 9)] 150)), (11, (.cells [(.sl (.n 4) (.c 0) (.v 1) (.v 25))] 49)), (12, .dfr), (13, (.loop .ready .none 111 13 [(5, (.fn 146 [] [(.pt (.n 11) (.c 0))])), (4, (.sl (.n 4) (.c 0) (.v 1) (.v 25))), (2, (.pt (.n 10) (.c 0))), (0, (.yl 9)), (1, (.pt (.n 5) (.c 0)))] #[6] (atC Try.f111 [1, 0, 1, 1, 0, 0]) (atC Try.f111 [1, 0, 1, 1, 0, 1]) 12))], 14, 0, 0, [((.le (.v 1) (.v 25)), .true), ((.ap 20 (.v 0) (.v 1) (.c 0) (.c 0) (.c 0) (.c 0)), .true), ((.le (.v 1) (.c 300)), .true), ((.le (.v 1) (.v 3)), .true), ((.le (.c 0) (.v 3)), .true)], [1, 0], [(1, (0, 300)), (4, ((-9223372036854775808), 9223372036854775807)), (2, (0, (-1))), (28, (0, (-1)))]⟩, [28]⟩
noncomputable def lEachH_T4 : Tm := ⟨⟨146, 16, [(7, (.it .i64 (.c 0))), (6, (.it .i64 (.c 0))), (5, .sn), (0, (.yl 11))], [(.code (atC Try.f146 [1, 0, 0])), (.inLoop (atC Try.f146 [1, 0, 0])), (.inBlock 0)], [], .none⟩, [⟨111, 13, [], [(.inRangeFunc 11), (.inBlock 0), (.inScope (atC Try.f111 [1, 0]))], [10], .none⟩, ⟨12, 82, [(8, (.pt (.n 5) (.c 0))), (7, (.pt (.n 4) (.c 0))), (6, (.fn 111 [] [(.pt (.n 3) (.c 0))])), (5, (.pt (.n 2) (.c 0))), (4, (.pt (.n 1) (.c 0))), (3, (.pt (.n 0) (.c 0)))], [(.inRangeFunc 7), (.inBlock 2), (.code (atC Try.f12 [1, 1, 1, 1, 1, 1, 0, 1, 0, 0, 1, 0, 0, 1, 1])), (.inBlock 1), (.code (atC Try.f12 [1, 1, 1, 1, 1, 1, 0, 1, 0, 0, 1, 1])), (.inLoop (atC Try.f12 [1, 1, 1, 1, 1, 1, 0, 1, 0, 0])), (.inBlock 0), (.code (atC Try.f12 [1, 1, 1, 1, 1, 1, 1]))], [6], .none⟩],
    ⟨[(0, (.cells [(.it .i64 (.v 4))] 3)), (1, (.cells [(.bo (.c .false))] 4)), (2, (.cells [.sn] 49)), (3, (.cells [.sn] 49)), (4, (.cells [(.it .i64 (.c 0))] 3)), (5, (.cells [(.it .i64 (.c 0))] 3)), (6, .dfr), (7, (.loop .ready .none 12 82 [(26, (.fn 111 [] [(.pt (.n 3) (.c 0))])), (8, (.pt (.n 5) (.c 0))), (23, (.bo (.c .true))), (22, (.it .i64 (.c 0))), (7, (.pt (.n 4) (.c 0))), (6, (.fn 111 [] [(.pt (.n 3) (.c 0))])), (5, (.pt (.n 2) (.c 0))), (4, (.pt (.n 1) (.c 0))), (3, (.pt (.n 0) (.c 0)))] #[27, 28] (atC Try.f12 [1, 1, 1, 1, 1, 1, 0, 1, 0, 0, 1, 0, 0, 1, 0, 1, 0, 0]) (atC Try.f12 [1, 1, 1, 1, 1, 1, 0, 1, 0, 0, 1, 0, 0, 1, 0, 1, 0, 1]) 6)), (8, (.cells [(.yl 7)] 150)), (9, (.cells [.sn] 49)), (10, .dfr), (11, (.loop .ready .none 111 13 [(5, (.fn 146 [] [(.pt (.n 9) (.c 0))])), (4, .sn), (2, (.pt (.n 8) (.c 0))), (0, (.yl 7)), (1, (.pt (.n 3) (.c 0)))] #[6] (atC Try.f111 [1, 0, 1, 1, 0, 0]) (atC Try.f111 [1, 0, 1, 1, 0, 1]) 10))], 12, 0, 0, [((.ap 20 (.v 0) (.v 1) (.c 0) (.c 0) (.c 0) (.c 0)), .false), ((.le (.v 1) (.c 300)), .true), ((.le (.v 1) (.v 3)), .true), ((.le (.c 0) (.v 3)), .true)], [1, 0], [(1, (0, 300)), (4, ((-9223372036854775808), 9223372036854775807)), (1, (0, 9223372036854775807)), (2, (0, (-1)))]⟩, []⟩
noncomputable def lEachH_T5 : Tm := ⟨⟨12, 82, [(7, (.pt (.n 17) (.c 0))), (6, (.fn 111 [] [(.pt (.n 5) (.c 0))])), (5, (.pt (.n 2) (.c 0))), (4, (.pt (.n 1) (.c 0))), (3, (.pt (.n 0) (.c 0)))], [(.code (atC Try.f12 [1, 1, 1, 1, 1, 1, 0, 1, 0, 0])), (.inLoop (atC Try.f12 [1, 1, 1, 1, 1, 1, 0, 1, 0, 0])), (.inBlock 0), (.code (atC Try.f12 [1, 1, 1, 1, 1, 1, 1]))], [8], .none⟩, [],
    ⟨[(0, (.cells [(.it .i64 (.v 4))] 3)), (1, (.cells [(.bo (.c .false))] 4)), (2, (.cells [(.sl (.k 0) (.v 2) (.v 1) (.v 3))] 49)), (4, (.arr [(.nt .i64), (.nt .i64), (.nt .i64)] (.v 0) (.v 1) 58 (.v 25))), (5, (.cells [(.sl (.n 4) (.c 0) (.v 1) (.v 25))] 49)), (8, .dfr), (17, (.cells [(.it .i64 (.c 1))] 3))], 18, 0, 0, [((.le (.v 1) (.v 25)), .true), ((.ap 20 (.v 0) (.v 1) (.c 0) (.c 0) (.c 0) (.c 0)), .true), ((.le (.v 1) (.c 300)), .true), ((.le (.v 1) (.v 3)), .true), ((.le (.c 0) (.v 3)), .true)], [1, 0], [(4, ((-9223372036854775808), 9223372036854775807)), (1, (0, 300)), (2, (0, (-1)))]⟩, []⟩
noncomputable def lEachH_T6 : Tm := ⟨⟨12, 82, [(7, (.pt (.n 12) (.c 0))), (6, (.fn 111 [] [(.pt (.n 3) (.c 0))])), (5, (.pt (.n 2) (.c 0))), (4, (.pt (.n 1) (.c 0))), (3, (.pt (.n 0) (.c 0)))], [(.code (atC Try.f12 [1, 1, 1, 1, 1, 1, 0, 1, 0, 0])), (.inLoop (atC Try.f12 [1, 1, 1, 1, 1, 1, 0, 1, 0, 0])), (.inBlock 0), (.code (atC Try.f12 [1, 1, 1, 1, 1, 1, 1]))], [6], .none⟩, [],
    ⟨[(0, (.cells [(.it .i64 (.v 4))] 3)), (1, (.cells [(.bo (.c .false))] 4)), (2, (.cells [.sn] 49)), (3, (.cells [.sn] 49)), (6, .dfr), (12, (.cells [(.it .i64 (.c 1))] 3))], 13, 0, 0, [((.ap 20 (.v 0) (.v 1) (.c 0) (.c 0) (.c 0) (.c 0)), .false), ((.le (.v 1) (.c 300)), .true), ((.le (.v 1) (.v 3)), .true), ((.le (.c 0) (.v 3)), .true)], [1, 0], [(1, (0, 300)), (4, ((-9223372036854775808), 9223372036854775807)), (1, (0, 9223372036854775807)), (2, (0, (-1)))]⟩, []⟩
noncomputable def lEachH_T7 : Tm := ⟨⟨146, 16, [(7, (.it .i64 (.v 34))), (6, (.it .i64 (.v 1))), (5, (.sl (.n 4) (.c 0) (.v 1) (.v 25))), (0, (.yl 24))], [(.code (atC Try.f146 [1, 0, 0])), (.inLoop (atC Try.f146 [1, 0, 0])), (.inBlock 0)], [], .none⟩, [⟨111, 13, [], [(.inRangeFunc 24), (.inBlock 0), (.inScope (atC Try.f111 [1, 0]))], [23], .none⟩, ⟨12, 82, [(8, (.pt (.n 18) (.c 0))), (7, (.pt (.n 17) (.c 0))), (6, (.fn 111 [] [(.pt (.n 5) (.c 0))])), (5, (.pt (.n 2) (.c 0))), (4, (.pt (.n 1) (.c 0))), (3, (.pt (.n 0) (.c 0)))], [(.inRangeFunc 20), (.inBlock 2), (.code (atC Try.f12 [1, 1, 1, 1, 1, 1, 0, 1, 0, 0, 1, 0, 0, 1, 1])), (.inBlock 1), (.code (atC Try.f12 [1, 1, 1, 1, 1, 1, 0, 1, 0, 0, 1, 1])), (.inLoop (atC Try.f12 [1, 1, 1, 1, 1, 1, 0, 1, 0, 0])), (.inBlock 0), (.code (atC Try.f12 [1, 1, 1, 1, 1, 1, 1]))], [19, 8], .none⟩],
    ⟨[(0, (.cells [(.it .i64 (.v 4))] 3)), (1, (.cells [(.bo (.c .false))] 4)), (2, (.cells [(.sl (.k 0) (.v 2) (.v 1) (.v 3))] 49)), (4, (.arr [(.nt .i64), (.nt .i64), (.nt .i64)] (.v 0) (.v 1) 58 (.v 25))), (5, (.cells [(.sl (.n 4) (.c 0) (.v 1) (.v 25))] 49)), (8, .dfr), (17, (.cells [(.it .i64 (.c 1))] 3)), (18, (.cells [(.it .i64 (.v 34))] 3)), (19, .dfr), (20, (.loop .ready .none 12 82 [(26, (.fn 111 [] [(.pt (.n 5) (.c 0))])), (8, (.pt (.n 18) (.c 0))), (23, (.bo (.c .true))), (22, (.it .i64 (.c 1))), (7, (.pt (.n 17) (.c 0))), (6, (.fn 111 [] [(.pt (.n 5) (.c 0))])), (5, (.pt (.n 2) (.c 0))), (4, (.pt (.n 1) (.c 0))), (3, (.pt (.n 0) (.c 0)))] #[27, 28] (atC Try.f12 [1, 1, 1, 1, 1, 1, 0, 1, 0, 0, 1, 0, 0, 1, 0, 1, 0, 0]) (atC Try.f12 [1, 1, 1, 1, 1, 1, 0, 1, 0, 0, 1, 0, 0, 1, 0, 1, 0, 1]) 19)), (21, (.cells [(.yl 20)] 150)), (22, (.cells [(.sl (.n 4) (.c 0) (.v 1) (.v 25))] 49)), (23, .dfr), (24, (.loop .ready .none 111 13 [(5, (.fn 146 [] [(.pt (.n 22) (.c 0))])), (4, (.sl (.n 4) (.c 0) (.v 1) (.v 25))), (2, (.pt (.n 21) (.c 0))), (0, (.yl 20)), (1, (.pt (.n 5) (.c 0)))] #[6] (atC Try.f111 [1, 0, 1, 1, 0, 0]) (atC Try.f111 [1, 0, 1, 1, 0, 1]) 23))], 25, 0, 0, [((.le (.v 1) (.v 25)), .true), ((.ap 20 (.v 0) (.v 1) (.c 0) (.c 0) (.c 0) (.c 0)), .true), ((.le (.v 1) (.c 300)), .true), ((.le (.v 1) (.v 3)), .true), ((.le (.c 0) (.v 3)), .true)], [1, 0], [(4, ((-9223372036854775808), 9223372036854775807)), (1, (0, 300)), (2, (0, (-1))), (34, (0, (-1)))]⟩, [34]⟩
noncomputable def lEachH_T8 : Tm := ⟨⟨146, 16, [(7, (.it .i64 (.c 0))), (6, (.it .i64 (.c 0))), (5, .sn), (0, (.yl 19))], [(.code (atC Try.f146 [1, 0, 0])), (.inLoop (atC Try.f146 [1, 0, 0])), (.inBlock 0)], [], .none⟩, [⟨111, 13, [], [(.inRangeFunc 19), (.inBlock 0), (.inScope (atC Try.f111 [1, 0]))], [18], .none⟩, ⟨12, 82, [(8, (.pt (.n 13) (.c 0))), (7, (.pt (.n 12) (.c 0))), (6, (.fn 111 [] [(.pt (.n 3) (.c 0))])), (5, (.pt (.n 2) (.c 0))), (4, (.pt (.n 1) (.c 0))), (3, (.pt (.n 0) (.c 0)))], [(.inRangeFunc 15), (.inBlock 2), (.code (atC Try.f12 [1, 1, 1, 1, 1, 1, 0, 1, 0, 0, 1, 0, 0, 1, 1])), (.inBlock 1), (.code (atC Try.f12 [1, 1, 1, 1, 1, 1, 0, 1, 0, 0, 1, 1])), (.inLoop (atC Try.f12 [1, 1, 1, 1, 1, 1, 0, 1, 0, 0])), (.inBlock 0), (.code (atC Try.f12 [1, 1, 1, 1, 1, 1, 1]))], [14, 6], .none⟩],
    ⟨[(0, (.cells [(.it .i64 (.v 4))] 3)), (1, (.cells [(.bo (.c .false))] 4)), (2, (.cells [.sn] 49)), (3, (.cells [.sn] 49)), (6, .dfr), (12, (.cells [(.it .i64 (.c 1))] 3)), (13, (.cells [(.it .i64 (.c 0))] 3)), (14, .dfr), (15, (.loop .ready .none 12 82 [(26, (.fn 111 [] [(.pt (.n 3) (.c 0))])), (8, (.pt (.n 13) (.c 0))), (23, (.bo (.c .true))), (22, (.it .i64 (.c 1))), (7, (.pt (.n 12) (.c 0))), (6, (.fn 111 [] [(.pt (.n 3) (.c 0))])), (5, (.pt (.n 2) (.c 0))), (4, (.pt (.n 1) (.c 0))), (3, (.pt (.n 0) (.c 0)))] #[27, 28] (atC Try.f12 [1, 1, 1, 1, 1, 1, 0, 1, 0, 0, 1, 0, 0, 1, 0, 1, 0, 0]) (atC Try.f12 [1, 1, 1, 1, 1, 1, 0, 1, 0, 0, 1, 0, 0, 1, 0, 1, 0, 1]) 14)), (16, (.cells [(.yl 15)] 150)), (17, (.cells [.sn] 49)), (18, .dfr), (19, (.loop .ready .none 111 13 [(5, (.fn 146 [] [(.pt (.n 17) (.c 0))])), (4, .sn), (2, (.pt (.n 16) (.c 0))), (0, (.yl 15)), (1, (.pt (.n 3) (.c 0)))] #[6] (atC Try.f111 [1, 0, 1, 1, 0, 0]) (atC Try.f111 [1, 0, 1, 1, 0, 1]) 18))], 20, 0, 0, [((.ap 20 (.v 0) (.v 1) (.c 0) (.c 0) (.c 0) (.c 0)), .false), ((.le (.v 1) (.c 300)), .true), ((.le (.v 1) (.v 3)), .true), ((.le (.c 0) (.v 3)), .true)], [1, 0], [(1, (0, 300)), (4, ((-9223372036854775808), 9223372036854775807)), (1, (0, 9223372036854775807)), (2, (0, (-1)))]⟩, []⟩
noncomputable def lEachH_T9 : Tm := ⟨⟨12, 82, [(7, (.pt (.n 25) (.c 0))), (6, (.fn 111 [] [(.pt (.n 5) (.c 0))])), (5, (.pt (.n 2) (.c 0))), (4, (.pt (.n 1) (.c 0))), (3, (.pt (.n 0) (.c 0)))], [(.code (atC Try.f12 [1, 1, 1, 1, 1, 1, 0, 1, 0, 0])), (.inLoop (atC Try.f12 [1, 1, 1, 1, 1, 1, 0, 1, 0, 0])), (.inBlock 0), (.code (atC Try.f12 [1, 1, 1, 1, 1, 1, 1]))], [19, 8], .none⟩, [],
    ⟨[(0, (.cells [(.it .i64 (.v 4))] 3)), (1, (.cells [(.bo (.c .false))] 4)), (2, (.cells [(.sl (.k 0) (.v 2) (.v 1) (.v 3))] 49)), (4, (.arr [(.nt .i64), (.nt .i64), (.nt .i64)] (.v 0) (.v 1) 58 (.v 25))), (5, (.cells [(.sl (.n 4) (.c 0) (.v 1) (.v 25))] 49)), (8, .dfr), (19, .dfr), (25, (.cells [(.it .i64 (.c 2))] 3))], 26, 0, 0, [((.eq (.v 34) (.v 1)), .true), ((.lt (.v 34) (.v 1)), .false), ((.le (.v 1) (.v 25)), .true), ((.ap 20 (.v 0) (.v 1) (.c 0) (.c 0) (.c 0) (.c 0)), .true), ((.le (.v 1) (.c 300)), .true), ((.le (.v 1) (.v 3)), .true), ((.le (.c 0) (.v 3)), .true)], [1, 0], [(1, (0, 300)), (34, (0, (-1))), (4, ((-9223372036854775808), 9223372036854775807)), (1, (0, 300)), (2, (0, (-1))), (34, (0, (-1)))]⟩, []⟩
noncomputable def lEachH_T10 : Tm := ⟨⟨12, 82, [(7, (.pt (.n 20) (.c 0))), (6, (.fn 111 [] [(.pt (.n 3) (.c 0))])), (5, (.pt (.n 2) (.c 0))), (4, (.pt (.n 1) (.c 0))), (3, (.pt (.n 0) (.c 0)))], [(.code (atC Try.f12 [1, 1, 1, 1, 1, 1, 0, 1, 0, 0])), (.inLoop (atC Try.f12 [1, 1, 1, 1, 1, 1, 0, 1, 0, 0])), (.inBlock 0), (.code (atC Try.f12 [1, 1, 1, 1, 1, 1, 1]))], [14, 6], .none⟩, [],
    ⟨[(0, (.cells [(.it .i64 (.v 4))] 3)), (1, (.cells [(.bo (.c .false))] 4)), (2, (.cells [.sn] 49)), (3, (.cells [.sn] 49)), (6, .dfr), (14, .dfr), (20, (.cells [(.it .i64 (.c 2))] 3))], 21, 0, 0, [((.ap 20 (.v 0) (.v 1) (.c 0) (.c 0) (.c 0) (.c 0)), .false), ((.le (.v 1) (.c 300)), .true), ((.le (.v 1) (.v 3)), .true), ((.le (.c 0) (.v 3)), .true)], [1, 0], [(1, (0, 300)), (4, ((-9223372036854775808), 9223372036854775807)), (1, (0, 9223372036854775807)), (2, (0, (-1)))]⟩, []⟩
noncomputable def lEachH_L0 : List Lf :=
  [(.cut [((.le (.v 1) (.d 0)), .true), ((.ap 20 (.v 0) (.v 1) (.c 0) (.c 0) (.c 0) (.c 0)), .true), ((.le (.v 1) (.c 300)), .true), ((.le (.v 1) (.v 3)), .true), ((.le (.c 0) (.v 3)), .true)] 1 ⟨⟨[(25, (.d 0))], []⟩, [(4, 4), (0, 0), (1, 1), (2, 2), (5, 5), (6, 6)], [], []⟩ [] (shT lEachH_T1 ⟨⟨[(25, (.d 0))], []⟩, [(4, 4), (0, 0), (1, 1), (2, 2), (5, 5), (6, 6)], [], []⟩)), (.cut [((.ap 20 (.v 0) (.v 1) (.c 0) (.c 0) (.c 0) (.c 0)), .false), ((.le (.v 1) (.c 300)), .true), ((.le (.v 1) (.v 3)), .true), ((.le (.c 0) (.v 3)), .true)] 2 ⟨⟨[], []⟩, [(0, 0), (1, 1), (2, 2), (3, 3), (4, 4)], [], []⟩ [] (shT lEachH_T2 ⟨⟨[], []⟩, [(0, 0), (1, 1), (2, 2), (3, 3), (4, 4)], [], []⟩)), (.fin [((.le (.v 1) (.c 300)), .false), ((.le (.v 1) (.v 3)), .true), ((.le (.c 0) (.v 3)), .true)] 0 ⟨⟨[], []⟩, [], [], []⟩ [] [])]
noncomputable def lEachH_L1 : List Lf :=
  [(.cut [((.le (.v 1) (.v 25)), .true), ((.ap 20 (.v 0) (.v 1) (.c 0) (.c 0) (.c 0) (.c 0)), .true), ((.le (.v 1) (.c 300)), .true), ((.le (.v 1) (.v 3)), .true), ((.le (.c 0) (.v 3)), .true)] 3 ⟨⟨[(28, (.c 0))], []⟩, [(10, 10), (11, 11), (9, 9), (8, 8), (0, 0), (1, 1), (2, 2), (5, 5), (6, 6), (7, 7), (12, 12), (13, 13), (4, 4)], [], []⟩ [] (shT lEachH_T3 ⟨⟨[(28, (.c 0))], []⟩, [(10, 10), (11, 11), (9, 9), (8, 8), (0, 0), (1, 1), (2, 2), (5, 5), (6, 6), (7, 7), (12, 12), (13, 13), (4, 4)], [], []⟩))]
noncomputable def lEachH_L2 : List Lf :=
  [(.cut [((.ap 20 (.v 0) (.v 1) (.c 0) (.c 0) (.c 0) (.c 0)), .false), ((.le (.v 1) (.c 300)), .true), ((.le (.v 1) (.v 3)), .true), ((.le (.c 0) (.v 3)), .true)] 4 ⟨⟨[], []⟩, [(8, 8), (9, 9), (7, 7), (6, 6), (0, 0), (1, 1), (2, 2), (3, 3), (4, 4), (5, 5), (10, 10), (11, 11)], [], []⟩ [] (shT lEachH_T4 ⟨⟨[], []⟩, [(8, 8), (9, 9), (7, 7), (6, 6), (0, 0), (1, 1), (2, 2), (3, 3), (4, 4), (5, 5), (10, 10), (11, 11)], [], []⟩))]
noncomputable def lEachH_L3 : List Lf :=
  [(.cut [((.eq (.op .add (.v 28) (.c 1)) (.op .imin (.v 1) (.op .imax (.c 1) (.v 4)))), .true), ((.le (.v 4) (.op .add (.v 28) (.c 1))), .true), ((.lt (.v 28) (.v 1)), .true), ((.le (.v 1) (.v 25)), .true), ((.ap 20 (.v 0) (.v 1) (.c 0) (.c 0) (.c 0) (.c 0)), .true), ((.le (.v 1) (.c 300)), .true), ((.le (.v 1) (.v 3)), .true), ((.le (.c 0) (.v 3)), .true)] 5 ⟨⟨[], []⟩, [(4, 4), (8, 8), (0, 0), (1, 1), (2, 2), (5, 5), (17, 17)], [], []⟩ [] (shT lEachH_T5 ⟨⟨[], []⟩, [(4, 4), (8, 8), (0, 0), (1, 1), (2, 2), (5, 5), (17, 17)], [], []⟩)), (.fin [((.eq (.op .add (.v 28) (.c 1)) (.op .imin (.v 1) (.op .imax (.c 1) (.v 4)))), .false), ((.le (.v 4) (.op .add (.v 28) (.c 1))), .true), ((.lt (.v 28) (.v 1)), .true), ((.le (.v 1) (.v 25)), .true), ((.ap 20 (.v 0) (.v 1) (.c 0) (.c 0) (.c 0) (.c 0)), .true), ((.le (.v 1) (.c 300)), .true), ((.le (.v 1) (.v 3)), .true), ((.le (.c 0) (.v 3)), .true)] 0 ⟨⟨[], []⟩, [], [], []⟩ [(.eb (.c .true) (.c .false))] []), (.cut [((.le (.v 4) (.op .add (.v 28) (.c 1))), .false), ((.lt (.v 28) (.v 1)), .true), ((.le (.v 1) (.v 25)), .true), ((.ap 20 (.v 0) (.v 1) (.c 0) (.c 0) (.c 0) (.c 0)), .true), ((.le (.v 1) (.c 300)), .true), ((.le (.v 1) (.v 3)), .true), ((.le (.c 0) (.v 3)), .true)] 3 ⟨⟨[(28, (.op .add (.v 28) (.c 1)))], []⟩, [(10, 10), (11, 11), (9, 9), (8, 8), (0, 0), (1, 1), (2, 2), (5, 5), (6, 6), (7, 7), (12, 12), (13, 13), (4, 4)], [], []⟩ [] (shT lEachH_T3 ⟨⟨[(28, (.op .add (.v 28) (.c 1)))], []⟩, [(10, 10), (11, 11), (9, 9), (8, 8), (0, 0), (1, 1), (2, 2), (5, 5), (6, 6), (7, 7), (12, 12), (13, 13), (4, 4)], [], []⟩)), (.cut [((.eq (.v 28) (.op .imin (.v 1) (.op .imax (.c 1) (.v 4)))), .true), ((.lt (.v 28) (.v 1)), .false), ((.le (.v 1) (.v 25)), .true), ((.ap 20 (.v 0) (.v 1) (.c 0) (.c 0) (.c 0) (.c 0)), .true), ((.le (.v 1) (.c 300)), .true), ((.le (.v 1) (.v 3)), .true), ((.le (.c 0) (.v 3)), .true)] 5 ⟨⟨[], []⟩, [(4, 4), (8, 8), (0, 0), (1, 1), (2, 2), (5, 5), (17, 14)], [], []⟩ [] (shT lEachH_T5 ⟨⟨[], []⟩, [(4, 4), (8, 8), (0, 0), (1, 1), (2, 2), (5, 5), (17, 14)], [], []⟩)), (.fin [((.eq (.v 28) (.op .imin (.v 1) (.op .imax (.c 1) (.v 4)))), .false), ((.lt (.v 28) (.v 1)), .false), ((.le (.v 1) (.v 25)), .true), ((.ap 20 (.v 0) (.v 1) (.c 0) (.c 0) (.c 0) (.c 0)), .true), ((.le (.v 1) (.c 300)), .true), ((.le (.v 1) (.v 3)), .true), ((.le (.c 0) (.v 3)), .true)] 0 ⟨⟨[], []⟩, [], [], []⟩ [(.eb (.c .true) (.c .false))] [])]
noncomputable def lEachH_L4 : List Lf :=
  [(.cut [((.ap 20 (.v 0) (.v 1) (.c 0) (.c 0) (.c 0) (.c 0)), .false), ((.le (.v 1) (.c 300)), .true), ((.le (.v 1) (.v 3)), .true), ((.le (.c 0) (.v 3)), .true)] 6 ⟨⟨[], []⟩, [(6, 6), (0, 0), (1, 1), (2, 2), (3, 3), (12, 12)], [], []⟩ [] (shT lEachH_T6 ⟨⟨[], []⟩, [(6, 6), (0, 0), (1, 1), (2, 2), (3, 3), (12, 12)], [], []⟩))]
noncomputable def lEachH_L5 : List Lf :=
  [(.cut [((.le (.v 1) (.v 25)), .true), ((.ap 20 (.v 0) (.v 1) (.c 0) (.c 0) (.c 0) (.c 0)), .true), ((.le (.v 1) (.c 300)), .true), ((.le (.v 1) (.v 3)), .true), ((.le (.c 0) (.v 3)), .true)] 7 ⟨⟨[(34, (.c 0))], []⟩, [(21, 21), (22, 22), (20, 20), (8, 8), (19, 19), (0, 0), (1, 1), (2, 2), (5, 5), (17, 17), (18, 18), (23, 23), (24, 24), (4, 4)], [], []⟩ [] (shT lEachH_T7 ⟨⟨[(34, (.c 0))], []⟩, [(21, 21), (22, 22), (20, 20), (8, 8), (19, 19), (0, 0), (1, 1), (2, 2), (5, 5), (17, 17), (18, 18), (23, 23), (24, 24), (4, 4)], [], []⟩))]
noncomputable def lEachH_L6 : List Lf :=
  [(.cut [((.ap 20 (.v 0) (.v 1) (.c 0) (.c 0) (.c 0) (.c 0)), .false), ((.le (.v 1) (.c 300)), .true), ((.le (.v 1) (.v 3)), .true), ((.le (.c 0) (.v 3)), .true)] 8 ⟨⟨[], []⟩, [(16, 16), (17, 17), (15, 15), (6, 6), (14, 14), (0, 0), (1, 1), (2, 2), (3, 3), (12, 12), (13, 13), (18, 18), (19, 19)], [], []⟩ [] (shT lEachH_T8 ⟨⟨[], []⟩, [(16, 16), (17, 17), (15, 15), (6, 6), (14, 14), (0, 0), (1, 1), (2, 2), (3, 3), (12, 12), (13, 13), (18, 18), (19, 19)], [], []⟩))]
noncomputable def lEachH_L7 : List Lf :=
  [(.cut [((.lt (.v 34) (.v 1)), .true), ((.le (.v 1) (.v 25)), .true), ((.ap 20 (.v 0) (.v 1) (.c 0) (.c 0) (.c 0) (.c 0)), .true), ((.le (.v 1) (.c 300)), .true), ((.le (.v 1) (.v 3)), .true), ((.le (.c 0) (.v 3)), .true)] 7 ⟨⟨[(34, (.op .add (.v 34) (.c 1)))], []⟩, [(21, 21), (22, 22), (20, 20), (8, 8), (19, 19), (0, 0), (1, 1), (2, 2), (5, 5), (17, 17), (18, 18), (23, 23), (24, 24), (4, 4)], [], []⟩ [] (shT lEachH_T7 ⟨⟨[(34, (.op .add (.v 34) (.c 1)))], []⟩, [(21, 21), (22, 22), (20, 20), (8, 8), (19, 19), (0, 0), (1, 1), (2, 2), (5, 5), (17, 17), (18, 18), (23, 23), (24, 24), (4, 4)], [], []⟩)), (.cut [((.eq (.v 34) (.v 1)), .true), ((.lt (.v 34) (.v 1)), .false), ((.le (.v 1) (.v 25)), .true), ((.ap 20 (.v 0) (.v 1) (.c 0) (.c 0) (.c 0) (.c 0)), .true), ((.le (.v 1) (.c 300)), .true), ((.le (.v 1) (.v 3)), .true), ((.le (.c 0) (.v 3)), .true)] 9 ⟨⟨[], []⟩, [(4, 4), (8, 8), (19, 19), (0, 0), (1, 1), (2, 2), (5, 5), (25, 25)], [], []⟩ [] (shT lEachH_T9 ⟨⟨[], []⟩, [(4, 4), (8, 8), (19, 19), (0, 0), (1, 1), (2, 2), (5, 5), (25, 25)], [], []⟩)), (.fin [((.eq (.v 34) (.v 1)), .false), ((.lt (.v 34) (.v 1)), .false), ((.le (.v 1) (.v 25)), .true), ((.ap 20 (.v 0) (.v 1) (.c 0) (.c 0) (.c 0) (.c 0)), .true), ((.le (.v 1) (.c 300)), .true), ((.le (.v 1) (.v 3)), .true), ((.le (.c 0) (.v 3)), .true)] 0 ⟨⟨[], []⟩, [], [], []⟩ [(.eb (.c .true) (.c .false))] [])]
noncomputable def lEachH_L8 : List Lf :=
  [(.cut [((.ap 20 (.v 0) (.v 1) (.c 0) (.c 0) (.c 0) (.c 0)), .false), ((.le (.v 1) (.c 300)), .true), ((.le (.v 1) (.v 3)), .true), ((.le (.c 0) (.v 3)), .true)] 10 ⟨⟨[], []⟩, [(6, 6), (14, 14), (0, 0), (1, 1), (2, 2), (3, 3), (20, 20)], [], []⟩ [] (shT lEachH_T10 ⟨⟨[], []⟩, [(6, 6), (14, 14), (0, 0), (1, 1), (2, 2), (3, 3), (20, 20)], [], []⟩))]
noncomputable def lEachH_L9 : List Lf :=
  [(.fin [((.eq (.v 34) (.v 1)), .true), ((.lt (.v 34) (.v 1)), .false), ((.le (.v 1) (.v 25)), .true), ((.ap 20 (.v 0) (.v 1) (.c 0) (.c 0) (.c 0) (.c 0)), .true), ((.le (.v 1) (.c 300)), .true), ((.le (.v 1) (.v 3)), .true), ((.le (.c 0) (.v 3)), .true)] 0 ⟨⟨[], []⟩, [], [], []⟩ [] [])]
noncomputable def lEachH_L10 : List Lf :=
  [(.fin [((.ap 20 (.v 0) (.v 1) (.c 0) (.c 0) (.c 0) (.c 0)), .false), ((.le (.v 1) (.c 300)), .true), ((.le (.v 1) (.v 3)), .true), ((.le (.c 0) (.v 3)), .true)] 0 ⟨⟨[], []⟩, [], [], []⟩ [] [])]
set_option maxRecDepth 100000 in
theorem lEachH_h0 : (ex (ccOf Try.prog BF [58, 84] lEachH) ((fun cc => [hOf.ent cc, rRight.ent cc, cWorks.ent cc]) (ccOf Try.prog BF [58, 84] lEachH)) (dw (ccOf Try.prog BF [58, 84] lEachH) ((fun cc => [hOf.ent cc, rRight.ent cc, cWorks.ent cc]) (ccOf Try.prog BF [58, 84] lEachH)) 1000 4) (stopX []) 4000 (tm0 lEachH Try.f12 (Try.f12.body.getD .skip)).f (tm0 lEachH Try.f12 (Try.f12.body.getD .skip)).fs (tm0 lEachH Try.f12 (Try.f12.body.getD .skip)).H).lfs (ccOf Try.prog BF [58, 84] lEachH) ((tm0 lEachH Try.f12 (Try.f12.body.getD .skip)) :: [lEachH_T1, lEachH_T2, lEachH_T3, lEachH_T4, lEachH_T5, lEachH_T6, lEachH_T7, lEachH_T8, lEachH_T9, lEachH_T10]) lEachH.os = some lEachH_L0 := by kernel_rfl
set_option maxRecDepth 100000 in
theorem lEachH_h1 : (ex (ccOf Try.prog BF [58, 84] lEachH) ((fun cc => [hOf.ent cc, rRight.ent cc, cWorks.ent cc]) (ccOf Try.prog BF [58, 84] lEachH)) (dw (ccOf Try.prog BF [58, 84] lEachH) ((fun cc => [hOf.ent cc, rRight.ent cc, cWorks.ent cc]) (ccOf Try.prog BF [58, 84] lEachH)) 1000 4) (stopX []) 4000 lEachH_T1.f lEachH_T1.fs lEachH_T1.H).lfs (ccOf Try.prog BF [58, 84] lEachH) ((tm0 lEachH Try.f12 (Try.f12.body.getD .skip)) :: [lEachH_T1, lEachH_T2, lEachH_T3, lEachH_T4, lEachH_T5, lEachH_T6, lEachH_T7, lEachH_T8, lEachH_T9, lEachH_T10]) lEachH.os = some lEachH_L1 := by kernel_rfl
set_option maxRecDepth 100000 in
theorem lEachH_h2 : (ex (ccOf Try.prog BF [58, 84] lEachH) ((fun cc => [hOf.ent cc, rRight.ent cc, cWorks.ent cc]) (ccOf Try.prog BF [58, 84] lEachH)) (dw (ccOf Try.prog BF [58, 84] lEachH) ((fun cc => [hOf.ent cc, rRight.ent cc, cWorks.ent cc]) (ccOf Try.prog BF [58, 84] lEachH)) 1000 4) (stopX []) 4000 lEachH_T2.f lEachH_T2.fs lEachH_T2.H).lfs (ccOf Try.prog BF [58, 84] lEachH) ((tm0 lEachH Try.f12 (Try.f12.body.getD .skip)) :: [lEachH_T1, lEachH_T2, lEachH_T3, lEachH_T4, lEachH_T5, lEachH_T6, lEachH_T7, lEachH_T8, lEachH_T9, lEachH_T10]) lEachH.os = some lEachH_L2 := by kernel_rfl
set_option maxRecDepth 100000 in
theorem lEachH_h3 : (ex (ccOf Try.prog BF [58, 84] lEachH) ((fun cc => [hOf.ent cc, rRight.ent cc, cWorks.ent cc]) (ccOf Try.prog BF [58, 84] lEachH)) (dw (ccOf Try.prog BF [58, 84] lEachH) ((fun cc => [hOf.ent cc, rRight.ent cc, cWorks.ent cc]) (ccOf Try.prog BF [58, 84] lEachH)) 1000 4) (stopX []) 4000 lEachH_T3.f lEachH_T3.fs lEachH_T3.H).lfs (ccOf Try.prog BF [58, 84] lEachH) ((tm0 lEachH Try.f12 (Try.f12.body.getD .skip)) :: [lEachH_T1, lEachH_T2, lEachH_T3, lEachH_T4, lEachH_T5, lEachH_T6, lEachH_T7, lEachH_T8, lEachH_T9, lEachH_T10]) lEachH.os = some lEachH_L3 := by kernel_rfl
set_option maxRecDepth 100000 in
theorem lEachH_h4 : (ex (ccOf Try.prog BF [58, 84] lEachH) ((fun cc => [hOf.ent cc, rRight.ent cc, cWorks.ent cc]) (ccOf Try.prog BF [58, 84] lEachH)) (dw (ccOf Try.prog BF [58, 84] lEachH) ((fun cc => [hOf.ent cc, rRight.ent cc, cWorks.ent cc]) (ccOf Try.prog BF [58, 84] lEachH)) 1000 4) (stopX []) 4000 lEachH_T4.f lEachH_T4.fs lEachH_T4.H).lfs (ccOf Try.prog BF [58, 84] lEachH) ((tm0 lEachH Try.f12 (Try.f12.body.getD .skip)) :: [lEachH_T1, lEachH_T2, lEachH_T3, lEachH_T4, lEachH_T5, lEachH_T6, lEachH_T7, lEachH_T8, lEachH_T9, lEachH_T10]) lEachH.os = some lEachH_L4 := by kernel_rfl
set_option maxRecDepth 100000 in
theorem lEachH_h5 : (ex (ccOf Try.prog BF [58, 84] lEachH) ((fun cc => [hOf.ent cc, rRight.ent cc, cWorks.ent cc]) (ccOf Try.prog BF [58, 84] lEachH)) (dw (ccOf Try.prog BF [58, 84] lEachH) ((fun cc => [hOf.ent cc, rRight.ent cc, cWorks.ent cc]) (ccOf Try.prog BF [58, 84] lEachH)) 1000 4) (stopX []) 4000 lEachH_T5.f lEachH_T5.fs lEachH_T5.H).lfs (ccOf Try.prog BF [58, 84] lEachH) ((tm0 lEachH Try.f12 (Try.f12.body.getD .skip)) :: [lEachH_T1, lEachH_T2, lEachH_T3, lEachH_T4, lEachH_T5, lEachH_T6, lEachH_T7, lEachH_T8, lEachH_T9, lEachH_T10]) lEachH.os = some lEachH_L5 := by kernel_rfl
set_option maxRecDepth 100000 in
theorem lEachH_h6 : (ex (ccOf Try.prog BF [58, 84] lEachH) ((fun cc => [hOf.ent cc, rRight.ent cc, cWorks.ent cc]) (ccOf Try.prog BF [58, 84] lEachH)) (dw (ccOf Try.prog BF [58, 84] lEachH) ((fun cc => [hOf.ent cc, rRight.ent cc, cWorks.ent cc]) (ccOf Try.prog BF [58, 84] lEachH)) 1000 4) (stopX []) 4000 lEachH_T6.f lEachH_T6.fs lEachH_T6.H).lfs (ccOf Try.prog BF [58, 84] lEachH) ((tm0 lEachH Try.f12 (Try.f12.body.getD .skip)) :: [lEachH_T1, lEachH_T2, lEachH_T3, lEachH_T4, lEachH_T5, lEachH_T6, lEachH_T7, lEachH_T8, lEachH_T9, lEachH_T10]) lEachH.os = some lEachH_L6 := by kernel_rfl
set_option maxRecDepth 100000 in
theorem lEachH_h7 : (ex (ccOf Try.prog BF [58, 84] lEachH) ((fun cc => [hOf.ent cc, rRight.ent cc, cWorks.ent cc]) (ccOf Try.prog BF [58, 84] lEachH)) (dw (ccOf Try.prog BF [58, 84] lEachH) ((fun cc => [hOf.ent cc, rRight.ent cc, cWorks.ent cc]) (ccOf Try.prog BF [58, 84] lEachH)) 1000 4) (stopX []) 4000 lEachH_T7.f lEachH_T7.fs lEachH_T7.H).lfs (ccOf Try.prog BF [58, 84] lEachH) ((tm0 lEachH Try.f12 (Try.f12.body.getD .skip)) :: [lEachH_T1, lEachH_T2, lEachH_T3, lEachH_T4, lEachH_T5, lEachH_T6, lEachH_T7, lEachH_T8, lEachH_T9, lEachH_T10]) lEachH.os = some lEachH_L7 := by kernel_rfl
set_option maxRecDepth 100000 in
theorem lEachH_h8 : (ex (ccOf Try.prog BF [58, 84] lEachH) ((fun cc => [hOf.ent cc, rRight.ent cc, cWorks.ent cc]) (ccOf Try.prog BF [58, 84] lEachH)) (dw (ccOf Try.prog BF [58, 84] lEachH) ((fun cc => [hOf.ent cc, rRight.ent cc, cWorks.ent cc]) (ccOf Try.prog BF [58, 84] lEachH)) 1000 4) (stopX []) 4000 lEachH_T8.f lEachH_T8.fs lEachH_T8.H).lfs (ccOf Try.prog BF [58, 84] lEachH) ((tm0 lEachH Try.f12 (Try.f12.body.getD .skip)) :: [lEachH_T1, lEachH_T2, lEachH_T3, lEachH_T4, lEachH_T5, lEachH_T6, lEachH_T7, lEachH_T8, lEachH_T9, lEachH_T10]) lEachH.os = some lEachH_L8 := by kernel_rfl
set_option maxRecDepth 100000 in
theorem lEachH_h9 : (ex (ccOf Try.prog BF [58, 84] lEachH) ((fun cc => [hOf.ent cc, rRight.ent cc, cWorks.ent cc]) (ccOf Try.prog BF [58, 84] lEachH)) (dw (ccOf Try.prog BF [58, 84] lEachH) ((fun cc => [hOf.ent cc, rRight.ent cc, cWorks.ent cc]) (ccOf Try.prog BF [58, 84] lEachH)) 1000 4) (stopX []) 4000 lEachH_T9.f lEachH_T9.fs lEachH_T9.H).lfs (ccOf Try.prog BF [58, 84] lEachH) ((tm0 lEachH Try.f12 (Try.f12.body.getD .skip)) :: [lEachH_T1, lEachH_T2, lEachH_T3, lEachH_T4, lEachH_T5, lEachH_T6, lEachH_T7, lEachH_T8, lEachH_T9, lEachH_T10]) lEachH.os = some lEachH_L9 := by kernel_rfl
set_option maxRecDepth 100000 in
theorem lEachH_h10 : (ex (ccOf Try.prog BF [58, 84] lEachH) ((fun cc => [hOf.ent cc, rRight.ent cc, cWorks.ent cc]) (ccOf Try.prog BF [58, 84] lEachH)) (dw (ccOf Try.prog BF [58, 84] lEachH) ((fun cc => [hOf.ent cc, rRight.ent cc, cWorks.ent cc]) (ccOf Try.prog BF [58, 84] lEachH)) 1000 4) (stopX []) 4000 lEachH_T10.f lEachH_T10.fs lEachH_T10.H).lfs (ccOf Try.prog BF [58, 84] lEachH) ((tm0 lEachH Try.f12 (Try.f12.body.getD .skip)) :: [lEachH_T1, lEachH_T2, lEachH_T3, lEachH_T4, lEachH_T5, lEachH_T6, lEachH_T7, lEachH_T8, lEachH_T9, lEachH_T10]) lEachH.os = some lEachH_L10 := by kernel_rfl
def lEachH_inv : (Nat → Int) → (Nat → Bool) → Nat → (Nat → Int) → (Nat → Bool) → Prop := fun iv0 _ k iv _ => match k with
  | 3 => 0 ≤ iv 28 ∧ iv 28 ≤ iv0 1 ∧ (iv 28 = 0 ∨ iv 28 < iv0 4)
  | 7 => 0 ≤ iv 34 ∧ iv 34 ≤ iv0 1
  | 9 => 0 ≤ iv 34
  | _ => True
def lEachH_mu : (Nat → Int) → (Nat → Bool) → Nat → (Nat → Int) → (Nat → Bool) → Nat := fun iv0 _ k iv _ => match k with
  | 0 => 2 ^ 120 | 1 => 2 ^ 100 | 2 => 2 ^ 100 | 3 => 2 ^ 90 + (iv0 1 - iv 28).toNat | 4 => 2 ^ 90 | 5 => 2 ^ 80 | 6 => 2 ^ 80 | 7 => 2 ^ 70 + (iv0 1 - iv 34).toNat | 8 => 2 ^ 70 | _ => 0
set_option maxHeartbeats 0 in
theorem lEachH_o0 (kv : Kv) (iv0 : Nat → Int) (bv0 : Nat → Bool) (hin : InB lEachH.B iv0) (hF : FT (sta FI FB kv iv0 bv0) (dlt dyn0) lEachH.F) (iv : Nat → Int) (bv : Nat → Bool) (ha : Agr 5 iv0 bv0 iv bv) (hi : lEachH_inv iv0 bv0 0 iv bv) :
    ∀ lf ∈ lEachH_L0, LfT (sta FI FB kv) lEachH.os (lEachH_inv iv0 bv0) (lEachH_mu iv0 bv0) 0 iv bv lf := by
  unfold lEachH_L0
  refine List.forall_mem_cons.2 ⟨?_, List.forall_mem_cons.2 ⟨?_, List.forall_mem_cons.2 ⟨?_, List.forall_mem_nil _⟩⟩⟩
  all_goals
    intro δ hf
  all_goals
    simp only [FT, TP, SB.tp, SI.tv, sta, IB.eval, and_true, true_and, ObsT, Ob.Tv, rowT, kix, In.tiv, ↓tbvT, In.tbv, get_cons, get_nil, reduceIte, Nat.reduceEqDiff, Int.reduceToNat, Int.reduceAdd, Int.reduceSub, Int.reduceLE, Int.reduceLT, Int.reduceEq, ne_eq, Bool.false_eq_true, not_true_eq_false, not_false_eq_true, true_iff, false_iff, iff_true, iff_false, false_implies, implies_true, decT, decide_true, decide_false, Bool.decide_eq_true, ap2, pb2, FI_3, FI_8, FI_9, FI_10, FI_11, FI_12, FI_13, FB_10, FB_11, FB_12, FB_13, FB_14, FB_15, FB_16, FI_20, FI_21, FI_22, FI_23, FI_24, FI_25, FI_26, FB_20, FB_21, FB_22, FB_23, FB_24, FB_25, FB_26, FB_27, FI_27, Int.toNat_natCast, Int.toNat_zero] at hf
  all_goals
    have a0 := ha.1 0 (by omega)
    have a1 := ha.1 1 (by omega)
    have a2 := ha.1 2 (by omega)
    have a3 := ha.1 3 (by omega)
    have a4 := ha.1 4 (by omega)
  all_goals
    have b1 := hin 1 0 9223372036854775807 (by simp [lEachH, bH, gH, fM, lH, nw, ap3, i64b, kH, ap3, pb3, pb4, i64l, bL1])
    simp only [Int.reduceLE, reduceIte, Int.reduceNeg] at b1
  all_goals
    have b4 := hin 4 (-9223372036854775808) 9223372036854775807 (by simp [lEachH, bH, gH, fM, lH, nw, ap3, i64b, kH, ap3, pb3, pb4, i64l, bL1])
    simp only [Int.reduceLE, reduceIte, Int.reduceNeg] at b4
  all_goals
    simp only [FT, TP, SB.tp, SI.tv, sta, IB.eval, and_true, true_and, ObsT, Ob.Tv, rowT, kix, In.tiv, ↓tbvT, In.tbv, get_cons, get_nil, reduceIte, Nat.reduceEqDiff, Int.reduceToNat, Int.reduceAdd, Int.reduceSub, Int.reduceLE, Int.reduceLT, Int.reduceEq, ne_eq, Bool.false_eq_true, not_true_eq_false, not_false_eq_true, true_iff, false_iff, iff_true, iff_false, false_implies, implies_true, decT, decide_true, decide_false, Bool.decide_eq_true, ap2, pb2, FI_3, FI_8, FI_9, FI_10, FI_11, FI_12, FI_13, FB_10, FB_11, FB_12, FB_13, FB_14, FB_15, FB_16, FI_20, FI_21, FI_22, FI_23, FI_24, FI_25, FI_26, FB_20, FB_21, FB_22, FB_23, FB_24, FB_25, FB_26, FB_27, FI_27, Int.toNat_natCast, Int.toNat_zero, lEachH_inv, lEachH_mu, lEachH, o1, othT, bH, gH, fM, lH, nw, ap3, i64b, kH, ap3, pb3, pb4, i64l, bL1, a0, a1, a2, a3, a4] at hf hi ⊢
  all_goals
    (repeat' (with_reducible apply And.intro)) <;> first
    | omega
    | assumption
    | (unfold inM; omega)
    | exact trivial
    | (clear hin hF ha; grind)
set_option maxHeartbeats 0 in
theorem lEachH_o1 (kv : Kv) (iv0 : Nat → Int) (bv0 : Nat → Bool) (hin : InB lEachH.B iv0) (hF : FT (sta FI FB kv iv0 bv0) (dlt dyn0) lEachH.F) (iv : Nat → Int) (bv : Nat → Bool) (ha : Agr 5 iv0 bv0 iv bv) (hi : lEachH_inv iv0 bv0 1 iv bv) :
    ∀ lf ∈ lEachH_L1, LfT (sta FI FB kv) lEachH.os (lEachH_inv iv0 bv0) (lEachH_mu iv0 bv0) 1 iv bv lf := by
  unfold lEachH_L1
  refine List.forall_mem_cons.2 ⟨?_, List.forall_mem_nil _⟩
  all_goals
    intro δ hf
  all_goals
    simp only [FT, TP, SB.tp, SI.tv, sta, IB.eval, and_true, true_and, ObsT, Ob.Tv, rowT, kix, In.tiv, ↓tbvT, In.tbv, get_cons, get_nil, reduceIte, Nat.reduceEqDiff, Int.reduceToNat, Int.reduceAdd, Int.reduceSub, Int.reduceLE, Int.reduceLT, Int.reduceEq, ne_eq, Bool.false_eq_true, not_true_eq_false, not_false_eq_true, true_iff, false_iff, iff_true, iff_false, false_implies, implies_true, decT, decide_true, decide_false, Bool.decide_eq_true, ap2, pb2, FI_3, FI_8, FI_9, FI_10, FI_11, FI_12, FI_13, FB_10, FB_11, FB_12, FB_13, FB_14, FB_15, FB_16, FI_20, FI_21, FI_22, FI_23, FI_24, FI_25, FI_26, FB_20, FB_21, FB_22, FB_23, FB_24, FB_25, FB_26, FB_27, FI_27, Int.toNat_natCast, Int.toNat_zero] at hf
  all_goals
    have a0 := ha.1 0 (by omega)
    have a1 := ha.1 1 (by omega)
    have a2 := ha.1 2 (by omega)
    have a3 := ha.1 3 (by omega)
    have a4 := ha.1 4 (by omega)
  all_goals
    have b1 := hin 1 0 9223372036854775807 (by simp [lEachH, bH, gH, fM, lH, nw, ap3, i64b, kH, ap3, pb3, pb4, i64l, bL1])
    simp only [Int.reduceLE, reduceIte, Int.reduceNeg] at b1
  all_goals
    have b4 := hin 4 (-9223372036854775808) 9223372036854775807 (by simp [lEachH, bH, gH, fM, lH, nw, ap3, i64b, kH, ap3, pb3, pb4, i64l, bL1])
    simp only [Int.reduceLE, reduceIte, Int.reduceNeg] at b4
  all_goals
    simp only [FT, TP, SB.tp, SI.tv, sta, IB.eval, and_true, true_and, ObsT, Ob.Tv, rowT, kix, In.tiv, ↓tbvT, In.tbv, get_cons, get_nil, reduceIte, Nat.reduceEqDiff, Int.reduceToNat, Int.reduceAdd, Int.reduceSub, Int.reduceLE, Int.reduceLT, Int.reduceEq, ne_eq, Bool.false_eq_true, not_true_eq_false, not_false_eq_true, true_iff, false_iff, iff_true, iff_false, false_implies, implies_true, decT, decide_true, decide_false, Bool.decide_eq_true, ap2, pb2, FI_3, FI_8, FI_9, FI_10, FI_11, FI_12, FI_13, FB_10, FB_11, FB_12, FB_13, FB_14, FB_15, FB_16, FI_20, FI_21, FI_22, FI_23, FI_24, FI_25, FI_26, FB_20, FB_21, FB_22, FB_23, FB_24, FB_25, FB_26, FB_27, FI_27, Int.toNat_natCast, Int.toNat_zero, lEachH_inv, lEachH_mu, lEachH, o1, othT, bH, gH, fM, lH, nw, ap3, i64b, kH, ap3, pb3, pb4, i64l, bL1, a0, a1, a2, a3, a4] at hf hi ⊢
  all_goals
    (repeat' (with_reducible apply And.intro)) <;> first
    | omega
    | assumption
    | (unfold inM; omega)
    | exact trivial
    | (clear hin hF ha; grind)
set_option maxHeartbeats 0 in
theorem lEachH_o2 (kv : Kv) (iv0 : Nat → Int) (bv0 : Nat → Bool) (hin : InB lEachH.B iv0) (hF : FT (sta FI FB kv iv0 bv0) (dlt dyn0) lEachH.F) (iv : Nat → Int) (bv : Nat → Bool) (ha : Agr 5 iv0 bv0 iv bv) (hi : lEachH_inv iv0 bv0 2 iv bv) :
    ∀ lf ∈ lEachH_L2, LfT (sta FI FB kv) lEachH.os (lEachH_inv iv0 bv0) (lEachH_mu iv0 bv0) 2 iv bv lf := by
  unfold lEachH_L2
  refine List.forall_mem_cons.2 ⟨?_, List.forall_mem_nil _⟩
  all_goals
    intro δ hf
  all_goals
    simp only [FT, TP, SB.tp, SI.tv, sta, IB.eval, and_true, true_and, ObsT, Ob.Tv, rowT, kix, In.tiv, ↓tbvT, In.tbv, get_cons, get_nil, reduceIte, Nat.reduceEqDiff, Int.reduceToNat, Int.reduceAdd, Int.reduceSub, Int.reduceLE, Int.reduceLT, Int.reduceEq, ne_eq, Bool.false_eq_true, not_true_eq_false, not_false_eq_true, true_iff, false_iff, iff_true, iff_false, false_implies, implies_true, decT, decide_true, decide_false, Bool.decide_eq_true, ap2, pb2, FI_3, FI_8, FI_9, FI_10, FI_11, FI_12, FI_13, FB_10, FB_11, FB_12, FB_13, FB_14, FB_15, FB_16, FI_20, FI_21, FI_22, FI_23, FI_24, FI_25, FI_26, FB_20, FB_21, FB_22, FB_23, FB_24, FB_25, FB_26, FB_27, FI_27, Int.toNat_natCast, Int.toNat_zero] at hf
  all_goals
    have a0 := ha.1 0 (by omega)
    have a1 := ha.1 1 (by omega)
    have a2 := ha.1 2 (by omega)
    have a3 := ha.1 3 (by omega)
    have a4 := ha.1 4 (by omega)
  all_goals
    have b1 := hin 1 0 9223372036854775807 (by simp [lEachH, bH, gH, fM, lH, nw, ap3, i64b, kH, ap3, pb3, pb4, i64l, bL1])
    simp only [Int.reduceLE, reduceIte, Int.reduceNeg] at b1
  all_goals
    have b4 := hin 4 (-9223372036854775808) 9223372036854775807 (by simp [lEachH, bH, gH, fM, lH, nw, ap3, i64b, kH, ap3, pb3, pb4, i64l, bL1])
    simp only [Int.reduceLE, reduceIte, Int.reduceNeg] at b4
  all_goals
    simp only [FT, TP, SB.tp, SI.tv, sta, IB.eval, and_true, true_and, ObsT, Ob.Tv, rowT, kix, In.tiv, ↓tbvT, In.tbv, get_cons, get_nil, reduceIte, Nat.reduceEqDiff, Int.reduceToNat, Int.reduceAdd, Int.reduceSub, Int.reduceLE, Int.reduceLT, Int.reduceEq, ne_eq, Bool.false_eq_true, not_true_eq_false, not_false_eq_true, true_iff, false_iff, iff_true, iff_false, false_implies, implies_true, decT, decide_true, decide_false, Bool.decide_eq_true, ap2, pb2, FI_3, FI_8, FI_9, FI_10, FI_11, FI_12, FI_13, FB_10, FB_11, FB_12, FB_13, FB_14, FB_15, FB_16, FI_20, FI_21, FI_22, FI_23, FI_24, FI_25, FI_26, FB_20, FB_21, FB_22, FB_23, FB_24, FB_25, FB_26, FB_27, FI_27, Int.toNat_natCast, Int.toNat_zero, lEachH_inv, lEachH_mu, lEachH, o1, othT, bH, gH, fM, lH, nw, ap3, i64b, kH, ap3, pb3, pb4, i64l, bL1, a0, a1, a2, a3, a4] at hf hi ⊢
  all_goals
    (repeat' (with_reducible apply And.intro)) <;> first
    | omega
    | assumption
    | (unfold inM; omega)
    | exact trivial
    | (clear hin hF ha; grind)
set_option maxHeartbeats 0 in
theorem lEachH_o3 (kv : Kv) (iv0 : Nat → Int) (bv0 : Nat → Bool) (hin : InB lEachH.B iv0) (hF : FT (sta FI FB kv iv0 bv0) (dlt dyn0) lEachH.F) (iv : Nat → Int) (bv : Nat → Bool) (ha : Agr 5 iv0 bv0 iv bv) (hi : lEachH_inv iv0 bv0 3 iv bv) :
    ∀ lf ∈ lEachH_L3, LfT (sta FI FB kv) lEachH.os (lEachH_inv iv0 bv0) (lEachH_mu iv0 bv0) 3 iv bv lf := by
  unfold lEachH_L3
  refine List.forall_mem_cons.2 ⟨?_, List.forall_mem_cons.2 ⟨?_, List.forall_mem_cons.2 ⟨?_, List.forall_mem_cons.2 ⟨?_, List.forall_mem_cons.2 ⟨?_, List.forall_mem_nil _⟩⟩⟩⟩⟩
  all_goals
    intro δ hf
  all_goals
    simp only [FT, TP, SB.tp, SI.tv, sta, IB.eval, and_true, true_and, ObsT, Ob.Tv, rowT, kix, In.tiv, ↓tbvT, In.tbv, get_cons, get_nil, reduceIte, Nat.reduceEqDiff, Int.reduceToNat, Int.reduceAdd, Int.reduceSub, Int.reduceLE, Int.reduceLT, Int.reduceEq, ne_eq, Bool.false_eq_true, not_true_eq_false, not_false_eq_true, true_iff, false_iff, iff_true, iff_false, false_implies, implies_true, decT, decide_true, decide_false, Bool.decide_eq_true, ap2, pb2, FI_3, FI_8, FI_9, FI_10, FI_11, FI_12, FI_13, FB_10, FB_11, FB_12, FB_13, FB_14, FB_15, FB_16, FI_20, FI_21, FI_22, FI_23, FI_24, FI_25, FI_26, FB_20, FB_21, FB_22, FB_23, FB_24, FB_25, FB_26, FB_27, FI_27, Int.toNat_natCast, Int.toNat_zero] at hf
  all_goals
    have a0 := ha.1 0 (by omega)
    have a1 := ha.1 1 (by omega)
    have a2 := ha.1 2 (by omega)
    have a3 := ha.1 3 (by omega)
    have a4 := ha.1 4 (by omega)
  all_goals
    have b1 := hin 1 0 9223372036854775807 (by simp [lEachH, bH, gH, fM, lH, nw, ap3, i64b, kH, ap3, pb3, pb4, i64l, bL1])
    simp only [Int.reduceLE, reduceIte, Int.reduceNeg] at b1
  all_goals
    have b4 := hin 4 (-9223372036854775808) 9223372036854775807 (by simp [lEachH, bH, gH, fM, lH, nw, ap3, i64b, kH, ap3, pb3, pb4, i64l, bL1])
    simp only [Int.reduceLE, reduceIte, Int.reduceNeg] at b4
  all_goals
    simp only [FT, TP, SB.tp, SI.tv, sta, IB.eval, and_true, true_and, ObsT, Ob.Tv, rowT, kix, In.tiv, ↓tbvT, In.tbv, get_cons, get_nil, reduceIte, Nat.reduceEqDiff, Int.reduceToNat, Int.reduceAdd, Int.reduceSub, Int.reduceLE, Int.reduceLT, Int.reduceEq, ne_eq, Bool.false_eq_true, not_true_eq_false, not_false_eq_true, true_iff, false_iff, iff_true, iff_false, false_implies, implies_true, decT, decide_true, decide_false, Bool.decide_eq_true, ap2, pb2, FI_3, FI_8, FI_9, FI_10, FI_11, FI_12, FI_13, FB_10, FB_11, FB_12, FB_13, FB_14, FB_15, FB_16, FI_20, FI_21, FI_22, FI_23, FI_24, FI_25, FI_26, FB_20, FB_21, FB_22, FB_23, FB_24, FB_25, FB_26, FB_27, FI_27, Int.toNat_natCast, Int.toNat_zero, lEachH_inv, lEachH_mu, lEachH, o1, othT, bH, gH, fM, lH, nw, ap3, i64b, kH, ap3, pb3, pb4, i64l, bL1, a0, a1, a2, a3, a4] at hf hi ⊢
  all_goals
    (repeat' (with_reducible apply And.intro)) <;> first
    | omega
    | assumption
    | (unfold inM; omega)
    | exact trivial
    | (clear hin hF ha; grind)
set_option maxHeartbeats 0 in
theorem lEachH_o4 (kv : Kv) (iv0 : Nat → Int) (bv0 : Nat → Bool) (hin : InB lEachH.B iv0) (hF : FT (sta FI FB kv iv0 bv0) (dlt dyn0) lEachH.F) (iv : Nat → Int) (bv : Nat → Bool) (ha : Agr 5 iv0 bv0 iv bv) (hi : lEachH_inv iv0 bv0 4 iv bv) :
    ∀ lf ∈ lEachH_L4, LfT (sta FI FB kv) lEachH.os (lEachH_inv iv0 bv0) (lEachH_mu iv0 bv0) 4 iv bv lf := by
  unfold lEachH_L4
  refine List.forall_mem_cons.2 ⟨?_, List.forall_mem_nil _⟩
  all_goals
    intro δ hf
  all_goals
    simp only [FT, TP, SB.tp, SI.tv, sta, IB.eval, and_true, true_and, ObsT, Ob.Tv, rowT, kix, In.tiv, ↓tbvT, In.tbv, get_cons, get_nil, reduceIte, Nat.reduceEqDiff, Int.reduceToNat, Int.reduceAdd, Int.reduceSub, Int.reduceLE, Int.reduceLT, Int.reduceEq, ne_eq, Bool.false_eq_true, not_true_eq_false, not_false_eq_true, true_iff, false_iff, iff_true, iff_false, false_implies, implies_true, decT, decide_true, decide_false, Bool.decide_eq_true, ap2, pb2, FI_3, FI_8, FI_9, FI_10, FI_11, FI_12, FI_13, FB_10, FB_11, FB_12, FB_13, FB_14, FB_15, FB_16, FI_20, FI_21, FI_22, FI_23, FI_24, FI_25, FI_26, FB_20, FB_21, FB_22, FB_23, FB_24, FB_25, FB_26, FB_27, FI_27, Int.toNat_natCast, Int.toNat_zero] at hf
  all_goals
    have a0 := ha.1 0 (by omega)
    have a1 := ha.1 1 (by omega)
    have a2 := ha.1 2 (by omega)
    have a3 := ha.1 3 (by omega)
    have a4 := ha.1 4 (by omega)
  all_goals
    have b1 := hin 1 0 9223372036854775807 (by simp [lEachH, bH, gH, fM, lH, nw, ap3, i64b, kH, ap3, pb3, pb4, i64l, bL1])
    simp only [Int.reduceLE, reduceIte, Int.reduceNeg] at b1
  all_goals
    have b4 := hin 4 (-9223372036854775808) 9223372036854775807 (by simp [lEachH, bH, gH, fM, lH, nw, ap3, i64b, kH, ap3, pb3, pb4, i64l, bL1])
    simp only [Int.reduceLE, reduceIte, Int.reduceNeg] at b4
  all_goals
    simp only [FT, TP, SB.tp, SI.tv, sta, IB.eval, and_true, true_and, ObsT, Ob.Tv, rowT, kix, In.tiv, ↓tbvT, In.tbv, get_cons, get_nil, reduceIte, Nat.reduceEqDiff, Int.reduceToNat, Int.reduceAdd, Int.reduceSub, Int.reduceLE, Int.reduceLT, Int.reduceEq, ne_eq, Bool.false_eq_true, not_true_eq_false, not_false_eq_true, true_iff, false_iff, iff_true, iff_false, false_implies, implies_true, decT, decide_true, decide_false, Bool.decide_eq_true, ap2, pb2, FI_3, FI_8, FI_9, FI_10, FI_11, FI_12, FI_13, FB_10, FB_11, FB_12, FB_13, FB_14, FB_15, FB_16, FI_20, FI_21, FI_22, FI_23, FI_24, FI_25, FI_26, FB_20, FB_21, FB_22, FB_23, FB_24, FB_25, FB_26, FB_27, FI_27, Int.toNat_natCast, Int.toNat_zero, lEachH_inv, lEachH_mu, lEachH, o1, othT, bH, gH, fM, lH, nw, ap3, i64b, kH, ap3, pb3, pb4, i64l, bL1, a0, a1, a2, a3, a4] at hf hi ⊢
  all_goals
    (repeat' (with_reducible apply And.intro)) <;> first
    | omega
    | assumption
    | (unfold inM; omega)
    | exact trivial
    | (clear hin hF ha; grind)
set_option maxHeartbeats 0 in
theorem lEachH_o5 (kv : Kv) (iv0 : Nat → Int) (bv0 : Nat → Bool) (hin : InB lEachH.B iv0) (hF : FT (sta FI FB kv iv0 bv0) (dlt dyn0) lEachH.F) (iv : Nat → Int) (bv : Nat → Bool) (ha : Agr 5 iv0 bv0 iv bv) (hi : lEachH_inv iv0 bv0 5 iv bv) :
    ∀ lf ∈ lEachH_L5, LfT (sta FI FB kv) lEachH.os (lEachH_inv iv0 bv0) (lEachH_mu iv0 bv0) 5 iv bv lf := by
  unfold lEachH_L5
  refine List.forall_mem_cons.2 ⟨?_, List.forall_mem_nil _⟩
  all_goals
    intro δ hf
  all_goals
    simp only [FT, TP, SB.tp, SI.tv, sta, IB.eval, and_true, true_and, ObsT, Ob.Tv, rowT, kix, In.tiv, ↓tbvT, In.tbv, get_cons, get_nil, reduceIte, Nat.reduceEqDiff, Int.reduceToNat, Int.reduceAdd, Int.reduceSub, Int.reduceLE, Int.reduceLT, Int.reduceEq, ne_eq, Bool.false_eq_true, not_true_eq_false, not_false_eq_true, true_iff, false_iff, iff_true, iff_false, false_implies, implies_true, decT, decide_true, decide_false, Bool.decide_eq_true, ap2, pb2, FI_3, FI_8, FI_9, FI_10, FI_11, FI_12, FI_13, FB_10, FB_11, FB_12, FB_13, FB_14, FB_15, FB_16, FI_20, FI_21, FI_22, FI_23, FI_24, FI_25, FI_26, FB_20, FB_21, FB_22, FB_23, FB_24, FB_25, FB_26, FB_27, FI_27, Int.toNat_natCast, Int.toNat_zero] at hf
  all_goals
    have a0 := ha.1 0 (by omega)
    have a1 := ha.1 1 (by omega)
    have a2 := ha.1 2 (by omega)
    have a3 := ha.1 3 (by omega)
    have a4 := ha.1 4 (by omega)
  all_goals
    have b1 := hin 1 0 9223372036854775807 (by simp [lEachH, bH, gH, fM, lH, nw, ap3, i64b, kH, ap3, pb3, pb4, i64l, bL1])
    simp only [Int.reduceLE, reduceIte, Int.reduceNeg] at b1
  all_goals
    have b4 := hin 4 (-9223372036854775808) 9223372036854775807 (by simp [lEachH, bH, gH, fM, lH, nw, ap3, i64b, kH, ap3, pb3, pb4, i64l, bL1])
    simp only [Int.reduceLE, reduceIte, Int.reduceNeg] at b4
  all_goals
    simp only [FT, TP, SB.tp, SI.tv, sta, IB.eval, and_true, true_and, ObsT, Ob.Tv, rowT, kix, In.tiv, ↓tbvT, In.tbv, get_cons, get_nil, reduceIte, Nat.reduceEqDiff, Int.reduceToNat, Int.reduceAdd, Int.reduceSub, Int.reduceLE, Int.reduceLT, Int.reduceEq, ne_eq, Bool.false_eq_true, not_true_eq_false, not_false_eq_true, true_iff, false_iff, iff_true, iff_false, false_implies, implies_true, decT, decide_true, decide_false, Bool.decide_eq_true, ap2, pb2, FI_3, FI_8, FI_9, FI_10, FI_11, FI_12, FI_13, FB_10, FB_11, FB_12, FB_13, FB_14, FB_15, FB_16, FI_20, FI_21, FI_22, FI_23, FI_24, FI_25, FI_26, FB_20, FB_21, FB_22, FB_23, FB_24, FB_25, FB_26, FB_27, FI_27, Int.toNat_natCast, Int.toNat_zero, lEachH_inv, lEachH_mu, lEachH, o1, othT, bH, gH, fM, lH, nw, ap3, i64b, kH, ap3, pb3, pb4, i64l, bL1, a0, a1, a2, a3, a4] at hf hi ⊢
  all_goals
    (repeat' (with_reducible apply And.intro)) <;> first
    | omega
    | assumption
    | (unfold inM; omega)
    | exact trivial
    | (clear hin hF ha; grind)
set_option maxHeartbeats 0 in
theorem lEachH_o6 (kv : Kv) (iv0 : Nat → Int) (bv0 : Nat → Bool) (hin : InB lEachH.B iv0) (hF : FT (sta FI FB kv iv0 bv0) (dlt dyn0) lEachH.F) (iv : Nat → Int) (bv : Nat → Bool) (ha : Agr 5 iv0 bv0 iv bv) (hi : lEachH_inv iv0 bv0 6 iv bv) :
    ∀ lf ∈ lEachH_L6, LfT (sta FI FB kv) lEachH.os (lEachH_inv iv0 bv0) (lEachH_mu iv0 bv0) 6 iv bv lf := by
  unfold lEachH_L6
  refine List.forall_mem_cons.2 ⟨?_, List.forall_mem_nil _⟩
  all_goals
    intro δ hf
  all_goals
    simp only [FT, TP, SB.tp, SI.tv, sta, IB.eval, and_true, true_and, ObsT, Ob.Tv, rowT, kix, In.tiv, ↓tbvT, In.tbv, get_cons, get_nil, reduceIte, Nat.reduceEqDiff, Int.reduceToNat, Int.reduceAdd, Int.reduceSub, Int.reduceLE, Int.reduceLT, Int.reduceEq, ne_eq, Bool.false_eq_true, not_true_eq_false, not_false_eq_true, true_iff, false_iff, iff_true, iff_false, false_implies, implies_true, decT, decide_true, decide_false, Bool.decide_eq_true, ap2, pb2, FI_3, FI_8, FI_9, FI_10, FI_11, FI_12, FI_13, FB_10, FB_11, FB_12, FB_13, FB_14, FB_15, FB_16, FI_20, FI_21, FI_22, FI_23, FI_24, FI_25, FI_26, FB_20, FB_21, FB_22, FB_23, FB_24, FB_25, FB_26, FB_27, FI_27, Int.toNat_natCast, Int.toNat_zero] at hf
  all_goals
    have a0 := ha.1 0 (by omega)
    have a1 := ha.1 1 (by omega)
    have a2 := ha.1 2 (by omega)
    have a3 := ha.1 3 (by omega)
    have a4 := ha.1 4 (by omega)
  all_goals
    have b1 := hin 1 0 9223372036854775807 (by simp [lEachH, bH, gH, fM, lH, nw, ap3, i64b, kH, ap3, pb3, pb4, i64l, bL1])
    simp only [Int.reduceLE, reduceIte, Int.reduceNeg] at b1
  all_goals
    have b4 := hin 4 (-9223372036854775808) 9223372036854775807 (by simp [lEachH, bH, gH, fM, lH, nw, ap3, i64b, kH, ap3, pb3, pb4, i64l, bL1])
    simp only [Int.reduceLE, reduceIte, Int.reduceNeg] at b4
  all_goals
    simp only [FT, TP, SB.tp, SI.tv, sta, IB.eval, and_true, true_and, ObsT, Ob.Tv, rowT, kix, In.tiv, ↓tbvT, In.tbv, get_cons, get_nil, reduceIte, Nat.reduceEqDiff, Int.reduceToNat, Int.reduceAdd, Int.reduceSub, Int.reduceLE, Int.reduceLT, Int.reduceEq, ne_eq, Bool.false_eq_true, not_true_eq_false, not_false_eq_true, true_iff, false_iff, iff_true, iff_false, false_implies, implies_true, decT, decide_true, decide_false, Bool.decide_eq_true, ap2, pb2, FI_3, FI_8, FI_9, FI_10, FI_11, FI_12, FI_13, FB_10, FB_11, FB_12, FB_13, FB_14, FB_15, FB_16, FI_20, FI_21, FI_22, FI_23, FI_24, FI_25, FI_26, FB_20, FB_21, FB_22, FB_23, FB_24, FB_25, FB_26, FB_27, FI_27, Int.toNat_natCast, Int.toNat_zero, lEachH_inv, lEachH_mu, lEachH, o1, othT, bH, gH, fM, lH, nw, ap3, i64b, kH, ap3, pb3, pb4, i64l, bL1, a0, a1, a2, a3, a4] at hf hi ⊢
  all_goals
    (repeat' (with_reducible apply And.intro)) <;> first
    | omega
    | assumption
    | (unfold inM; omega)
    | exact trivial
    | (clear hin hF ha; grind)
set_option maxHeartbeats 0 in
theorem lEachH_o7 (kv : Kv) (iv0 : Nat → Int) (bv0 : Nat → Bool) (hin : InB lEachH.B iv0) (hF : FT (sta FI FB kv iv0 bv0) (dlt dyn0) lEachH.F) (iv : Nat → Int) (bv : Nat → Bool) (ha : Agr 5 iv0 bv0 iv bv) (hi : lEachH_inv iv0 bv0 7 iv bv) :
    ∀ lf ∈ lEachH_L7, LfT (sta FI FB kv) lEachH.os (lEachH_inv iv0 bv0) (lEachH_mu iv0 bv0) 7 iv bv lf := by
  unfold lEachH_L7
  refine List.forall_mem_cons.2 ⟨?_, List.forall_mem_cons.2 ⟨?_, List.forall_mem_cons.2 ⟨?_, List.forall_mem_nil _⟩⟩⟩
  all_goals
    intro δ hf
  all_goals
    simp only [FT, TP, SB.tp, SI.tv, sta, IB.eval, and_true, true_and, ObsT, Ob.Tv, rowT, kix, In.tiv, ↓tbvT, In.tbv, get_cons, get_nil, reduceIte, Nat.reduceEqDiff, Int.reduceToNat, Int.reduceAdd, Int.reduceSub, Int.reduceLE, Int.reduceLT, Int.reduceEq, ne_eq, Bool.false_eq_true, not_true_eq_false, not_false_eq_true, true_iff, false_iff, iff_true, iff_false, false_implies, implies_true, decT, decide_true, decide_false, Bool.decide_eq_true, ap2, pb2, FI_3, FI_8, FI_9, FI_10, FI_11, FI_12, FI_13, FB_10, FB_11, FB_12, FB_13, FB_14, FB_15, FB_16, FI_20, FI_21, FI_22, FI_23, FI_24, FI_25, FI_26, FB_20, FB_21, FB_22, FB_23, FB_24, FB_25, FB_26, FB_27, FI_27, Int.toNat_natCast, Int.toNat_zero] at hf
  all_goals
    have a0 := ha.1 0 (by omega)
    have a1 := ha.1 1 (by omega)
    have a2 := ha.1 2 (by omega)
    have a3 := ha.1 3 (by omega)
    have a4 := ha.1 4 (by omega)
  all_goals
    have b1 := hin 1 0 9223372036854775807 (by simp [lEachH, bH, gH, fM, lH, nw, ap3, i64b, kH, ap3, pb3, pb4, i64l, bL1])
    simp only [Int.reduceLE, reduceIte, Int.reduceNeg] at b1
  all_goals
    have b4 := hin 4 (-9223372036854775808) 9223372036854775807 (by simp [lEachH, bH, gH, fM, lH, nw, ap3, i64b, kH, ap3, pb3, pb4, i64l, bL1])
    simp only [Int.reduceLE, reduceIte, Int.reduceNeg] at b4
  all_goals
    simp only [FT, TP, SB.tp, SI.tv, sta, IB.eval, and_true, true_and, ObsT, Ob.Tv, rowT, kix, In.tiv, ↓tbvT, In.tbv, get_cons, get_nil, reduceIte, Nat.reduceEqDiff, Int.reduceToNat, Int.reduceAdd, Int.reduceSub, Int.reduceLE, Int.reduceLT, Int.reduceEq, ne_eq, Bool.false_eq_true, not_true_eq_false, not_false_eq_true, true_iff, false_iff, iff_true, iff_false, false_implies, implies_true, decT, decide_true, decide_false, Bool.decide_eq_true, ap2, pb2, FI_3, FI_8, FI_9, FI_10, FI_11, FI_12, FI_13, FB_10, FB_11, FB_12, FB_13, FB_14, FB_15, FB_16, FI_20, FI_21, FI_22, FI_23, FI_24, FI_25, FI_26, FB_20, FB_21, FB_22, FB_23, FB_24, FB_25, FB_26, FB_27, FI_27, Int.toNat_natCast, Int.toNat_zero, lEachH_inv, lEachH_mu, lEachH, o1, othT, bH, gH, fM, lH, nw, ap3, i64b, kH, ap3, pb3, pb4, i64l, bL1, a0, a1, a2, a3, a4] at hf hi ⊢
  all_goals
    (repeat' (with_reducible apply And.intro)) <;> first
    | omega
    | assumption
    | (unfold inM; omega)
    | exact trivial
    | (clear hin hF ha; grind)
set_option maxHeartbeats 0 in
theorem lEachH_o8 (kv : Kv) (iv0 : Nat → Int) (bv0 : Nat → Bool) (hin : InB lEachH.B iv0) (hF : FT (sta FI FB kv iv0 bv0) (dlt dyn0) lEachH.F) (iv : Nat → Int) (bv : Nat → Bool) (ha : Agr 5 iv0 bv0 iv bv) (hi : lEachH_inv iv0 bv0 8 iv bv) :
    ∀ lf ∈ lEachH_L8, LfT (sta FI FB kv) lEachH.os (lEachH_inv iv0 bv0) (lEachH_mu iv0 bv0) 8 iv bv lf := by
  unfold lEachH_L8
  refine List.forall_mem_cons.2 ⟨?_, List.forall_mem_nil _⟩
  all_goals
    intro δ hf
  all_goals
    simp only [FT, TP, SB.tp, SI.tv, sta, IB.eval, and_true, true_and, ObsT, Ob.Tv, rowT, kix, In.tiv, ↓tbvT, In.tbv, get_cons, get_nil, reduceIte, Nat.reduceEqDiff, Int.reduceToNat, Int.reduceAdd, Int.reduceSub, Int.reduceLE, Int.reduceLT, Int.reduceEq, ne_eq, Bool.false_eq_true, not_true_eq_false, not_false_eq_true, true_iff, false_iff, iff_true, iff_false, false_implies, implies_true, decT, decide_true, decide_false, Bool.decide_eq_true, ap2, pb2, FI_3, FI_8, FI_9, FI_10, FI_11, FI_12, FI_13, FB_10, FB_11, FB_12, FB_13, FB_14, FB_15, FB_16, FI_20, FI_21, FI_22, FI_23, FI_24, FI_25, FI_26, FB_20, FB_21, FB_22, FB_23, FB_24, FB_25, FB_26, FB_27, FI_27, Int.toNat_natCast, Int.toNat_zero] at hf
  all_goals
    have a0 := ha.1 0 (by omega)
    have a1 := ha.1 1 (by omega)
    have a2 := ha.1 2 (by omega)
    have a3 := ha.1 3 (by omega)
    have a4 := ha.1 4 (by omega)
  all_goals
    have b1 := hin 1 0 9223372036854775807 (by simp [lEachH, bH, gH, fM, lH, nw, ap3, i64b, kH, ap3, pb3, pb4, i64l, bL1])
    simp only [Int.reduceLE, reduceIte, Int.reduceNeg] at b1
  all_goals
    have b4 := hin 4 (-9223372036854775808) 9223372036854775807 (by simp [lEachH, bH, gH, fM, lH, nw, ap3, i64b, kH, ap3, pb3, pb4, i64l, bL1])
    simp only [Int.reduceLE, reduceIte, Int.reduceNeg] at b4
  all_goals
    simp only [FT, TP, SB.tp, SI.tv, sta, IB.eval, and_true, true_and, ObsT, Ob.Tv, rowT, kix, In.tiv, ↓tbvT, In.tbv, get_cons, get_nil, reduceIte, Nat.reduceEqDiff, Int.reduceToNat, Int.reduceAdd, Int.reduceSub, Int.reduceLE, Int.reduceLT, Int.reduceEq, ne_eq, Bool.false_eq_true, not_true_eq_false, not_false_eq_true, true_iff, false_iff, iff_true, iff_false, false_implies, implies_true, decT, decide_true, decide_false, Bool.decide_eq_true, ap2, pb2, FI_3, FI_8, FI_9, FI_10, FI_11, FI_12, FI_13, FB_10, FB_11, FB_12, FB_13, FB_14, FB_15, FB_16, FI_20, FI_21, FI_22, FI_23, FI_24, FI_25, FI_26, FB_20, FB_21, FB_22, FB_23, FB_24, FB_25, FB_26, FB_27, FI_27, Int.toNat_natCast, Int.toNat_zero, lEachH_inv, lEachH_mu, lEachH, o1, othT, bH, gH, fM, lH, nw, ap3, i64b, kH, ap3, pb3, pb4, i64l, bL1, a0, a1, a2, a3, a4] at hf hi ⊢
  all_goals
    (repeat' (with_reducible apply And.intro)) <;> first
    | omega
    | assumption
    | (unfold inM; omega)
    | exact trivial
    | (clear hin hF ha; grind)
set_option maxHeartbeats 0 in
theorem lEachH_o9 (kv : Kv) (iv0 : Nat → Int) (bv0 : Nat → Bool) (hin : InB lEachH.B iv0) (hF : FT (sta FI FB kv iv0 bv0) (dlt dyn0) lEachH.F) (iv : Nat → Int) (bv : Nat → Bool) (ha : Agr 5 iv0 bv0 iv bv) (hi : lEachH_inv iv0 bv0 9 iv bv) :
    ∀ lf ∈ lEachH_L9, LfT (sta FI FB kv) lEachH.os (lEachH_inv iv0 bv0) (lEachH_mu iv0 bv0) 9 iv bv lf := by
  unfold lEachH_L9
  refine List.forall_mem_cons.2 ⟨?_, List.forall_mem_nil _⟩
  all_goals
    intro δ hf
  all_goals
    simp only [FT, TP, SB.tp, SI.tv, sta, IB.eval, and_true, true_and, ObsT, Ob.Tv, rowT, kix, In.tiv, ↓tbvT, In.tbv, get_cons, get_nil, reduceIte, Nat.reduceEqDiff, Int.reduceToNat, Int.reduceAdd, Int.reduceSub, Int.reduceLE, Int.reduceLT, Int.reduceEq, ne_eq, Bool.false_eq_true, not_true_eq_false, not_false_eq_true, true_iff, false_iff, iff_true, iff_false, false_implies, implies_true, decT, decide_true, decide_false, Bool.decide_eq_true, ap2, pb2, FI_3, FI_8, FI_9, FI_10, FI_11, FI_12, FI_13, FB_10, FB_11, FB_12, FB_13, FB_14, FB_15, FB_16, FI_20, FI_21, FI_22, FI_23, FI_24, FI_25, FI_26, FB_20, FB_21, FB_22, FB_23, FB_24, FB_25, FB_26, FB_27, FI_27, Int.toNat_natCast, Int.toNat_zero] at hf
  all_goals
    have a0 := ha.1 0 (by omega)
    have a1 := ha.1 1 (by omega)
    have a2 := ha.1 2 (by omega)
    have a3 := ha.1 3 (by omega)
    have a4 := ha.1 4 (by omega)
  all_goals
    have b1 := hin 1 0 9223372036854775807 (by simp [lEachH, bH, gH, fM, lH, nw, ap3, i64b, kH, ap3, pb3, pb4, i64l, bL1])
    simp only [Int.reduceLE, reduceIte, Int.reduceNeg] at b1
  all_goals
    have b4 := hin 4 (-9223372036854775808) 9223372036854775807 (by simp [lEachH, bH, gH, fM, lH, nw, ap3, i64b, kH, ap3, pb3, pb4, i64l, bL1])
    simp only [Int.reduceLE, reduceIte, Int.reduceNeg] at b4
  all_goals
    simp only [FT, TP, SB.tp, SI.tv, sta, IB.eval, and_true, true_and, ObsT, Ob.Tv, rowT, kix, In.tiv, ↓tbvT, In.tbv, get_cons, get_nil, reduceIte, Nat.reduceEqDiff, Int.reduceToNat, Int.reduceAdd, Int.reduceSub, Int.reduceLE, Int.reduceLT, Int.reduceEq, ne_eq, Bool.false_eq_true, not_true_eq_false, not_false_eq_true, true_iff, false_iff, iff_true, iff_false, false_implies, implies_true, decT, decide_true, decide_false, Bool.decide_eq_true, ap2, pb2, FI_3, FI_8, FI_9, FI_10, FI_11, FI_12, FI_13, FB_10, FB_11, FB_12, FB_13, FB_14, FB_15, FB_16, FI_20, FI_21, FI_22, FI_23, FI_24, FI_25, FI_26, FB_20, FB_21, FB_22, FB_23, FB_24, FB_25, FB_26, FB_27, FI_27, Int.toNat_natCast, Int.toNat_zero, lEachH_inv, lEachH_mu, lEachH, o1, othT, bH, gH, fM, lH, nw, ap3, i64b, kH, ap3, pb3, pb4, i64l, bL1, a0, a1, a2, a3, a4] at hf hi ⊢
  all_goals
    (repeat' (with_reducible apply And.intro)) <;> first
    | omega
    | assumption
    | (unfold inM; omega)
    | exact trivial
    | (clear hin hF ha; grind)
set_option maxHeartbeats 0 in
theorem lEachH_o10 (kv : Kv) (iv0 : Nat → Int) (bv0 : Nat → Bool) (hin : InB lEachH.B iv0) (hF : FT (sta FI FB kv iv0 bv0) (dlt dyn0) lEachH.F) (iv : Nat → Int) (bv : Nat → Bool) (ha : Agr 5 iv0 bv0 iv bv) (hi : lEachH_inv iv0 bv0 10 iv bv) :
    ∀ lf ∈ lEachH_L10, LfT (sta FI FB kv) lEachH.os (lEachH_inv iv0 bv0) (lEachH_mu iv0 bv0) 10 iv bv lf := by
  unfold lEachH_L10
  refine List.forall_mem_cons.2 ⟨?_, List.forall_mem_nil _⟩
  all_goals
    intro δ hf
  all_goals
    simp only [FT, TP, SB.tp, SI.tv, sta, IB.eval, and_true, true_and, ObsT, Ob.Tv, rowT, kix, In.tiv, ↓tbvT, In.tbv, get_cons, get_nil, reduceIte, Nat.reduceEqDiff, Int.reduceToNat, Int.reduceAdd, Int.reduceSub, Int.reduceLE, Int.reduceLT, Int.reduceEq, ne_eq, Bool.false_eq_true, not_true_eq_false, not_false_eq_true, true_iff, false_iff, iff_true, iff_false, false_implies, implies_true, decT, decide_true, decide_false, Bool.decide_eq_true, ap2, pb2, FI_3, FI_8, FI_9, FI_10, FI_11, FI_12, FI_13, FB_10, FB_11, FB_12, FB_13, FB_14, FB_15, FB_16, FI_20, FI_21, FI_22, FI_23, FI_24, FI_25, FI_26, FB_20, FB_21, FB_22, FB_23, FB_24, FB_25, FB_26, FB_27, FI_27, Int.toNat_natCast, Int.toNat_zero] at hf
  all_goals
    have a0 := ha.1 0 (by omega)
    have a1 := ha.1 1 (by omega)
    have a2 := ha.1 2 (by omega)
    have a3 := ha.1 3 (by omega)
    have a4 := ha.1 4 (by omega)
  all_goals
    have b1 := hin 1 0 9223372036854775807 (by simp [lEachH, bH, gH, fM, lH, nw, ap3, i64b, kH, ap3, pb3, pb4, i64l, bL1])
    simp only [Int.reduceLE, reduceIte, Int.reduceNeg] at b1
  all_goals
    have b4 := hin 4 (-9223372036854775808) 9223372036854775807 (by simp [lEachH, bH, gH, fM, lH, nw, ap3, i64b, kH, ap3, pb3, pb4, i64l, bL1])
    simp only [Int.reduceLE, reduceIte, Int.reduceNeg] at b4
  all_goals
    simp only [FT, TP, SB.tp, SI.tv, sta, IB.eval, and_true, true_and, ObsT, Ob.Tv, rowT, kix, In.tiv, ↓tbvT, In.tbv, get_cons, get_nil, reduceIte, Nat.reduceEqDiff, Int.reduceToNat, Int.reduceAdd, Int.reduceSub, Int.reduceLE, Int.reduceLT, Int.reduceEq, ne_eq, Bool.false_eq_true, not_true_eq_false, not_false_eq_true, true_iff, false_iff, iff_true, iff_false, false_implies, implies_true, decT, decide_true, decide_false, Bool.decide_eq_true, ap2, pb2, FI_3, FI_8, FI_9, FI_10, FI_11, FI_12, FI_13, FB_10, FB_11, FB_12, FB_13, FB_14, FB_15, FB_16, FI_20, FI_21, FI_22, FI_23, FI_24, FI_25, FI_26, FB_20, FB_21, FB_22, FB_23, FB_24, FB_25, FB_26, FB_27, FI_27, Int.toNat_natCast, Int.toNat_zero, lEachH_inv, lEachH_mu, lEachH, o1, othT, bH, gH, fM, lH, nw, ap3, i64b, kH, ap3, pb3, pb4, i64l, bL1, a0, a1, a2, a3, a4] at hf hi ⊢
  all_goals
    (repeat' (with_reducible apply And.intro)) <;> first
    | omega
    | assumption
    | (unfold inM; omega)
    | exact trivial
    | (clear hin hF ha; grind)
set_option maxRecDepth 100000 in
theorem lEachH_c : LsC ((tm0 lEachH Try.f12 (Try.f12.body.getD .skip)) :: [lEachH_T1, lEachH_T2, lEachH_T3, lEachH_T4, lEachH_T5, lEachH_T6, lEachH_T7, lEachH_T8, lEachH_T9, lEachH_T10]) lEachH.os [lEachH_L0, lEachH_L1, lEachH_L2, lEachH_L3, lEachH_L4, lEachH_L5, lEachH_L6, lEachH_L7, lEachH_L8, lEachH_L9, lEachH_L10] := by
  unfold lEachH_L0 lEachH_L1 lEachH_L2 lEachH_L3 lEachH_L4 lEachH_L5 lEachH_L6 lEachH_L7 lEachH_L8 lEachH_L9 lEachH_L10
  exact ⟨List.forall_mem_cons.2 ⟨⟨⟨_, rfl, rfl⟩, by kernel_rfl⟩, List.forall_mem_cons.2 ⟨⟨⟨_, rfl, rfl⟩, by kernel_rfl⟩, List.forall_mem_cons.2 ⟨⟨⟨_, rfl, rfl⟩, by kernel_rfl⟩, List.forall_mem_nil _⟩⟩⟩, List.forall_mem_cons.2 ⟨⟨⟨_, rfl, rfl⟩, by kernel_rfl⟩, List.forall_mem_nil _⟩, List.forall_mem_cons.2 ⟨⟨⟨_, rfl, rfl⟩, by kernel_rfl⟩, List.forall_mem_nil _⟩, List.forall_mem_cons.2 ⟨⟨⟨_, rfl, rfl⟩, by kernel_rfl⟩, List.forall_mem_cons.2 ⟨⟨⟨_, rfl, rfl⟩, by kernel_rfl⟩, List.forall_mem_cons.2 ⟨⟨⟨_, rfl, rfl⟩, by kernel_rfl⟩, List.forall_mem_cons.2 ⟨⟨⟨_, rfl, rfl⟩, by kernel_rfl⟩, List.forall_mem_cons.2 ⟨⟨⟨_, rfl, rfl⟩, by kernel_rfl⟩, List.forall_mem_nil _⟩⟩⟩⟩⟩, List.forall_mem_cons.2 ⟨⟨⟨_, rfl, rfl⟩, by kernel_rfl⟩, List.forall_mem_nil _⟩, List.forall_mem_cons.2 ⟨⟨⟨_, rfl, rfl⟩, by kernel_rfl⟩, List.forall_mem_nil _⟩, List.forall_mem_cons.2 ⟨⟨⟨_, rfl, rfl⟩, by kernel_rfl⟩, List.forall_mem_nil _⟩, List.forall_mem_cons.2 ⟨⟨⟨_, rfl, rfl⟩, by kernel_rfl⟩, List.forall_mem_cons.2 ⟨⟨⟨_, rfl, rfl⟩, by kernel_rfl⟩, List.forall_mem_cons.2 ⟨⟨⟨_, rfl, rfl⟩, by kernel_rfl⟩, List.forall_mem_nil _⟩⟩⟩, List.forall_mem_cons.2 ⟨⟨⟨_, rfl, rfl⟩, by kernel_rfl⟩, List.forall_mem_nil _⟩, List.forall_mem_cons.2 ⟨⟨⟨_, rfl, rfl⟩, by kernel_rfl⟩, List.forall_mem_nil _⟩, List.forall_mem_cons.2 ⟨⟨⟨_, rfl, rfl⟩, by kernel_rfl⟩, List.forall_mem_nil _⟩, trivial⟩
theorem lEachH_ok : lEachH.Ok Try.prog FI FB :=
  Con.of_plain (body := Try.f12.body.getD .skip) pok fiok (EntsFor.cons hOf_ok (EntsFor.cons rRight_ok (EntsFor.cons cWorks_ok EntsFor.nil))) lEachH Try.func12 (by kernel_rfl) 5 [lEachH_T1, lEachH_T2, lEachH_T3, lEachH_T4, lEachH_T5, lEachH_T6, lEachH_T7, lEachH_T8, lEachH_T9, lEachH_T10] (by kernel_rfl) [lEachH_L0, lEachH_L1, lEachH_L2, lEachH_L3, lEachH_L4, lEachH_L5, lEachH_L6, lEachH_L7, lEachH_L8, lEachH_L9, lEachH_L10] ⟨lEachH_h0, lEachH_h1, lEachH_h2, lEachH_h3, lEachH_h4, lEachH_h5, lEachH_h6, lEachH_h7, lEachH_h8, lEachH_h9, lEachH_h10, trivial⟩ lEachH_c
    lEachH_inv lEachH_mu (fun _ _ _ => trivial) fun kv iv0 bv0 hin hF k l iv bv hk ha hi => match k, hk, hi with
    | 0, hk, hi => by
      cases hk
      exact lEachH_o0 kv iv0 bv0 hin hF iv bv ha hi
    | 1, hk, hi => by
      cases hk
      exact lEachH_o1 kv iv0 bv0 hin hF iv bv ha hi
    | 2, hk, hi => by
      cases hk
      exact lEachH_o2 kv iv0 bv0 hin hF iv bv ha hi
    | 3, hk, hi => by
      cases hk
      exact lEachH_o3 kv iv0 bv0 hin hF iv bv ha hi
    | 4, hk, hi => by
      cases hk
      exact lEachH_o4 kv iv0 bv0 hin hF iv bv ha hi
    | 5, hk, hi => by
      cases hk
      exact lEachH_o5 kv iv0 bv0 hin hF iv bv ha hi
    | 6, hk, hi => by
      cases hk
      exact lEachH_o6 kv iv0 bv0 hin hF iv bv ha hi
    | 7, hk, hi => by
      cases hk
      exact lEachH_o7 kv iv0 bv0 hin hF iv bv ha hi
    | 8, hk, hi => by
      cases hk
      exact lEachH_o8 kv iv0 bv0 hin hF iv bv ha hi
    | 9, hk, hi => by
      cases hk
      exact lEachH_o9 kv iv0 bv0 hin hF iv bv ha hi
    | 10, hk, hi => by
      cases hk
      exact lEachH_o10 kv iv0 bv0 hin hF iv bv ha hi
    | k + 11, hk, _ => by simp at hk
end Go.Sx.Mhw
