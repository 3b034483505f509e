/- Holds: the functions, by contract (4). -/
import Derived.Test.YtfgdpkceoadgjaaHoG
namespace Go.Sx.Mhw
set_option linter.unusedVariables false
set_option linter.unusedSimpArgs false
open Go Go.Sx Go.Proofs
noncomputable def rowV (i : SI) : SV := .ag [.it .i64 (.ap 3 (.v 0) i (.c 0) (.c 0) (.c 0) (.c 0)), .it .i64 (.ap 3 (.v 0) i (.c 1) (.c 0) (.c 0) (.c 0)), .it .i64 (.ap 3 (.v 0) i (.c 2) (.c 0) (.c 0) (.c 0))]
noncomputable def zeroV : SV := .ag [.it .i64 (.c 0), .it .i64 (.c 0), .it .i64 (.c 0)]
noncomputable def hFind : Con := ⟨48, [0, 1, 2, 3, 4], [lH, .it .i64 (.v 4)], gH, i64b 4 :: bH, fM, [⟨[(pb3 25 (.v 4), true)], .tp [rowV (ap3 21 (.v 4)), .bo (.c true)], [], 0, 0, [(.lt (ap3 21 (.v 4)) (.v 1), true), (.le (.c 0) (ap3 21 (.v 4)), true)]⟩, ⟨[(pb3 25 (.v 4), false)], .tp [zeroV, .bo (.c false)], [], 0, 0, []⟩]⟩
noncomputable def hFits : Con := ⟨49, [0, 1, 2, 3, 4], [lH, .it .i64 (.v 4)], gH, i64b 4 :: bH, fM, [⟨[(pb3 26 (.v 4), true)], .tp [.bo (pb3 22 (.v 4)), .it .i64 (.c 0)], [], 0, 0, []⟩, ⟨[(pb3 26 (.v 4), false)], .tp [.bo (.c false), .it .i64 (.c 2)], [], 0, 0, []⟩]⟩
noncomputable def hWriter : Con := ⟨50, [0, 1, 2, 3], [lH], gH, bH, fM, [⟨[(pb2 27, true)], .tp [rowV (ap2 25), .bo (.c true)], [], 0, 0, [(.lt (ap2 25) (.v 1), true), (.le (.c 0) (ap2 25), true)]⟩, ⟨[(pb2 27, false)], .tp [zeroV, .bo (.c false)], [], 0, 0, []⟩]⟩
noncomputable def hModesX : Con := ⟨51, [0, 1, 2, 3], [lH], gH, bH, fM, [⟨[(pb2 20, false)], .sn, [], 0, 0, []⟩, ⟨[(pb2 20, true), (.lt (.c 0) (.v 1), false)], .sn, [], 0, 0, []⟩, ⟨[(pb2 20, true), (.lt (.c 0) (.v 1), true)], .sl (.n 0) (.c 0) (.v 1) (.d 0), nw [.nt .i64] 22 (ap2 20) (.v 1), 1, 1, [(.le (.v 1) (.d 0), true)]⟩]⟩
noncomputable def hCheck : Con := ⟨58, [0, 1, 2, 3], [lH], gH, bH, fM, [⟨[(pb2 20, true)], .it .i64 (.c 0), [], 0, 0, []⟩, ⟨[(pb2 20, false)], .it .i64 (.c 2), [], 0, 0, []⟩]⟩
theorem wrt_at {c n k : Int} (hn : n ≤ 4096) (h0 : 0 ≤ k) (hk : k < n) (hp : fl c k.toNat 2 = 5) (h : ∀ j : Nat, (j : Int) < k → fl c j 2 ≠ 5) : wrtC c n = k := by rw [wrtC_eq hn]; exact fstI_some h0 hk hp h
theorem wrt_no {c n k : Int} (hn : n ≤ 4096) (hk : ¬ k < n) (h : ∀ j : Nat, (j : Int) < k → fl c j 2 ≠ 5) : wrtC c n = -1 := by rw [wrtC_eq hn]; exact fstI_none fun j hj => h j (by omega)
noncomputable def hFind_T1 : Tm := ⟨⟨142, 19, [(8, (.it .i64 (.v 25))), (7, (.it .i64 (.v 1))), (0, (.sl (.k 0) (.v 2) (.v 1) (.v 3))), (1, (.fn 140 [] [(.pt (.n 2) (.c 0))]))], [(.code (atC Try.f142 [1, 0, 1, 0, 0])), (.inLoop (atC Try.f142 [1, 0, 1, 0, 0])), (.inBlock 0), (.code (atC Try.f142 [1, 1]))], [], .none⟩, [⟨102, 18, [(8, (.fn 140 [] [(.pt (.n 2) (.c 0))])), (7, (.sl (.k 0) (.v 2) (.v 1) (.v 3))), (4, (.pt (.n 4) (.c 0))), (0, (.sl (.k 0) (.v 2) (.v 1) (.v 3)))], [(.inRegion (opsC (atC Try.f102 [1, 0, 0])) [2, 3]), (.code (atC Try.f102 [1, 0, 1])), (.code (atC Try.f102 [1, 1]))], [], .none⟩, ⟨98, 15, [(10, (.fn 140 [] [(.pt (.n 2) (.c 0))])), (9, (.sl (.k 0) (.v 2) (.v 1) (.v 3))), (4, (.pt (.n 3) (.c 0)))], [(.inRegion (opsC (atC Try.f98 [1, 0])) [4, 5, 6, 7, 8, 9, 10]), (.code Code.ret)], [], .none⟩, ⟨48, 19, [(12, (.it .i64 (.v 4))), (11, (.ag [(.sl (.k 0) (.v 2) (.v 1) (.v 3)), (.bo (.c .true))])), (4, (.pt (.n 0) (.c 0)))], [(.inRegion (opsC (atC Try.f48 [1, 0])) [3, 4, 5, 6, 7, 8, 9, 10, 11]), (.code (atC Try.f48 [1, 1]))], [], .none⟩],
    ⟨[(0, (.cells [(.it .i64 (.c 0)), (.it .i64 (.c 0)), (.it .i64 (.c 0))] 58)), (2, (.cells [(.it .i64 (.v 4))] 3)), (3, (.cells [(.it .i64 (.c 0)), (.it .i64 (.c 0)), (.it .i64 (.c 0))] 58)), (4, (.cells [(.it .i64 (.c 0)), (.it .i64 (.c 0)), (.it .i64 (.c 0))] 58))], 5, 0, 0, [((.ap 20 (.v 0) (.v 1) (.c 0) (.c 0) (.c 0) (.c 0)), .true), ((.le (.v 1) (.v 3)), .true), ((.le (.c 0) (.v 3)), .true)], [1, 0], [(4, ((-9223372036854775808), 9223372036854775807)), (1, (0, 1000)), (2, (0, (-1))), (25, (0, (-1)))]⟩, [25]⟩
noncomputable def hFind_T2 : Tm := ⟨⟨142, 19, [(8, (.it .i64 (.c 0))), (7, (.it .i64 (.c 0))), (0, .sn), (1, (.fn 140 [] [(.pt (.n 2) (.c 0))]))], [(.code (atC Try.f142 [1, 0, 1, 0, 0])), (.inLoop (atC Try.f142 [1, 0, 1, 0, 0])), (.inBlock 0), (.code (atC Try.f142 [1, 1]))], [], .none⟩, [⟨102, 18, [(8, (.fn 140 [] [(.pt (.n 2) (.c 0))])), (7, .sn), (4, (.pt (.n 4) (.c 0))), (0, .sn)], [(.inRegion (opsC (atC Try.f102 [1, 0, 0])) [2, 3]), (.code (atC Try.f102 [1, 0, 1])), (.code (atC Try.f102 [1, 1]))], [], .none⟩, ⟨98, 15, [(10, (.fn 140 [] [(.pt (.n 2) (.c 0))])), (9, .sn), (4, (.pt (.n 3) (.c 0)))], [(.inRegion (opsC (atC Try.f98 [1, 0])) [4, 5, 6, 7, 8, 9, 10]), (.code Code.ret)], [], .none⟩, ⟨48, 19, [(12, (.it .i64 (.v 4))), (11, (.ag [.sn, (.bo (.c .false))])), (4, (.pt (.n 0) (.c 0)))], [(.inRegion (opsC (atC Try.f48 [1, 0])) [3, 4, 5, 6, 7, 8, 9, 10, 11]), (.code (atC Try.f48 [1, 1]))], [], .none⟩],
    ⟨[(0, (.cells [(.it .i64 (.c 0)), (.it .i64 (.c 0)), (.it .i64 (.c 0))] 58)), (2, (.cells [(.it .i64 (.v 4))] 3)), (3, (.cells [(.it .i64 (.c 0)), (.it .i64 (.c 0)), (.it .i64 (.c 0))] 58)), (4, (.cells [(.it .i64 (.c 0)), (.it .i64 (.c 0)), (.it .i64 (.c 0))] 58))], 5, 0, 0, [((.ap 20 (.v 0) (.v 1) (.c 0) (.c 0) (.c 0) (.c 0)), .false), ((.le (.v 1) (.v 3)), .true), ((.le (.c 0) (.v 3)), .true)], [1, 0], [(4, ((-9223372036854775808), 9223372036854775807)), (1, (0, 1000)), (2, (0, (-1)))]⟩, []⟩
noncomputable def hFind_L0 : List Lf :=
  [(.cut [((.ap 20 (.v 0) (.v 1) (.c 0) (.c 0) (.c 0) (.c 0)), .true), ((.le (.v 1) (.v 3)), .true), ((.le (.c 0) (.v 3)), .true)] 1 ⟨⟨[(25, (.c 0))], []⟩, [(0, 0), (3, 3), (4, 4), (2, 2)], [], []⟩ [] (shT hFind_T1 ⟨⟨[(25, (.c 0))], []⟩, [(0, 0), (3, 3), (4, 4), (2, 2)], [], []⟩)), (.cut [((.ap 20 (.v 0) (.v 1) (.c 0) (.c 0) (.c 0) (.c 0)), .false), ((.le (.v 1) (.v 3)), .true), ((.le (.c 0) (.v 3)), .true)] 2 ⟨⟨[], []⟩, [(0, 0), (3, 3), (4, 4), (2, 2)], [], []⟩ [] (shT hFind_T2 ⟨⟨[], []⟩, [(0, 0), (3, 3), (4, 4), (2, 2)], [], []⟩))]
noncomputable def hFind_L1 : List Lf :=
  [(.fin [((.eq (.ap 3 (.v 0) (.v 25) (.c 0) (.c 0) (.c 0) (.c 0)) (.v 4)), .true), ((.lt (.v 25) (.v 1)), .true), ((.ap 20 (.v 0) (.v 1) (.c 0) (.c 0) (.c 0) (.c 0)), .true), ((.le (.v 1) (.v 3)), .true), ((.le (.c 0) (.v 3)), .true)] 0 ⟨⟨[], []⟩, [], [], []⟩ [(.ei (.ap 3 (.v 0) (.ap 21 (.v 0) (.v 1) (.v 4) (.c 0) (.c 0) (.c 0)) (.c 0) (.c 0) (.c 0) (.c 0)) (.ap 3 (.v 0) (.v 25) (.c 0) (.c 0) (.c 0) (.c 0))), (.ei (.ap 3 (.v 0) (.ap 21 (.v 0) (.v 1) (.v 4) (.c 0) (.c 0) (.c 0)) (.c 1) (.c 0) (.c 0) (.c 0)) (.ap 3 (.v 0) (.v 25) (.c 1) (.c 0) (.c 0) (.c 0))), (.ei (.ap 3 (.v 0) (.ap 21 (.v 0) (.v 1) (.v 4) (.c 0) (.c 0) (.c 0)) (.c 2) (.c 0) (.c 0) (.c 0)) (.ap 3 (.v 0) (.v 25) (.c 2) (.c 0) (.c 0) (.c 0))), (.fa (.lt (.ap 21 (.v 0) (.v 1) (.v 4) (.c 0) (.c 0) (.c 0)) (.v 1)) .true), (.fa (.le (.c 0) (.ap 21 (.v 0) (.v 1) (.v 4) (.c 0) (.c 0) (.c 0))) .true)] []), (.cut [((.eq (.ap 3 (.v 0) (.v 25) (.c 0) (.c 0) (.c 0) (.c 0)) (.v 4)), .false), ((.lt (.v 25) (.v 1)), .true), ((.ap 20 (.v 0) (.v 1) (.c 0) (.c 0) (.c 0) (.c 0)), .true), ((.le (.v 1) (.v 3)), .true), ((.le (.c 0) (.v 3)), .true)] 1 ⟨⟨[(25, (.op .add (.v 25) (.c 1)))], []⟩, [(0, 0), (3, 3), (4, 4), (2, 2)], [], []⟩ [] (shT hFind_T1 ⟨⟨[(25, (.op .add (.v 25) (.c 1)))], []⟩, [(0, 0), (3, 3), (4, 4), (2, 2)], [], []⟩)), (.fin [((.lt (.v 25) (.v 1)), .false), ((.ap 20 (.v 0) (.v 1) (.c 0) (.c 0) (.c 0) (.c 0)), .true), ((.le (.v 1) (.v 3)), .true), ((.le (.c 0) (.v 3)), .true)] 1 ⟨⟨[], []⟩, [], [], []⟩ [] [])]
noncomputable def hFind_L2 : List Lf :=
  [(.fin [((.ap 20 (.v 0) (.v 1) (.c 0) (.c 0) (.c 0) (.c 0)), .false), ((.le (.v 1) (.v 3)), .true), ((.le (.c 0) (.v 3)), .true)] 1 ⟨⟨[], []⟩, [], [], []⟩ [] [])]
set_option maxRecDepth 100000 in
theorem hFind_h0 : (ex (ccOf Try.prog BF [58, 84] hFind) ((fun cc => [hOf.ent cc]) (ccOf Try.prog BF [58, 84] hFind)) (dw (ccOf Try.prog BF [58, 84] hFind) ((fun cc => [hOf.ent cc]) (ccOf Try.prog BF [58, 84] hFind)) 1000 4) (stopX []) 4000 (tm0 hFind Try.f48 (Try.f48.body.getD .skip)).f (tm0 hFind Try.f48 (Try.f48.body.getD .skip)).fs (tm0 hFind Try.f48 (Try.f48.body.getD .skip)).H).lfs (ccOf Try.prog BF [58, 84] hFind) ((tm0 hFind Try.f48 (Try.f48.body.getD .skip)) :: [hFind_T1, hFind_T2]) hFind.os = some hFind_L0 := by kernel_rfl
set_option maxRecDepth 100000 in
theorem hFind_h1 : (ex (ccOf Try.prog BF [58, 84] hFind) ((fun cc => [hOf.ent cc]) (ccOf Try.prog BF [58, 84] hFind)) (dw (ccOf Try.prog BF [58, 84] hFind) ((fun cc => [hOf.ent cc]) (ccOf Try.prog BF [58, 84] hFind)) 1000 4) (stopX []) 4000 hFind_T1.f hFind_T1.fs hFind_T1.H).lfs (ccOf Try.prog BF [58, 84] hFind) ((tm0 hFind Try.f48 (Try.f48.body.getD .skip)) :: [hFind_T1, hFind_T2]) hFind.os = some hFind_L1 := by kernel_rfl
set_option maxRecDepth 100000 in
theorem hFind_h2 : (ex (ccOf Try.prog BF [58, 84] hFind) ((fun cc => [hOf.ent cc]) (ccOf Try.prog BF [58, 84] hFind)) (dw (ccOf Try.prog BF [58, 84] hFind) ((fun cc => [hOf.ent cc]) (ccOf Try.prog BF [58, 84] hFind)) 1000 4) (stopX []) 4000 hFind_T2.f hFind_T2.fs hFind_T2.H).lfs (ccOf Try.prog BF [58, 84] hFind) ((tm0 hFind Try.f48 (Try.f48.body.getD .skip)) :: [hFind_T1, hFind_T2]) hFind.os = some hFind_L2 := by kernel_rfl
def hFind_inv : (Nat → Int) → (Nat → Bool) → Nat → (Nat → Int) → (Nat → Bool) → Prop := fun iv0 _ k iv _ => match k with
  | 0 => True
  | 1 => rgtP (iv0 0) (iv0 1) ∧ 0 ≤ iv 25 ∧ iv 25 ≤ iv0 1 ∧ ∀ j : Nat, (j : Int) < iv 25 → fl (iv0 0) j 0 ≠ iv0 4
  | _ => ¬ rgtP (iv0 0) (iv0 1)
def hFind_mu : (Nat → Int) → (Nat → Bool) → Nat → (Nat → Int) → (Nat → Bool) → Nat := fun iv0 _ k iv _ => match k with | 0 => 2 ^ 80 | 1 => (iv0 1 - iv 25).toNat | _ => 0
set_option maxHeartbeats 0 in
theorem hFind_o0 (kv : Kv) (iv0 : Nat → Int) (bv0 : Nat → Bool) (hin : InB hFind.B iv0) (hF : FT (sta FI FB kv iv0 bv0) (dlt dyn0) hFind.F) (iv : Nat → Int) (bv : Nat → Bool) (ha : Agr 5 iv0 bv0 iv bv) (hi : hFind_inv iv0 bv0 0 iv bv) :
    ∀ lf ∈ hFind_L0, LfT (sta FI FB kv) hFind.os (hFind_inv iv0 bv0) (hFind_mu iv0 bv0) 0 iv bv lf := by
  unfold hFind_L0
  refine List.forall_mem_cons.2 ⟨?_, List.forall_mem_cons.2 ⟨?_, List.forall_mem_nil _⟩⟩
  all_goals
    intro δ hf
  all_goals
    simp only [FT, TP, SB.tp, SI.tv, sta, IB.eval, and_true, true_and, ObsT, Ob.Tv, rowT, kix, In.tiv, ↓tbvT, In.tbv, get_cons, get_nil, reduceIte, Nat.reduceEqDiff, Int.reduceToNat, Int.reduceAdd, Int.reduceSub, Int.reduceLE, Int.reduceLT, Int.reduceEq, ne_eq, Bool.false_eq_true, not_true_eq_false, not_false_eq_true, true_iff, false_iff, iff_true, iff_false, false_implies, implies_true, decT, decide_true, decide_false, Bool.decide_eq_true, ap2, pb2, FI_3, FI_8, FI_9, FI_10, FI_11, FI_12, FI_13, FB_10, FB_11, FB_12, FB_13, FB_14, FB_15, FB_16, FI_20, FI_21, FI_22, FI_23, FI_24, FI_25, FI_26, FB_20, FB_21, FB_22, FB_23, FB_24, FB_25, FB_26, FB_27, FI_27, Int.toNat_natCast, Int.toNat_zero] at hf
  all_goals
    have a0 := ha.1 0 (by omega)
    have a1 := ha.1 1 (by omega)
    have a2 := ha.1 2 (by omega)
    have a3 := ha.1 3 (by omega)
    have a4 := ha.1 4 (by omega)
  all_goals
    have b1 := hin 1 0 1000 (by simp [hFind, bH, gH, fM, lH, nw, ap3, i64b, kH, ap3, pb3, pb4, i64l, lH2, gH2, bH2, fM2, bE, oEnd, ap3, pb3, pb4, i64l, bE, rowV, zeroV])
    simp only [Int.reduceLE, reduceIte, Int.reduceNeg] at b1
  all_goals
    have b4 := hin 4 (-9223372036854775808) 9223372036854775807 (by simp [hFind, bH, gH, fM, lH, nw, ap3, i64b, kH, ap3, pb3, pb4, i64l, lH2, gH2, bH2, fM2, bE, oEnd, ap3, pb3, pb4, i64l, bE, rowV, zeroV])
    simp only [Int.reduceLE, reduceIte, Int.reduceNeg] at b4
  all_goals
    simp only [FT, TP, SB.tp, SI.tv, sta, IB.eval, and_true, true_and, ObsT, Ob.Tv, rowT, kix, In.tiv, ↓tbvT, In.tbv, get_cons, get_nil, reduceIte, Nat.reduceEqDiff, Int.reduceToNat, Int.reduceAdd, Int.reduceSub, Int.reduceLE, Int.reduceLT, Int.reduceEq, ne_eq, Bool.false_eq_true, not_true_eq_false, not_false_eq_true, true_iff, false_iff, iff_true, iff_false, false_implies, implies_true, decT, decide_true, decide_false, Bool.decide_eq_true, ap2, pb2, FI_3, FI_8, FI_9, FI_10, FI_11, FI_12, FI_13, FB_10, FB_11, FB_12, FB_13, FB_14, FB_15, FB_16, FI_20, FI_21, FI_22, FI_23, FI_24, FI_25, FI_26, FB_20, FB_21, FB_22, FB_23, FB_24, FB_25, FB_26, FB_27, FI_27, Int.toNat_natCast, Int.toNat_zero, hFind_inv, hFind_mu, hFind, o1, othT, bH, gH, fM, lH, nw, ap3, i64b, kH, ap3, pb3, pb4, i64l, lH2, gH2, bH2, fM2, bE, oEnd, ap3, pb3, pb4, i64l, bE, rowV, zeroV, a0, a1, a2, a3, a4] at hf hi ⊢
  all_goals
    (repeat' (with_reducible apply And.intro)) <;> first
    | omega
    | assumption
    | (unfold inM; omega)
    | exact hf.1
    | exact fun j hj => by omega
set_option maxHeartbeats 0 in
theorem hFind_o1 (kv : Kv) (iv0 : Nat → Int) (bv0 : Nat → Bool) (hin : InB hFind.B iv0) (hF : FT (sta FI FB kv iv0 bv0) (dlt dyn0) hFind.F) (iv : Nat → Int) (bv : Nat → Bool) (ha : Agr 5 iv0 bv0 iv bv) (hi : hFind_inv iv0 bv0 1 iv bv) :
    ∀ lf ∈ hFind_L1, LfT (sta FI FB kv) hFind.os (hFind_inv iv0 bv0) (hFind_mu iv0 bv0) 1 iv bv lf := by
  unfold hFind_L1
  refine List.forall_mem_cons.2 ⟨?_, List.forall_mem_cons.2 ⟨?_, List.forall_mem_cons.2 ⟨?_, List.forall_mem_nil _⟩⟩⟩
  all_goals
    intro δ hf
  all_goals
    simp only [FT, TP, SB.tp, SI.tv, sta, IB.eval, and_true, true_and, ObsT, Ob.Tv, rowT, kix, In.tiv, ↓tbvT, In.tbv, get_cons, get_nil, reduceIte, Nat.reduceEqDiff, Int.reduceToNat, Int.reduceAdd, Int.reduceSub, Int.reduceLE, Int.reduceLT, Int.reduceEq, ne_eq, Bool.false_eq_true, not_true_eq_false, not_false_eq_true, true_iff, false_iff, iff_true, iff_false, false_implies, implies_true, decT, decide_true, decide_false, Bool.decide_eq_true, ap2, pb2, FI_3, FI_8, FI_9, FI_10, FI_11, FI_12, FI_13, FB_10, FB_11, FB_12, FB_13, FB_14, FB_15, FB_16, FI_20, FI_21, FI_22, FI_23, FI_24, FI_25, FI_26, FB_20, FB_21, FB_22, FB_23, FB_24, FB_25, FB_26, FB_27, FI_27, Int.toNat_natCast, Int.toNat_zero] at hf
  all_goals
    have a0 := ha.1 0 (by omega)
    have a1 := ha.1 1 (by omega)
    have a2 := ha.1 2 (by omega)
    have a3 := ha.1 3 (by omega)
    have a4 := ha.1 4 (by omega)
  all_goals
    have b1 := hin 1 0 1000 (by simp [hFind, bH, gH, fM, lH, nw, ap3, i64b, kH, ap3, pb3, pb4, i64l, lH2, gH2, bH2, fM2, bE, oEnd, ap3, pb3, pb4, i64l, bE, rowV, zeroV])
    simp only [Int.reduceLE, reduceIte, Int.reduceNeg] at b1
  all_goals
    have b4 := hin 4 (-9223372036854775808) 9223372036854775807 (by simp [hFind, bH, gH, fM, lH, nw, ap3, i64b, kH, ap3, pb3, pb4, i64l, lH2, gH2, bH2, fM2, bE, oEnd, ap3, pb3, pb4, i64l, bE, rowV, zeroV])
    simp only [Int.reduceLE, reduceIte, Int.reduceNeg] at b4
  all_goals
    simp only [FT, TP, SB.tp, SI.tv, sta, IB.eval, and_true, true_and, ObsT, Ob.Tv, rowT, kix, In.tiv, ↓tbvT, In.tbv, get_cons, get_nil, reduceIte, Nat.reduceEqDiff, Int.reduceToNat, Int.reduceAdd, Int.reduceSub, Int.reduceLE, Int.reduceLT, Int.reduceEq, ne_eq, Bool.false_eq_true, not_true_eq_false, not_false_eq_true, true_iff, false_iff, iff_true, iff_false, false_implies, implies_true, decT, decide_true, decide_false, Bool.decide_eq_true, ap2, pb2, FI_3, FI_8, FI_9, FI_10, FI_11, FI_12, FI_13, FB_10, FB_11, FB_12, FB_13, FB_14, FB_15, FB_16, FI_20, FI_21, FI_22, FI_23, FI_24, FI_25, FI_26, FB_20, FB_21, FB_22, FB_23, FB_24, FB_25, FB_26, FB_27, FI_27, Int.toNat_natCast, Int.toNat_zero, hFind_inv, hFind_mu, hFind, o1, othT, bH, gH, fM, lH, nw, ap3, i64b, kH, ap3, pb3, pb4, i64l, lH2, gH2, bH2, fM2, bE, oEnd, ap3, pb3, pb4, i64l, bE, rowV, zeroV, a0, a1, a2, a3, a4] at hf hi ⊢
  all_goals
    (repeat' (with_reducible apply And.intro)) <;> first
    | omega
    | assumption
    | (unfold inM; omega)
    | exact hi.1
    | ((have hk := fnd_at (c := iv0 0) (n := iv0 1) (k := iv 25) (by omega) hi.2.1 (by omega) (by first | exact hf.1 | exact hf.2.1 | exact hf.2.2.1) hi.2.2.2); (first | exact hk | exact hk.symm | (rw [hk]; omega) | (rw [hk]; done) | (simp only [hk]; omega)))
    | ((have hk := fnd_at (c := iv0 0) (n := iv0 1) (k := iv 25) (by omega) hi.2.1 (by omega) (by first | exact hf.1 | exact hf.2.1 | exact hf.2.2.1) hi.2.2.2); exact fun _ h => h ⟨hi.1, by rw [hk]; omega⟩)
    | exact all_succ hi.2.1 hi.2.2.2 hf.1
    | ((have hk := fnd_no (c := iv0 0) (n := iv0 1) (by omega) (by first | exact hf.1 | exact hf.2.1) hi.2.2.2); exact fun _ h => by have := h.2; omega)
set_option maxHeartbeats 0 in
theorem hFind_o2 (kv : Kv) (iv0 : Nat → Int) (bv0 : Nat → Bool) (hin : InB hFind.B iv0) (hF : FT (sta FI FB kv iv0 bv0) (dlt dyn0) hFind.F) (iv : Nat → Int) (bv : Nat → Bool) (ha : Agr 5 iv0 bv0 iv bv) (hi : hFind_inv iv0 bv0 2 iv bv) :
    ∀ lf ∈ hFind_L2, LfT (sta FI FB kv) hFind.os (hFind_inv iv0 bv0) (hFind_mu iv0 bv0) 2 iv bv lf := by
  unfold hFind_L2
  refine List.forall_mem_cons.2 ⟨?_, List.forall_mem_nil _⟩
  all_goals
    intro δ hf
  all_goals
    simp only [FT, TP, SB.tp, SI.tv, sta, IB.eval, and_true, true_and, ObsT, Ob.Tv, rowT, kix, In.tiv, ↓tbvT, In.tbv, get_cons, get_nil, reduceIte, Nat.reduceEqDiff, Int.reduceToNat, Int.reduceAdd, Int.reduceSub, Int.reduceLE, Int.reduceLT, Int.reduceEq, ne_eq, Bool.false_eq_true, not_true_eq_false, not_false_eq_true, true_iff, false_iff, iff_true, iff_false, false_implies, implies_true, decT, decide_true, decide_false, Bool.decide_eq_true, ap2, pb2, FI_3, FI_8, FI_9, FI_10, FI_11, FI_12, FI_13, FB_10, FB_11, FB_12, FB_13, FB_14, FB_15, FB_16, FI_20, FI_21, FI_22, FI_23, FI_24, FI_25, FI_26, FB_20, FB_21, FB_22, FB_23, FB_24, FB_25, FB_26, FB_27, FI_27, Int.toNat_natCast, Int.toNat_zero] at hf
  all_goals
    have a0 := ha.1 0 (by omega)
    have a1 := ha.1 1 (by omega)
    have a2 := ha.1 2 (by omega)
    have a3 := ha.1 3 (by omega)
    have a4 := ha.1 4 (by omega)
  all_goals
    have b1 := hin 1 0 1000 (by simp [hFind, bH, gH, fM, lH, nw, ap3, i64b, kH, ap3, pb3, pb4, i64l, lH2, gH2, bH2, fM2, bE, oEnd, ap3, pb3, pb4, i64l, bE, rowV, zeroV])
    simp only [Int.reduceLE, reduceIte, Int.reduceNeg] at b1
  all_goals
    have b4 := hin 4 (-9223372036854775808) 9223372036854775807 (by simp [hFind, bH, gH, fM, lH, nw, ap3, i64b, kH, ap3, pb3, pb4, i64l, lH2, gH2, bH2, fM2, bE, oEnd, ap3, pb3, pb4, i64l, bE, rowV, zeroV])
    simp only [Int.reduceLE, reduceIte, Int.reduceNeg] at b4
  all_goals
    simp only [FT, TP, SB.tp, SI.tv, sta, IB.eval, and_true, true_and, ObsT, Ob.Tv, rowT, kix, In.tiv, ↓tbvT, In.tbv, get_cons, get_nil, reduceIte, Nat.reduceEqDiff, Int.reduceToNat, Int.reduceAdd, Int.reduceSub, Int.reduceLE, Int.reduceLT, Int.reduceEq, ne_eq, Bool.false_eq_true, not_true_eq_false, not_false_eq_true, true_iff, false_iff, iff_true, iff_false, false_implies, implies_true, decT, decide_true, decide_false, Bool.decide_eq_true, ap2, pb2, FI_3, FI_8, FI_9, FI_10, FI_11, FI_12, FI_13, FB_10, FB_11, FB_12, FB_13, FB_14, FB_15, FB_16, FI_20, FI_21, FI_22, FI_23, FI_24, FI_25, FI_26, FB_20, FB_21, FB_22, FB_23, FB_24, FB_25, FB_26, FB_27, FI_27, Int.toNat_natCast, Int.toNat_zero, hFind_inv, hFind_mu, hFind, o1, othT, bH, gH, fM, lH, nw, ap3, i64b, kH, ap3, pb3, pb4, i64l, lH2, gH2, bH2, fM2, bE, oEnd, ap3, pb3, pb4, i64l, bE, rowV, zeroV, a0, a1, a2, a3, a4] at hf hi ⊢
  all_goals
    (repeat' (with_reducible apply And.intro)) <;> first
    | omega
    | assumption
    | (unfold inM; omega)
    | (exact fun _ h => hi h.1)
set_option maxRecDepth 100000 in
theorem hFind_c : LsC ((tm0 hFind Try.f48 (Try.f48.body.getD .skip)) :: [hFind_T1, hFind_T2]) hFind.os [hFind_L0, hFind_L1, hFind_L2] := by
  unfold hFind_L0 hFind_L1 hFind_L2
  exact ⟨List.forall_mem_cons.2 ⟨⟨⟨_, rfl, rfl⟩, by kernel_rfl⟩, List.forall_mem_cons.2 ⟨⟨⟨_, rfl, rfl⟩, by kernel_rfl⟩, List.forall_mem_nil _⟩⟩, List.forall_mem_cons.2 ⟨⟨⟨_, rfl, rfl⟩, by kernel_rfl⟩, List.forall_mem_cons.2 ⟨⟨⟨_, rfl, rfl⟩, by kernel_rfl⟩, List.forall_mem_cons.2 ⟨⟨⟨_, rfl, rfl⟩, by kernel_rfl⟩, List.forall_mem_nil _⟩⟩⟩, List.forall_mem_cons.2 ⟨⟨⟨_, rfl, rfl⟩, by kernel_rfl⟩, List.forall_mem_nil _⟩, trivial⟩
theorem hFind_ok : hFind.Ok Try.prog FI FB :=
  Con.of_plain (body := Try.f48.body.getD .skip) pok fiok (EntsFor.cons hOf_ok EntsFor.nil) hFind Try.func48 (by kernel_rfl) 5 [hFind_T1, hFind_T2] (by kernel_rfl) [hFind_L0, hFind_L1, hFind_L2] ⟨hFind_h0, hFind_h1, hFind_h2, trivial⟩ hFind_c
    hFind_inv hFind_mu (fun _ _ _ => trivial) fun kv iv0 bv0 hin hF k l iv bv hk ha hi => match k, hk, hi with
    | 0, hk, hi => by
      cases hk
      exact hFind_o0 kv iv0 bv0 hin hF iv bv ha hi
    | 1, hk, hi => by
      cases hk
      exact hFind_o1 kv iv0 bv0 hin hF iv bv ha hi
    | 2, hk, hi => by
      cases hk
      exact hFind_o2 kv iv0 bv0 hin hF iv bv ha hi
    | k + 3, hk, _ => by simp at hk
noncomputable def hWriter_T1 : Tm := ⟨⟨142, 19, [(8, (.it .i64 (.v 24))), (7, (.it .i64 (.v 1))), (0, (.sl (.k 0) (.v 2) (.v 1) (.v 3))), (1, (.fn 103 [] []))], [(.code (atC Try.f142 [1, 0, 1, 0, 0])), (.inLoop (atC Try.f142 [1, 0, 1, 0, 0])), (.inBlock 0), (.code (atC Try.f142 [1, 1]))], [], .none⟩, [⟨102, 18, [(8, (.fn 103 [] [])), (7, (.sl (.k 0) (.v 2) (.v 1) (.v 3))), (4, (.pt (.n 1) (.c 0))), (0, (.sl (.k 0) (.v 2) (.v 1) (.v 3)))], [(.inRegion (opsC (atC Try.f102 [1, 0, 0])) [2, 3]), (.code (atC Try.f102 [1, 0, 1])), (.code (atC Try.f102 [1, 1]))], [], .none⟩, ⟨50, 18, [(11, (.sl (.k 0) (.v 2) (.v 1) (.v 3))), (2, (.pt (.n 0) (.c 0)))], [(.inRegion (opsC (atC Try.f50 [1, 0])) [4, 5, 6, 7, 8, 9, 10, 11, 12]), (.code (atC Try.f50 [1, 1]))], [], .none⟩],
    ⟨[(0, (.cells [(.it .i64 (.c 0)), (.it .i64 (.c 0)), (.it .i64 (.c 0))] 58)), (1, (.cells [(.it .i64 (.c 0)), (.it .i64 (.c 0)), (.it .i64 (.c 0))] 58))], 2, 0, 0, [((.ap 20 (.v 0) (.v 1) (.c 0) (.c 0) (.c 0) (.c 0)), .true), ((.le (.v 1) (.v 3)), .true), ((.le (.c 0) (.v 3)), .true)], [1, 0], [(1, (0, 1000)), (2, (0, (-1))), (24, (0, (-1)))]⟩, [24]⟩
noncomputable def hWriter_T2 : Tm := ⟨⟨142, 19, [(8, (.it .i64 (.c 0))), (7, (.it .i64 (.c 0))), (0, .sn), (1, (.fn 103 [] []))], [(.code (atC Try.f142 [1, 0, 1, 0, 0])), (.inLoop (atC Try.f142 [1, 0, 1, 0, 0])), (.inBlock 0), (.code (atC Try.f142 [1, 1]))], [], .none⟩, [⟨102, 18, [(8, (.fn 103 [] [])), (7, .sn), (4, (.pt (.n 1) (.c 0))), (0, .sn)], [(.inRegion (opsC (atC Try.f102 [1, 0, 0])) [2, 3]), (.code (atC Try.f102 [1, 0, 1])), (.code (atC Try.f102 [1, 1]))], [], .none⟩, ⟨50, 18, [(11, .sn), (2, (.pt (.n 0) (.c 0)))], [(.inRegion (opsC (atC Try.f50 [1, 0])) [4, 5, 6, 7, 8, 9, 10, 11, 12]), (.code (atC Try.f50 [1, 1]))], [], .none⟩],
    ⟨[(0, (.cells [(.it .i64 (.c 0)), (.it .i64 (.c 0)), (.it .i64 (.c 0))] 58)), (1, (.cells [(.it .i64 (.c 0)), (.it .i64 (.c 0)), (.it .i64 (.c 0))] 58))], 2, 0, 0, [((.ap 20 (.v 0) (.v 1) (.c 0) (.c 0) (.c 0) (.c 0)), .false), ((.le (.v 1) (.v 3)), .true), ((.le (.c 0) (.v 3)), .true)], [1, 0], [(1, (0, 1000)), (2, (0, (-1)))]⟩, []⟩
noncomputable def hWriter_L0 : List Lf :=
  [(.cut [((.ap 20 (.v 0) (.v 1) (.c 0) (.c 0) (.c 0) (.c 0)), .true), ((.le (.v 1) (.v 3)), .true), ((.le (.c 0) (.v 3)), .true)] 1 ⟨⟨[(24, (.c 0))], []⟩, [(0, 0), (1, 1)], [], []⟩ [] (shT hWriter_T1 ⟨⟨[(24, (.c 0))], []⟩, [(0, 0), (1, 1)], [], []⟩)), (.cut [((.ap 20 (.v 0) (.v 1) (.c 0) (.c 0) (.c 0) (.c 0)), .false), ((.le (.v 1) (.v 3)), .true), ((.le (.c 0) (.v 3)), .true)] 2 ⟨⟨[], []⟩, [(0, 0), (1, 1)], [], []⟩ [] (shT hWriter_T2 ⟨⟨[], []⟩, [(0, 0), (1, 1)], [], []⟩))]
noncomputable def hWriter_L1 : List Lf :=
  [(.fin [((.eq (.ap 3 (.v 0) (.v 24) (.c 2) (.c 0) (.c 0) (.c 0)) (.c 5)), .true), ((.lt (.v 24) (.v 1)), .true), ((.ap 20 (.v 0) (.v 1) (.c 0) (.c 0) (.c 0) (.c 0)), .true), ((.le (.v 1) (.v 3)), .true), ((.le (.c 0) (.v 3)), .true)] 0 ⟨⟨[], []⟩, [], [], []⟩ [(.ei (.ap 3 (.v 0) (.ap 25 (.v 0) (.v 1) (.c 0) (.c 0) (.c 0) (.c 0)) (.c 0) (.c 0) (.c 0) (.c 0)) (.ap 3 (.v 0) (.v 24) (.c 0) (.c 0) (.c 0) (.c 0))), (.ei (.ap 3 (.v 0) (.ap 25 (.v 0) (.v 1) (.c 0) (.c 0) (.c 0) (.c 0)) (.c 1) (.c 0) (.c 0) (.c 0)) (.ap 3 (.v 0) (.v 24) (.c 1) (.c 0) (.c 0) (.c 0))), (.ei (.ap 3 (.v 0) (.ap 25 (.v 0) (.v 1) (.c 0) (.c 0) (.c 0) (.c 0)) (.c 2) (.c 0) (.c 0) (.c 0)) (.ap 3 (.v 0) (.v 24) (.c 2) (.c 0) (.c 0) (.c 0))), (.fa (.lt (.ap 25 (.v 0) (.v 1) (.c 0) (.c 0) (.c 0) (.c 0)) (.v 1)) .true), (.fa (.le (.c 0) (.ap 25 (.v 0) (.v 1) (.c 0) (.c 0) (.c 0) (.c 0))) .true)] []), (.cut [((.eq (.ap 3 (.v 0) (.v 24) (.c 2) (.c 0) (.c 0) (.c 0)) (.c 5)), .false), ((.lt (.v 24) (.v 1)), .true), ((.ap 20 (.v 0) (.v 1) (.c 0) (.c 0) (.c 0) (.c 0)), .true), ((.le (.v 1) (.v 3)), .true), ((.le (.c 0) (.v 3)), .true)] 1 ⟨⟨[(24, (.op .add (.v 24) (.c 1)))], []⟩, [(0, 0), (1, 1)], [], []⟩ [] (shT hWriter_T1 ⟨⟨[(24, (.op .add (.v 24) (.c 1)))], []⟩, [(0, 0), (1, 1)], [], []⟩)), (.fin [((.lt (.v 24) (.v 1)), .false), ((.ap 20 (.v 0) (.v 1) (.c 0) (.c 0) (.c 0) (.c 0)), .true), ((.le (.v 1) (.v 3)), .true), ((.le (.c 0) (.v 3)), .true)] 1 ⟨⟨[], []⟩, [], [], []⟩ [] [])]
noncomputable def hWriter_L2 : List Lf :=
  [(.fin [((.ap 20 (.v 0) (.v 1) (.c 0) (.c 0) (.c 0) (.c 0)), .false), ((.le (.v 1) (.v 3)), .true), ((.le (.c 0) (.v 3)), .true)] 1 ⟨⟨[], []⟩, [], [], []⟩ [] [])]
set_option maxRecDepth 100000 in
theorem hWriter_h0 : (ex (ccOf Try.prog BF [58, 84] hWriter) ((fun cc => [hOf.ent cc]) (ccOf Try.prog BF [58, 84] hWriter)) (dw (ccOf Try.prog BF [58, 84] hWriter) ((fun cc => [hOf.ent cc]) (ccOf Try.prog BF [58, 84] hWriter)) 1000 4) (stopX []) 4000 (tm0 hWriter Try.f50 (Try.f50.body.getD .skip)).f (tm0 hWriter Try.f50 (Try.f50.body.getD .skip)).fs (tm0 hWriter Try.f50 (Try.f50.body.getD .skip)).H).lfs (ccOf Try.prog BF [58, 84] hWriter) ((tm0 hWriter Try.f50 (Try.f50.body.getD .skip)) :: [hWriter_T1, hWriter_T2]) hWriter.os = some hWriter_L0 := by kernel_rfl
set_option maxRecDepth 100000 in
theorem hWriter_h1 : (ex (ccOf Try.prog BF [58, 84] hWriter) ((fun cc => [hOf.ent cc]) (ccOf Try.prog BF [58, 84] hWriter)) (dw (ccOf Try.prog BF [58, 84] hWriter) ((fun cc => [hOf.ent cc]) (ccOf Try.prog BF [58, 84] hWriter)) 1000 4) (stopX []) 4000 hWriter_T1.f hWriter_T1.fs hWriter_T1.H).lfs (ccOf Try.prog BF [58, 84] hWriter) ((tm0 hWriter Try.f50 (Try.f50.body.getD .skip)) :: [hWriter_T1, hWriter_T2]) hWriter.os = some hWriter_L1 := by kernel_rfl
set_option maxRecDepth 100000 in
theorem hWriter_h2 : (ex (ccOf Try.prog BF [58, 84] hWriter) ((fun cc => [hOf.ent cc]) (ccOf Try.prog BF [58, 84] hWriter)) (dw (ccOf Try.prog BF [58, 84] hWriter) ((fun cc => [hOf.ent cc]) (ccOf Try.prog BF [58, 84] hWriter)) 1000 4) (stopX []) 4000 hWriter_T2.f hWriter_T2.fs hWriter_T2.H).lfs (ccOf Try.prog BF [58, 84] hWriter) ((tm0 hWriter Try.f50 (Try.f50.body.getD .skip)) :: [hWriter_T1, hWriter_T2]) hWriter.os = some hWriter_L2 := by kernel_rfl
def hWriter_inv : (Nat → Int) → (Nat → Bool) → Nat → (Nat → Int) → (Nat → Bool) → Prop := fun iv0 _ k iv _ => match k with
  | 0 => True
  | 1 => rgtP (iv0 0) (iv0 1) ∧ 0 ≤ iv 24 ∧ iv 24 ≤ iv0 1 ∧ ∀ j : Nat, (j : Int) < iv 24 → fl (iv0 0) j 2 ≠ 5
  | _ => ¬ rgtP (iv0 0) (iv0 1)
def hWriter_mu : (Nat → Int) → (Nat → Bool) → Nat → (Nat → Int) → (Nat → Bool) → Nat := fun iv0 _ k iv _ => match k with | 0 => 2 ^ 80 | 1 => (iv0 1 - iv 24).toNat | _ => 0
set_option maxHeartbeats 0 in
theorem hWriter_o0 (kv : Kv) (iv0 : Nat → Int) (bv0 : Nat → Bool) (hin : InB hWriter.B iv0) (hF : FT (sta FI FB kv iv0 bv0) (dlt dyn0) hWriter.F) (iv : Nat → Int) (bv : Nat → Bool) (ha : Agr 4 iv0 bv0 iv bv) (hi : hWriter_inv iv0 bv0 0 iv bv) :
    ∀ lf ∈ hWriter_L0, LfT (sta FI FB kv) hWriter.os (hWriter_inv iv0 bv0) (hWriter_mu iv0 bv0) 0 iv bv lf := by
  unfold hWriter_L0
  refine List.forall_mem_cons.2 ⟨?_, List.forall_mem_cons.2 ⟨?_, List.forall_mem_nil _⟩⟩
  all_goals
    intro δ hf
  all_goals
    simp only [FT, TP, SB.tp, SI.tv, sta, IB.eval, and_true, true_and, ObsT, Ob.Tv, rowT, kix, In.tiv, ↓tbvT, In.tbv, get_cons, get_nil, reduceIte, Nat.reduceEqDiff, Int.reduceToNat, Int.reduceAdd, Int.reduceSub, Int.reduceLE, Int.reduceLT, Int.reduceEq, ne_eq, Bool.false_eq_true, not_true_eq_false, not_false_eq_true, true_iff, false_iff, iff_true, iff_false, false_implies, implies_true, decT, decide_true, decide_false, Bool.decide_eq_true, ap2, pb2, FI_3, FI_8, FI_9, FI_10, FI_11, FI_12, FI_13, FB_10, FB_11, FB_12, FB_13, FB_14, FB_15, FB_16, FI_20, FI_21, FI_22, FI_23, FI_24, FI_25, FI_26, FB_20, FB_21, FB_22, FB_23, FB_24, FB_25, FB_26, FB_27, FI_27, Int.toNat_natCast, Int.toNat_zero] at hf
  all_goals
    have a0 := ha.1 0 (by omega)
    have a1 := ha.1 1 (by omega)
    have a2 := ha.1 2 (by omega)
    have a3 := ha.1 3 (by omega)
  all_goals
    have b1 := hin 1 0 1000 (by simp [hWriter, bH, gH, fM, lH, nw, ap3, i64b, kH, ap3, pb3, pb4, i64l, lH2, gH2, bH2, fM2, bE, oEnd, ap3, pb3, pb4, i64l, bE, rowV, zeroV])
    simp only [Int.reduceLE, reduceIte, Int.reduceNeg] at b1
  all_goals
    simp only [FT, TP, SB.tp, SI.tv, sta, IB.eval, and_true, true_and, ObsT, Ob.Tv, rowT, kix, In.tiv, ↓tbvT, In.tbv, get_cons, get_nil, reduceIte, Nat.reduceEqDiff, Int.reduceToNat, Int.reduceAdd, Int.reduceSub, Int.reduceLE, Int.reduceLT, Int.reduceEq, ne_eq, Bool.false_eq_true, not_true_eq_false, not_false_eq_true, true_iff, false_iff, iff_true, iff_false, false_implies, implies_true, decT, decide_true, decide_false, Bool.decide_eq_true, ap2, pb2, FI_3, FI_8, FI_9, FI_10, FI_11, FI_12, FI_13, FB_10, FB_11, FB_12, FB_13, FB_14, FB_15, FB_16, FI_20, FI_21, FI_22, FI_23, FI_24, FI_25, FI_26, FB_20, FB_21, FB_22, FB_23, FB_24, FB_25, FB_26, FB_27, FI_27, Int.toNat_natCast, Int.toNat_zero, hWriter_inv, hWriter_mu, hWriter, o1, othT, bH, gH, fM, lH, nw, ap3, i64b, kH, ap3, pb3, pb4, i64l, lH2, gH2, bH2, fM2, bE, oEnd, ap3, pb3, pb4, i64l, bE, rowV, zeroV, a0, a1, a2, a3] at hf hi ⊢
  all_goals
    (repeat' (with_reducible apply And.intro)) <;> first
    | omega
    | assumption
    | (unfold inM; omega)
    | exact hf.1
    | exact fun j hj => by omega
set_option maxHeartbeats 0 in
theorem hWriter_o1 (kv : Kv) (iv0 : Nat → Int) (bv0 : Nat → Bool) (hin : InB hWriter.B iv0) (hF : FT (sta FI FB kv iv0 bv0) (dlt dyn0) hWriter.F) (iv : Nat → Int) (bv : Nat → Bool) (ha : Agr 4 iv0 bv0 iv bv) (hi : hWriter_inv iv0 bv0 1 iv bv) :
    ∀ lf ∈ hWriter_L1, LfT (sta FI FB kv) hWriter.os (hWriter_inv iv0 bv0) (hWriter_mu iv0 bv0) 1 iv bv lf := by
  unfold hWriter_L1
  refine List.forall_mem_cons.2 ⟨?_, List.forall_mem_cons.2 ⟨?_, List.forall_mem_cons.2 ⟨?_, List.forall_mem_nil _⟩⟩⟩
  all_goals
    intro δ hf
  all_goals
    simp only [FT, TP, SB.tp, SI.tv, sta, IB.eval, and_true, true_and, ObsT, Ob.Tv, rowT, kix, In.tiv, ↓tbvT, In.tbv, get_cons, get_nil, reduceIte, Nat.reduceEqDiff, Int.reduceToNat, Int.reduceAdd, Int.reduceSub, Int.reduceLE, Int.reduceLT, Int.reduceEq, ne_eq, Bool.false_eq_true, not_true_eq_false, not_false_eq_true, true_iff, false_iff, iff_true, iff_false, false_implies, implies_true, decT, decide_true, decide_false, Bool.decide_eq_true, ap2, pb2, FI_3, FI_8, FI_9, FI_10, FI_11, FI_12, FI_13, FB_10, FB_11, FB_12, FB_13, FB_14, FB_15, FB_16, FI_20, FI_21, FI_22, FI_23, FI_24, FI_25, FI_26, FB_20, FB_21, FB_22, FB_23, FB_24, FB_25, FB_26, FB_27, FI_27, Int.toNat_natCast, Int.toNat_zero] at hf
  all_goals
    have a0 := ha.1 0 (by omega)
    have a1 := ha.1 1 (by omega)
    have a2 := ha.1 2 (by omega)
    have a3 := ha.1 3 (by omega)
  all_goals
    have b1 := hin 1 0 1000 (by simp [hWriter, bH, gH, fM, lH, nw, ap3, i64b, kH, ap3, pb3, pb4, i64l, lH2, gH2, bH2, fM2, bE, oEnd, ap3, pb3, pb4, i64l, bE, rowV, zeroV])
    simp only [Int.reduceLE, reduceIte, Int.reduceNeg] at b1
  all_goals
    simp only [FT, TP, SB.tp, SI.tv, sta, IB.eval, and_true, true_and, ObsT, Ob.Tv, rowT, kix, In.tiv, ↓tbvT, In.tbv, get_cons, get_nil, reduceIte, Nat.reduceEqDiff, Int.reduceToNat, Int.reduceAdd, Int.reduceSub, Int.reduceLE, Int.reduceLT, Int.reduceEq, ne_eq, Bool.false_eq_true, not_true_eq_false, not_false_eq_true, true_iff, false_iff, iff_true, iff_false, false_implies, implies_true, decT, decide_true, decide_false, Bool.decide_eq_true, ap2, pb2, FI_3, FI_8, FI_9, FI_10, FI_11, FI_12, FI_13, FB_10, FB_11, FB_12, FB_13, FB_14, FB_15, FB_16, FI_20, FI_21, FI_22, FI_23, FI_24, FI_25, FI_26, FB_20, FB_21, FB_22, FB_23, FB_24, FB_25, FB_26, FB_27, FI_27, Int.toNat_natCast, Int.toNat_zero, hWriter_inv, hWriter_mu, hWriter, o1, othT, bH, gH, fM, lH, nw, ap3, i64b, kH, ap3, pb3, pb4, i64l, lH2, gH2, bH2, fM2, bE, oEnd, ap3, pb3, pb4, i64l, bE, rowV, zeroV, a0, a1, a2, a3] at hf hi ⊢
  all_goals
    (repeat' (with_reducible apply And.intro)) <;> first
    | omega
    | assumption
    | (unfold inM; omega)
    | exact hi.1
    | ((have hk := wrt_at (c := iv0 0) (n := iv0 1) (k := iv 24) (by omega) hi.2.1 (by omega) (by first | exact hf.1 | exact hf.2.1 | exact hf.2.2.1) hi.2.2.2); (first | exact hk | exact hk.symm | (rw [hk]; omega) | (rw [hk]; done) | (simp only [hk]; omega)))
    | ((have hk := wrt_at (c := iv0 0) (n := iv0 1) (k := iv 24) (by omega) hi.2.1 (by omega) (by first | exact hf.1 | exact hf.2.1 | exact hf.2.2.1) hi.2.2.2); exact fun _ h => h ⟨hi.1, by rw [hk]; omega⟩)
    | exact all_succ hi.2.1 hi.2.2.2 hf.1
    | ((have hk := wrt_no (c := iv0 0) (n := iv0 1) (by omega) (by first | exact hf.1 | exact hf.2.1) hi.2.2.2); exact fun _ h => by have := h.2; omega)
set_option maxHeartbeats 0 in
theorem hWriter_o2 (kv : Kv) (iv0 : Nat → Int) (bv0 : Nat → Bool) (hin : InB hWriter.B iv0) (hF : FT (sta FI FB kv iv0 bv0) (dlt dyn0) hWriter.F) (iv : Nat → Int) (bv : Nat → Bool) (ha : Agr 4 iv0 bv0 iv bv) (hi : hWriter_inv iv0 bv0 2 iv bv) :
    ∀ lf ∈ hWriter_L2, LfT (sta FI FB kv) hWriter.os (hWriter_inv iv0 bv0) (hWriter_mu iv0 bv0) 2 iv bv lf := by
  unfold hWriter_L2
  refine List.forall_mem_cons.2 ⟨?_, List.forall_mem_nil _⟩
  all_goals
    intro δ hf
  all_goals
    simp only [FT, TP, SB.tp, SI.tv, sta, IB.eval, and_true, true_and, ObsT, Ob.Tv, rowT, kix, In.tiv, ↓tbvT, In.tbv, get_cons, get_nil, reduceIte, Nat.reduceEqDiff, Int.reduceToNat, Int.reduceAdd, Int.reduceSub, Int.reduceLE, Int.reduceLT, Int.reduceEq, ne_eq, Bool.false_eq_true, not_true_eq_false, not_false_eq_true, true_iff, false_iff, iff_true, iff_false, false_implies, implies_true, decT, decide_true, decide_false, Bool.decide_eq_true, ap2, pb2, FI_3, FI_8, FI_9, FI_10, FI_11, FI_12, FI_13, FB_10, FB_11, FB_12, FB_13, FB_14, FB_15, FB_16, FI_20, FI_21, FI_22, FI_23, FI_24, FI_25, FI_26, FB_20, FB_21, FB_22, FB_23, FB_24, FB_25, FB_26, FB_27, FI_27, Int.toNat_natCast, Int.toNat_zero] at hf
  all_goals
    have a0 := ha.1 0 (by omega)
    have a1 := ha.1 1 (by omega)
    have a2 := ha.1 2 (by omega)
    have a3 := ha.1 3 (by omega)
  all_goals
    have b1 := hin 1 0 1000 (by simp [hWriter, bH, gH, fM, lH, nw, ap3, i64b, kH, ap3, pb3, pb4, i64l, lH2, gH2, bH2, fM2, bE, oEnd, ap3, pb3, pb4, i64l, bE, rowV, zeroV])
    simp only [Int.reduceLE, reduceIte, Int.reduceNeg] at b1
  all_goals
    simp only [FT, TP, SB.tp, SI.tv, sta, IB.eval, and_true, true_and, ObsT, Ob.Tv, rowT, kix, In.tiv, ↓tbvT, In.tbv, get_cons, get_nil, reduceIte, Nat.reduceEqDiff, Int.reduceToNat, Int.reduceAdd, Int.reduceSub, Int.reduceLE, Int.reduceLT, Int.reduceEq, ne_eq, Bool.false_eq_true, not_true_eq_false, not_false_eq_true, true_iff, false_iff, iff_true, iff_false, false_implies, implies_true, decT, decide_true, decide_false, Bool.decide_eq_true, ap2, pb2, FI_3, FI_8, FI_9, FI_10, FI_11, FI_12, FI_13, FB_10, FB_11, FB_12, FB_13, FB_14, FB_15, FB_16, FI_20, FI_21, FI_22, FI_23, FI_24, FI_25, FI_26, FB_20, FB_21, FB_22, FB_23, FB_24, FB_25, FB_26, FB_27, FI_27, Int.toNat_natCast, Int.toNat_zero, hWriter_inv, hWriter_mu, hWriter, o1, othT, bH, gH, fM, lH, nw, ap3, i64b, kH, ap3, pb3, pb4, i64l, lH2, gH2, bH2, fM2, bE, oEnd, ap3, pb3, pb4, i64l, bE, rowV, zeroV, a0, a1, a2, a3] at hf hi ⊢
  all_goals
    (repeat' (with_reducible apply And.intro)) <;> first
    | omega
    | assumption
    | (unfold inM; omega)
    | (exact fun _ h => hi h.1)
set_option maxRecDepth 100000 in
theorem hWriter_c : LsC ((tm0 hWriter Try.f50 (Try.f50.body.getD .skip)) :: [hWriter_T1, hWriter_T2]) hWriter.os [hWriter_L0, hWriter_L1, hWriter_L2] := by
  unfold hWriter_L0 hWriter_L1 hWriter_L2
  exact ⟨List.forall_mem_cons.2 ⟨⟨⟨_, rfl, rfl⟩, by kernel_rfl⟩, List.forall_mem_cons.2 ⟨⟨⟨_, rfl, rfl⟩, by kernel_rfl⟩, List.forall_mem_nil _⟩⟩, List.forall_mem_cons.2 ⟨⟨⟨_, rfl, rfl⟩, by kernel_rfl⟩, List.forall_mem_cons.2 ⟨⟨⟨_, rfl, rfl⟩, by kernel_rfl⟩, List.forall_mem_cons.2 ⟨⟨⟨_, rfl, rfl⟩, by kernel_rfl⟩, List.forall_mem_nil _⟩⟩⟩, List.forall_mem_cons.2 ⟨⟨⟨_, rfl, rfl⟩, by kernel_rfl⟩, List.forall_mem_nil _⟩, trivial⟩
theorem hWriter_ok : hWriter.Ok Try.prog FI FB :=
  Con.of_plain (body := Try.f50.body.getD .skip) pok fiok (EntsFor.cons hOf_ok EntsFor.nil) hWriter Try.func50 (by kernel_rfl) 4 [hWriter_T1, hWriter_T2] (by kernel_rfl) [hWriter_L0, hWriter_L1, hWriter_L2] ⟨hWriter_h0, hWriter_h1, hWriter_h2, trivial⟩ hWriter_c
    hWriter_inv hWriter_mu (fun _ _ _ => trivial) fun kv iv0 bv0 hin hF k l iv bv hk ha hi => match k, hk, hi with
    | 0, hk, hi => by
      cases hk
      exact hWriter_o0 kv iv0 bv0 hin hF iv bv ha hi
    | 1, hk, hi => by
      cases hk
      exact hWriter_o1 kv iv0 bv0 hin hF iv bv ha hi
    | 2, hk, hi => by
      cases hk
      exact hWriter_o2 kv iv0 bv0 hin hF iv bv ha hi
    | k + 3, hk, _ => by simp at hk
noncomputable def hFits_T1 : Tm := ⟨⟨142, 19, [(8, (.it .i64 (.v 25))), (7, (.it .i64 (.v 1))), (0, (.sl (.k 0) (.v 2) (.v 1) (.v 3))), (1, (.fn 141 [] [(.pt (.n 2) (.c 0))]))], [(.code (atC Try.f142 [1, 0, 1, 0, 0])), (.inLoop (atC Try.f142 [1, 0, 1, 0, 0])), (.inBlock 0), (.code (atC Try.f142 [1, 1]))], [], .none⟩, [⟨102, 18, [(8, (.fn 141 [] [(.pt (.n 2) (.c 0))])), (7, (.sl (.k 0) (.v 2) (.v 1) (.v 3))), (4, (.pt (.n 3) (.c 0))), (0, (.sl (.k 0) (.v 2) (.v 1) (.v 3)))], [(.inRegion (opsC (atC Try.f102 [1, 0, 0])) [2, 3]), (.code (atC Try.f102 [1, 0, 1])), (.code (atC Try.f102 [1, 1]))], [], .none⟩, ⟨101, 19, [(12, (.fn 141 [] [(.pt (.n 2) (.c 0))])), (11, (.sl (.k 0) (.v 2) (.v 1) (.v 3)))], [(.inRegion (opsC (atC Try.f101 [1, 0])) [4, 5, 6, 7, 8, 9, 10, 11, 12]), (.code (atC Try.f101 [1, 1]))], [], .none⟩, ⟨49, 20, [(18, (.it .i64 (.v 4))), (17, (.ag [(.sl (.k 0) (.v 2) (.v 1) (.v 3)), (.bo (.c .true))]))], [(.inRegion (opsC (atC Try.f49 [1, 1, 1, 0])) [2, 3, 4]), (.code Code.ret)], [], .none⟩],
    ⟨[(2, (.cells [(.it .i64 (.v 4))] 22)), (3, (.cells [(.it .i64 (.c 0)), (.it .i64 (.c 0)), (.it .i64 (.c 0))] 58))], 4, 0, 0, [((.lt (.v 4) (.c 6)), .true), ((.le (.c 0) (.v 4)), .true), ((.ap 20 (.v 0) (.v 1) (.c 0) (.c 0) (.c 0) (.c 0)), .true), ((.le (.v 1) (.v 3)), .true), ((.le (.c 0) (.v 3)), .true)], [1, 0], [(4, (0, 5)), (1, (0, 1000)), (2, (0, (-1))), (25, (0, (-1)))]⟩, [25]⟩
noncomputable def hFits_L0 : List Lf :=
  [(.cut [((.lt (.v 4) (.c 6)), .true), ((.le (.c 0) (.v 4)), .true), ((.ap 20 (.v 0) (.v 1) (.c 0) (.c 0) (.c 0) (.c 0)), .true), ((.le (.v 1) (.v 3)), .true), ((.le (.c 0) (.v 3)), .true)] 1 ⟨⟨[(25, (.c 0))], []⟩, [(3, 3), (2, 2)], [], []⟩ [] (shT hFits_T1 ⟨⟨[(25, (.c 0))], []⟩, [(3, 3), (2, 2)], [], []⟩)), (.fin [((.lt (.v 4) (.c 6)), .false), ((.le (.c 0) (.v 4)), .true), ((.ap 20 (.v 0) (.v 1) (.c 0) (.c 0) (.c 0) (.c 0)), .true), ((.le (.v 1) (.v 3)), .true), ((.le (.c 0) (.v 3)), .true)] 1 ⟨⟨[], []⟩, [], [], []⟩ [] []), (.fin [((.le (.c 0) (.v 4)), .false), ((.ap 20 (.v 0) (.v 1) (.c 0) (.c 0) (.c 0) (.c 0)), .true), ((.le (.v 1) (.v 3)), .true), ((.le (.c 0) (.v 3)), .true)] 1 ⟨⟨[], []⟩, [], [], []⟩ [] []), (.fin [((.ap 20 (.v 0) (.v 1) (.c 0) (.c 0) (.c 0) (.c 0)), .false), ((.le (.v 1) (.v 3)), .true), ((.le (.c 0) (.v 3)), .true)] 1 ⟨⟨[], []⟩, [], [], []⟩ [] [])]
noncomputable def hFits_L1 : List Lf :=
  [(.cut [((.ap 10 (.ap 3 (.v 0) (.v 25) (.c 2) (.c 0) (.c 0) (.c 0)) (.v 4) (.c 0) (.c 0) (.c 0) (.c 0)), .true), ((.lt (.v 25) (.v 1)), .true), ((.lt (.v 4) (.c 6)), .true), ((.le (.c 0) (.v 4)), .true), ((.ap 20 (.v 0) (.v 1) (.c 0) (.c 0) (.c 0) (.c 0)), .true), ((.le (.v 1) (.v 3)), .true), ((.le (.c 0) (.v 3)), .true)] 1 ⟨⟨[(25, (.op .add (.v 25) (.c 1)))], []⟩, [(3, 3), (2, 2)], [], []⟩ [] (shT hFits_T1 ⟨⟨[(25, (.op .add (.v 25) (.c 1)))], []⟩, [(3, 3), (2, 2)], [], []⟩)), (.fin [((.ap 10 (.ap 3 (.v 0) (.v 25) (.c 2) (.c 0) (.c 0) (.c 0)) (.v 4) (.c 0) (.c 0) (.c 0) (.c 0)), .false), ((.lt (.v 25) (.v 1)), .true), ((.lt (.v 4) (.c 6)), .true), ((.le (.c 0) (.v 4)), .true), ((.ap 20 (.v 0) (.v 1) (.c 0) (.c 0) (.c 0) (.c 0)), .true), ((.le (.v 1) (.v 3)), .true), ((.le (.c 0) (.v 3)), .true)] 0 ⟨⟨[], []⟩, [], [], []⟩ [(.eb (.ap 22 (.v 0) (.v 1) (.v 4) (.c 0) (.c 0) (.c 0)) (.c .false))] []), (.fin [((.lt (.v 25) (.v 1)), .false), ((.lt (.v 4) (.c 6)), .true), ((.le (.c 0) (.v 4)), .true), ((.ap 20 (.v 0) (.v 1) (.c 0) (.c 0) (.c 0) (.c 0)), .true), ((.le (.v 1) (.v 3)), .true), ((.le (.c 0) (.v 3)), .true)] 0 ⟨⟨[], []⟩, [], [], []⟩ [(.eb (.ap 22 (.v 0) (.v 1) (.v 4) (.c 0) (.c 0) (.c 0)) (.c .true))] [])]
set_option maxRecDepth 100000 in
theorem hFits_h0 : (ex (ccOf Try.prog BF [58, 84] hFits) ((fun cc => [hOf.ent cc, eFits.ent cc]) (ccOf Try.prog BF [58, 84] hFits)) (dw (ccOf Try.prog BF [58, 84] hFits) ((fun cc => [hOf.ent cc, eFits.ent cc]) (ccOf Try.prog BF [58, 84] hFits)) 1000 4) (stopX []) 4000 (tm0 hFits Try.f49 (Try.f49.body.getD .skip)).f (tm0 hFits Try.f49 (Try.f49.body.getD .skip)).fs (tm0 hFits Try.f49 (Try.f49.body.getD .skip)).H).lfs (ccOf Try.prog BF [58, 84] hFits) ((tm0 hFits Try.f49 (Try.f49.body.getD .skip)) :: [hFits_T1]) hFits.os = some hFits_L0 := by kernel_rfl
set_option maxRecDepth 100000 in
theorem hFits_h1 : (ex (ccOf Try.prog BF [58, 84] hFits) ((fun cc => [hOf.ent cc, eFits.ent cc]) (ccOf Try.prog BF [58, 84] hFits)) (dw (ccOf Try.prog BF [58, 84] hFits) ((fun cc => [hOf.ent cc, eFits.ent cc]) (ccOf Try.prog BF [58, 84] hFits)) 1000 4) (stopX []) 4000 hFits_T1.f hFits_T1.fs hFits_T1.H).lfs (ccOf Try.prog BF [58, 84] hFits) ((tm0 hFits Try.f49 (Try.f49.body.getD .skip)) :: [hFits_T1]) hFits.os = some hFits_L1 := by kernel_rfl
def hFits_inv : (Nat → Int) → (Nat → Bool) → Nat → (Nat → Int) → (Nat → Bool) → Prop := fun iv0 _ k iv _ => match k with
  | 0 => True
  | _ => rgtP (iv0 0) (iv0 1) ∧ inM (iv0 4) ∧ 0 ≤ iv 25 ∧ iv 25 ≤ iv0 1 ∧ ∀ j : Nat, (j : Int) < iv 25 → fitP (fl (iv0 0) j 2) (iv0 4)
def hFits_mu : (Nat → Int) → (Nat → Bool) → Nat → (Nat → Int) → (Nat → Bool) → Nat := fun iv0 _ k iv _ => match k with | 0 => 2 ^ 80 | _ => (iv0 1 - iv 25).toNat
set_option maxHeartbeats 0 in
theorem hFits_o0 (kv : Kv) (iv0 : Nat → Int) (bv0 : Nat → Bool) (hin : InB hFits.B iv0) (hF : FT (sta FI FB kv iv0 bv0) (dlt dyn0) hFits.F) (iv : Nat → Int) (bv : Nat → Bool) (ha : Agr 5 iv0 bv0 iv bv) (hi : hFits_inv iv0 bv0 0 iv bv) :
    ∀ lf ∈ hFits_L0, LfT (sta FI FB kv) hFits.os (hFits_inv iv0 bv0) (hFits_mu iv0 bv0) 0 iv bv lf := by
  unfold hFits_L0
  refine List.forall_mem_cons.2 ⟨?_, List.forall_mem_cons.2 ⟨?_, List.forall_mem_cons.2 ⟨?_, List.forall_mem_cons.2 ⟨?_, List.forall_mem_nil _⟩⟩⟩⟩
  all_goals
    intro δ hf
  all_goals
    simp only [FT, TP, SB.tp, SI.tv, sta, IB.eval, and_true, true_and, ObsT, Ob.Tv, rowT, kix, In.tiv, ↓tbvT, In.tbv, get_cons, get_nil, reduceIte, Nat.reduceEqDiff, Int.reduceToNat, Int.reduceAdd, Int.reduceSub, Int.reduceLE, Int.reduceLT, Int.reduceEq, ne_eq, Bool.false_eq_true, not_true_eq_false, not_false_eq_true, true_iff, false_iff, iff_true, iff_false, false_implies, implies_true, decT, decide_true, decide_false, Bool.decide_eq_true, ap2, pb2, FI_3, FI_8, FI_9, FI_10, FI_11, FI_12, FI_13, FB_10, FB_11, FB_12, FB_13, FB_14, FB_15, FB_16, FI_20, FI_21, FI_22, FI_23, FI_24, FI_25, FI_26, FB_20, FB_21, FB_22, FB_23, FB_24, FB_25, FB_26, FB_27, FI_27, Int.toNat_natCast, Int.toNat_zero] at hf
  all_goals
    have a0 := ha.1 0 (by omega)
    have a1 := ha.1 1 (by omega)
    have a2 := ha.1 2 (by omega)
    have a3 := ha.1 3 (by omega)
    have a4 := ha.1 4 (by omega)
  all_goals
    have b1 := hin 1 0 1000 (by simp [hFits, bH, gH, fM, lH, nw, ap3, i64b, kH, ap3, pb3, pb4, i64l, lH2, gH2, bH2, fM2, bE, oEnd, ap3, pb3, pb4, i64l, bE, rowV, zeroV])
    simp only [Int.reduceLE, reduceIte, Int.reduceNeg] at b1
  all_goals
    have b4 := hin 4 (-9223372036854775808) 9223372036854775807 (by simp [hFits, bH, gH, fM, lH, nw, ap3, i64b, kH, ap3, pb3, pb4, i64l, lH2, gH2, bH2, fM2, bE, oEnd, ap3, pb3, pb4, i64l, bE, rowV, zeroV])
    simp only [Int.reduceLE, reduceIte, Int.reduceNeg] at b4
  all_goals
    simp only [FT, TP, SB.tp, SI.tv, sta, IB.eval, and_true, true_and, ObsT, Ob.Tv, rowT, kix, In.tiv, ↓tbvT, In.tbv, get_cons, get_nil, reduceIte, Nat.reduceEqDiff, Int.reduceToNat, Int.reduceAdd, Int.reduceSub, Int.reduceLE, Int.reduceLT, Int.reduceEq, ne_eq, Bool.false_eq_true, not_true_eq_false, not_false_eq_true, true_iff, false_iff, iff_true, iff_false, false_implies, implies_true, decT, decide_true, decide_false, Bool.decide_eq_true, ap2, pb2, FI_3, FI_8, FI_9, FI_10, FI_11, FI_12, FI_13, FB_10, FB_11, FB_12, FB_13, FB_14, FB_15, FB_16, FI_20, FI_21, FI_22, FI_23, FI_24, FI_25, FI_26, FB_20, FB_21, FB_22, FB_23, FB_24, FB_25, FB_26, FB_27, FI_27, Int.toNat_natCast, Int.toNat_zero, hFits_inv, hFits_mu, hFits, o1, othT, bH, gH, fM, lH, nw, ap3, i64b, kH, ap3, pb3, pb4, i64l, lH2, gH2, bH2, fM2, bE, oEnd, ap3, pb3, pb4, i64l, bE, rowV, zeroV, a0, a1, a2, a3, a4] at hf hi ⊢
  all_goals
    (repeat' (with_reducible apply And.intro)) <;> first
    | omega
    | assumption
    | (unfold inM; omega)
    | exact fun j hj => by omega
    | (exact fun _ h => by have := h.2; unfold inM at this; omega)
    | (exact fun _ h => hf.1 h.1)
    | (exact fun _ h => absurd h.1 (by first | exact hf.1 | exact hf.2.1 | exact hf.2.2.1))
    | (first | exact hf.1 | exact hf.2.1 | exact hf.2.2.1)
set_option maxHeartbeats 0 in
theorem hFits_o1 (kv : Kv) (iv0 : Nat → Int) (bv0 : Nat → Bool) (hin : InB hFits.B iv0) (hF : FT (sta FI FB kv iv0 bv0) (dlt dyn0) hFits.F) (iv : Nat → Int) (bv : Nat → Bool) (ha : Agr 5 iv0 bv0 iv bv) (hi : hFits_inv iv0 bv0 1 iv bv) :
    ∀ lf ∈ hFits_L1, LfT (sta FI FB kv) hFits.os (hFits_inv iv0 bv0) (hFits_mu iv0 bv0) 1 iv bv lf := by
  unfold hFits_L1
  refine List.forall_mem_cons.2 ⟨?_, List.forall_mem_cons.2 ⟨?_, List.forall_mem_cons.2 ⟨?_, List.forall_mem_nil _⟩⟩⟩
  all_goals
    intro δ hf
  all_goals
    simp only [FT, TP, SB.tp, SI.tv, sta, IB.eval, and_true, true_and, ObsT, Ob.Tv, rowT, kix, In.tiv, ↓tbvT, In.tbv, get_cons, get_nil, reduceIte, Nat.reduceEqDiff, Int.reduceToNat, Int.reduceAdd, Int.reduceSub, Int.reduceLE, Int.reduceLT, Int.reduceEq, ne_eq, Bool.false_eq_true, not_true_eq_false, not_false_eq_true, true_iff, false_iff, iff_true, iff_false, false_implies, implies_true, decT, decide_true, decide_false, Bool.decide_eq_true, ap2, pb2, FI_3, FI_8, FI_9, FI_10, FI_11, FI_12, FI_13, FB_10, FB_11, FB_12, FB_13, FB_14, FB_15, FB_16, FI_20, FI_21, FI_22, FI_23, FI_24, FI_25, FI_26, FB_20, FB_21, FB_22, FB_23, FB_24, FB_25, FB_26, FB_27, FI_27, Int.toNat_natCast, Int.toNat_zero] at hf
  all_goals
    have a0 := ha.1 0 (by omega)
    have a1 := ha.1 1 (by omega)
    have a2 := ha.1 2 (by omega)
    have a3 := ha.1 3 (by omega)
    have a4 := ha.1 4 (by omega)
  all_goals
    have b1 := hin 1 0 1000 (by simp [hFits, bH, gH, fM, lH, nw, ap3, i64b, kH, ap3, pb3, pb4, i64l, lH2, gH2, bH2, fM2, bE, oEnd, ap3, pb3, pb4, i64l, bE, rowV, zeroV])
    simp only [Int.reduceLE, reduceIte, Int.reduceNeg] at b1
  all_goals
    have b4 := hin 4 (-9223372036854775808) 9223372036854775807 (by simp [hFits, bH, gH, fM, lH, nw, ap3, i64b, kH, ap3, pb3, pb4, i64l, lH2, gH2, bH2, fM2, bE, oEnd, ap3, pb3, pb4, i64l, bE, rowV, zeroV])
    simp only [Int.reduceLE, reduceIte, Int.reduceNeg] at b4
  all_goals
    simp only [FT, TP, SB.tp, SI.tv, sta, IB.eval, and_true, true_and, ObsT, Ob.Tv, rowT, kix, In.tiv, ↓tbvT, In.tbv, get_cons, get_nil, reduceIte, Nat.reduceEqDiff, Int.reduceToNat, Int.reduceAdd, Int.reduceSub, Int.reduceLE, Int.reduceLT, Int.reduceEq, ne_eq, Bool.false_eq_true, not_true_eq_false, not_false_eq_true, true_iff, false_iff, iff_true, iff_false, false_implies, implies_true, decT, decide_true, decide_false, Bool.decide_eq_true, ap2, pb2, FI_3, FI_8, FI_9, FI_10, FI_11, FI_12, FI_13, FB_10, FB_11, FB_12, FB_13, FB_14, FB_15, FB_16, FI_20, FI_21, FI_22, FI_23, FI_24, FI_25, FI_26, FB_20, FB_21, FB_22, FB_23, FB_24, FB_25, FB_26, FB_27, FI_27, Int.toNat_natCast, Int.toNat_zero, hFits_inv, hFits_mu, hFits, o1, othT, bH, gH, fM, lH, nw, ap3, i64b, kH, ap3, pb3, pb4, i64l, lH2, gH2, bH2, fM2, bE, oEnd, ap3, pb3, pb4, i64l, bE, rowV, zeroV, a0, a1, a2, a3, a4] at hf hi ⊢
  all_goals
    have hmi : 0 ≤ iv 25 → iv 25 < iv0 1 → inM (fl (iv0 0) (iv 25).toNat 2) := fun h0 h1 => by have := (hi.1.1 (iv 25).toNat (by omega)).1.2.2; unfold inM; omega
  all_goals
    (repeat' (with_reducible apply And.intro)) <;> first
    | omega
    | assumption
    | (unfold inM; omega)
    | exact hi.1
    | exact hi.2.1
    | exact all_succ hi.2.2.1 hi.2.2.2.2 hf.1.2.2
    | (exact fun _ h => h ⟨hi.1, hi.2.1⟩)
    | (exact fun j hj => hi.2.2.2.2 j (by omega))
    | (exact fun h => hf.1 ⟨hmi (by omega) (by omega), hi.2.1, h (iv 25).toNat (by omega)⟩)
set_option maxRecDepth 100000 in
theorem hFits_c : LsC ((tm0 hFits Try.f49 (Try.f49.body.getD .skip)) :: [hFits_T1]) hFits.os [hFits_L0, hFits_L1] := by
  unfold hFits_L0 hFits_L1
  exact ⟨List.forall_mem_cons.2 ⟨⟨⟨_, rfl, rfl⟩, by kernel_rfl⟩, List.forall_mem_cons.2 ⟨⟨⟨_, rfl, rfl⟩, by kernel_rfl⟩, List.forall_mem_cons.2 ⟨⟨⟨_, rfl, rfl⟩, by kernel_rfl⟩, List.forall_mem_cons.2 ⟨⟨⟨_, rfl, rfl⟩, by kernel_rfl⟩, List.forall_mem_nil _⟩⟩⟩⟩, List.forall_mem_cons.2 ⟨⟨⟨_, rfl, rfl⟩, by kernel_rfl⟩, List.forall_mem_cons.2 ⟨⟨⟨_, rfl, rfl⟩, by kernel_rfl⟩, List.forall_mem_cons.2 ⟨⟨⟨_, rfl, rfl⟩, by kernel_rfl⟩, List.forall_mem_nil _⟩⟩⟩, trivial⟩
theorem hFits_ok : hFits.Ok Try.prog FI FB :=
  Con.of_plain (body := Try.f49.body.getD .skip) pok fiok (EntsFor.cons hOf_ok (EntsFor.cons eFits_ok EntsFor.nil)) hFits Try.func49 (by kernel_rfl) 5 [hFits_T1] (by kernel_rfl) [hFits_L0, hFits_L1] ⟨hFits_h0, hFits_h1, trivial⟩ hFits_c
    hFits_inv hFits_mu (fun _ _ _ => trivial) fun kv iv0 bv0 hin hF k l iv bv hk ha hi => match k, hk, hi with
    | 0, hk, hi => by
      cases hk
      exact hFits_o0 kv iv0 bv0 hin hF iv bv ha hi
    | 1, hk, hi => by
      cases hk
      exact hFits_o1 kv iv0 bv0 hin hF iv bv ha hi
    | k + 2, hk, _ => by simp at hk
noncomputable def hModesX_T1 : Tm := ⟨⟨104, 19, [(8, (.it .i64 (.c 0))), (7, (.it .i64 (.c 0))), (6, .sn), (2, .sn)], [(.code (atC Try.f104 [1, 0, 1, 0, 0])), (.inLoop (atC Try.f104 [1, 0, 1, 0, 0])), (.inBlock 0), (.code (atC Try.f104 [1, 1]))], [], .none⟩, [⟨51, 7, [(5, (.ag [.sn]))], [(.inRegion (opsC (atC Try.f51 [1, 0])) [3, 4]), (.code Code.ret)], [], .none⟩],
    ⟨[], 0, 0, 0, [((.ap 20 (.v 0) (.v 1) (.c 0) (.c 0) (.c 0) (.c 0)), .false), ((.le (.v 1) (.v 3)), .true), ((.le (.c 0) (.v 3)), .true)], [1, 0], [(1, (0, 1000)), (2, (0, (-1)))]⟩, []⟩
noncomputable def hModesX_L0 : List Lf :=
  [(.fin [((.le (.v 1) (.d 0)), .true), ((.lt (.c 0) (.v 1)), .true), ((.ap 20 (.v 0) (.v 1) (.c 0) (.c 0) (.c 0) (.c 0)), .true), ((.le (.v 1) (.v 3)), .true), ((.le (.c 0) (.v 3)), .true)] 2 ⟨⟨[], []⟩, [(0, 0)], [(0, (.d 0))], []⟩ [] [.none]), (.fin [((.lt (.c 0) (.v 1)), .false), ((.ap 20 (.v 0) (.v 1) (.c 0) (.c 0) (.c 0) (.c 0)), .true), ((.le (.v 1) (.v 3)), .true), ((.le (.c 0) (.v 3)), .true)] 1 ⟨⟨[], []⟩, [], [], []⟩ [] []), (.cut [((.ap 20 (.v 0) (.v 1) (.c 0) (.c 0) (.c 0) (.c 0)), .false), ((.le (.v 1) (.v 3)), .true), ((.le (.c 0) (.v 3)), .true)] 1 ⟨⟨[], []⟩, [], [], []⟩ [] (shT hModesX_T1 ⟨⟨[], []⟩, [], [], []⟩))]
noncomputable def hModesX_L1 : List Lf :=
  [(.fin [((.ap 20 (.v 0) (.v 1) (.c 0) (.c 0) (.c 0) (.c 0)), .false), ((.le (.v 1) (.v 3)), .true), ((.le (.c 0) (.v 3)), .true)] 0 ⟨⟨[], []⟩, [], [], []⟩ [] [])]
set_option maxRecDepth 100000 in
theorem hModesX_h0 : (ex (ccOf Try.prog BF [58, 84] hModesX) ((fun cc => [hOf.ent cc, hModes.ent cc]) (ccOf Try.prog BF [58, 84] hModesX)) (dw (ccOf Try.prog BF [58, 84] hModesX) ((fun cc => [hOf.ent cc, hModes.ent cc]) (ccOf Try.prog BF [58, 84] hModesX)) 1000 4) (stopX []) 4000 (tm0 hModesX Try.f51 (Try.f51.body.getD .skip)).f (tm0 hModesX Try.f51 (Try.f51.body.getD .skip)).fs (tm0 hModesX Try.f51 (Try.f51.body.getD .skip)).H).lfs (ccOf Try.prog BF [58, 84] hModesX) ((tm0 hModesX Try.f51 (Try.f51.body.getD .skip)) :: [hModesX_T1]) hModesX.os = some hModesX_L0 := by kernel_rfl
set_option maxRecDepth 100000 in
theorem hModesX_h1 : (ex (ccOf Try.prog BF [58, 84] hModesX) ((fun cc => [hOf.ent cc, hModes.ent cc]) (ccOf Try.prog BF [58, 84] hModesX)) (dw (ccOf Try.prog BF [58, 84] hModesX) ((fun cc => [hOf.ent cc, hModes.ent cc]) (ccOf Try.prog BF [58, 84] hModesX)) 1000 4) (stopX []) 4000 hModesX_T1.f hModesX_T1.fs hModesX_T1.H).lfs (ccOf Try.prog BF [58, 84] hModesX) ((tm0 hModesX Try.f51 (Try.f51.body.getD .skip)) :: [hModesX_T1]) hModesX.os = some hModesX_L1 := by kernel_rfl
def hModesX_inv : (Nat → Int) → (Nat → Bool) → Nat → (Nat → Int) → (Nat → Bool) → Prop := fun iv0 _ k _ _ => match k with | 0 => True | _ => ¬ rgtP (iv0 0) (iv0 1)
def hModesX_mu : (Nat → Int) → (Nat → Bool) → Nat → (Nat → Int) → (Nat → Bool) → Nat := fun _ _ k _ _ => match k with | 0 => 1 | _ => 0
set_option maxHeartbeats 0 in
theorem hModesX_o0 (kv : Kv) (iv0 : Nat → Int) (bv0 : Nat → Bool) (hin : InB hModesX.B iv0) (hF : FT (sta FI FB kv iv0 bv0) (dlt dyn0) hModesX.F) (iv : Nat → Int) (bv : Nat → Bool) (ha : Agr 4 iv0 bv0 iv bv) (hi : hModesX_inv iv0 bv0 0 iv bv) :
    ∀ lf ∈ hModesX_L0, LfT (sta FI FB kv) hModesX.os (hModesX_inv iv0 bv0) (hModesX_mu iv0 bv0) 0 iv bv lf := by
  unfold hModesX_L0
  refine List.forall_mem_cons.2 ⟨?_, List.forall_mem_cons.2 ⟨?_, List.forall_mem_cons.2 ⟨?_, List.forall_mem_nil _⟩⟩⟩
  all_goals
    intro δ hf
  all_goals
    simp only [FT, TP, SB.tp, SI.tv, sta, IB.eval, and_true, true_and, ObsT, Ob.Tv, rowT, kix, In.tiv, ↓tbvT, In.tbv, get_cons, get_nil, reduceIte, Nat.reduceEqDiff, Int.reduceToNat, Int.reduceAdd, Int.reduceSub, Int.reduceLE, Int.reduceLT, Int.reduceEq, ne_eq, Bool.false_eq_true, not_true_eq_false, not_false_eq_true, true_iff, false_iff, iff_true, iff_false, false_implies, implies_true, decT, decide_true, decide_false, Bool.decide_eq_true, ap2, pb2, FI_3, FI_8, FI_9, FI_10, FI_11, FI_12, FI_13, FB_10, FB_11, FB_12, FB_13, FB_14, FB_15, FB_16, FI_20, FI_21, FI_22, FI_23, FI_24, FI_25, FI_26, FB_20, FB_21, FB_22, FB_23, FB_24, FB_25, FB_26, FB_27, FI_27, Int.toNat_natCast, Int.toNat_zero] at hf
  all_goals
    have a0 := ha.1 0 (by omega)
    have a1 := ha.1 1 (by omega)
    have a2 := ha.1 2 (by omega)
    have a3 := ha.1 3 (by omega)
  all_goals
    have b1 := hin 1 0 1000 (by simp [hModesX, bH, gH, fM, lH, nw, ap3, i64b, kH, ap3, pb3, pb4, i64l, lH2, gH2, bH2, fM2, bE, oEnd, ap3, pb3, pb4, i64l, bE, rowV, zeroV])
    simp only [Int.reduceLE, reduceIte, Int.reduceNeg] at b1
  all_goals
    simp only [FT, TP, SB.tp, SI.tv, sta, IB.eval, and_true, true_and, ObsT, Ob.Tv, rowT, kix, In.tiv, ↓tbvT, In.tbv, get_cons, get_nil, reduceIte, Nat.reduceEqDiff, Int.reduceToNat, Int.reduceAdd, Int.reduceSub, Int.reduceLE, Int.reduceLT, Int.reduceEq, ne_eq, Bool.false_eq_true, not_true_eq_false, not_false_eq_true, true_iff, false_iff, iff_true, iff_false, false_implies, implies_true, decT, decide_true, decide_false, Bool.decide_eq_true, ap2, pb2, FI_3, FI_8, FI_9, FI_10, FI_11, FI_12, FI_13, FB_10, FB_11, FB_12, FB_13, FB_14, FB_15, FB_16, FI_20, FI_21, FI_22, FI_23, FI_24, FI_25, FI_26, FB_20, FB_21, FB_22, FB_23, FB_24, FB_25, FB_26, FB_27, FI_27, Int.toNat_natCast, Int.toNat_zero, hModesX_inv, hModesX_mu, hModesX, o1, othT, bH, gH, fM, lH, nw, ap3, i64b, kH, ap3, pb3, pb4, i64l, lH2, gH2, bH2, fM2, bE, oEnd, ap3, pb3, pb4, i64l, bE, rowV, zeroV, a0, a1, a2, a3] at hf hi ⊢
  all_goals
    (repeat' (with_reducible apply And.intro)) <;> first
    | omega
    | assumption
    | (unfold inM; omega)
    | exact hf.1
    | (exact fun _ h => by simp_all)
    | (exact fun h => absurd h (by first | exact hf.1 | exact hf.2.1))
    | (intros; grind)
set_option maxHeartbeats 0 in
theorem hModesX_o1 (kv : Kv) (iv0 : Nat → Int) (bv0 : Nat → Bool) (hin : InB hModesX.B iv0) (hF : FT (sta FI FB kv iv0 bv0) (dlt dyn0) hModesX.F) (iv : Nat → Int) (bv : Nat → Bool) (ha : Agr 4 iv0 bv0 iv bv) (hi : hModesX_inv iv0 bv0 1 iv bv) :
    ∀ lf ∈ hModesX_L1, LfT (sta FI FB kv) hModesX.os (hModesX_inv iv0 bv0) (hModesX_mu iv0 bv0) 1 iv bv lf := by
  unfold hModesX_L1
  refine List.forall_mem_cons.2 ⟨?_, List.forall_mem_nil _⟩
  all_goals
    intro δ hf
  all_goals
    simp only [FT, TP, SB.tp, SI.tv, sta, IB.eval, and_true, true_and, ObsT, Ob.Tv, rowT, kix, In.tiv, ↓tbvT, In.tbv, get_cons, get_nil, reduceIte, Nat.reduceEqDiff, Int.reduceToNat, Int.reduceAdd, Int.reduceSub, Int.reduceLE, Int.reduceLT, Int.reduceEq, ne_eq, Bool.false_eq_true, not_true_eq_false, not_false_eq_true, true_iff, false_iff, iff_true, iff_false, false_implies, implies_true, decT, decide_true, decide_false, Bool.decide_eq_true, ap2, pb2, FI_3, FI_8, FI_9, FI_10, FI_11, FI_12, FI_13, FB_10, FB_11, FB_12, FB_13, FB_14, FB_15, FB_16, FI_20, FI_21, FI_22, FI_23, FI_24, FI_25, FI_26, FB_20, FB_21, FB_22, FB_23, FB_24, FB_25, FB_26, FB_27, FI_27, Int.toNat_natCast, Int.toNat_zero] at hf
  all_goals
    have a0 := ha.1 0 (by omega)
    have a1 := ha.1 1 (by omega)
    have a2 := ha.1 2 (by omega)
    have a3 := ha.1 3 (by omega)
  all_goals
    have b1 := hin 1 0 1000 (by simp [hModesX, bH, gH, fM, lH, nw, ap3, i64b, kH, ap3, pb3, pb4, i64l, lH2, gH2, bH2, fM2, bE, oEnd, ap3, pb3, pb4, i64l, bE, rowV, zeroV])
    simp only [Int.reduceLE, reduceIte, Int.reduceNeg] at b1
  all_goals
    simp only [FT, TP, SB.tp, SI.tv, sta, IB.eval, and_true, true_and, ObsT, Ob.Tv, rowT, kix, In.tiv, ↓tbvT, In.tbv, get_cons, get_nil, reduceIte, Nat.reduceEqDiff, Int.reduceToNat, Int.reduceAdd, Int.reduceSub, Int.reduceLE, Int.reduceLT, Int.reduceEq, ne_eq, Bool.false_eq_true, not_true_eq_false, not_false_eq_true, true_iff, false_iff, iff_true, iff_false, false_implies, implies_true, decT, decide_true, decide_false, Bool.decide_eq_true, ap2, pb2, FI_3, FI_8, FI_9, FI_10, FI_11, FI_12, FI_13, FB_10, FB_11, FB_12, FB_13, FB_14, FB_15, FB_16, FI_20, FI_21, FI_22, FI_23, FI_24, FI_25, FI_26, FB_20, FB_21, FB_22, FB_23, FB_24, FB_25, FB_26, FB_27, FI_27, Int.toNat_natCast, Int.toNat_zero, hModesX_inv, hModesX_mu, hModesX, o1, othT, bH, gH, fM, lH, nw, ap3, i64b, kH, ap3, pb3, pb4, i64l, lH2, gH2, bH2, fM2, bE, oEnd, ap3, pb3, pb4, i64l, bE, rowV, zeroV, a0, a1, a2, a3] at hf hi ⊢
  all_goals
    (repeat' (with_reducible apply And.intro)) <;> first
    | omega
    | assumption
    | (unfold inM; omega)
    | exact hi
    | (intros; grind)
set_option maxRecDepth 100000 in
theorem hModesX_c : LsC ((tm0 hModesX Try.f51 (Try.f51.body.getD .skip)) :: [hModesX_T1]) hModesX.os [hModesX_L0, hModesX_L1] := by
  unfold hModesX_L0 hModesX_L1
  exact ⟨List.forall_mem_cons.2 ⟨⟨⟨_, rfl, rfl⟩, by kernel_rfl⟩, List.forall_mem_cons.2 ⟨⟨⟨_, rfl, rfl⟩, by kernel_rfl⟩, List.forall_mem_cons.2 ⟨⟨⟨_, rfl, rfl⟩, by kernel_rfl⟩, List.forall_mem_nil _⟩⟩⟩, List.forall_mem_cons.2 ⟨⟨⟨_, rfl, rfl⟩, by kernel_rfl⟩, List.forall_mem_nil _⟩, trivial⟩
theorem hModesX_ok : hModesX.Ok Try.prog FI FB :=
  Con.of_plain (body := Try.f51.body.getD .skip) pok fiok (EntsFor.cons hOf_ok (EntsFor.cons hModes_ok EntsFor.nil)) hModesX Try.func51 (by kernel_rfl) 4 [hModesX_T1] (by kernel_rfl) [hModesX_L0, hModesX_L1] ⟨hModesX_h0, hModesX_h1, trivial⟩ hModesX_c
    hModesX_inv hModesX_mu (fun _ _ _ => trivial) fun kv iv0 bv0 hin hF k l iv bv hk ha hi => match k, hk, hi with
    | 0, hk, hi => by
      cases hk
      exact hModesX_o0 kv iv0 bv0 hin hF iv bv ha hi
    | 1, hk, hi => by
      cases hk
      exact hModesX_o1 kv iv0 bv0 hin hF iv bv ha hi
    | k + 2, hk, _ => by simp at hk
noncomputable def hCheck_L0 : List Lf :=
  [(.fin [((.ap 20 (.v 0) (.v 1) (.c 0) (.c 0) (.c 0) (.c 0)), .true), ((.le (.v 1) (.v 3)), .true), ((.le (.c 0) (.v 3)), .true)] 0 ⟨⟨[], []⟩, [], [], []⟩ [] []), (.fin [((.ap 20 (.v 0) (.v 1) (.c 0) (.c 0) (.c 0) (.c 0)), .false), ((.le (.v 1) (.v 3)), .true), ((.le (.c 0) (.v 3)), .true)] 1 ⟨⟨[], []⟩, [], [], []⟩ [] [])]
set_option maxRecDepth 100000 in
theorem hCheck_h0 : (ex (ccOf Try.prog BF [58, 84] hCheck) ((fun cc => [hOf.ent cc]) (ccOf Try.prog BF [58, 84] hCheck)) (dw (ccOf Try.prog BF [58, 84] hCheck) ((fun cc => [hOf.ent cc]) (ccOf Try.prog BF [58, 84] hCheck)) 1000 4) (stopX []) 4000 (tm0 hCheck Try.f58 (Try.f58.body.getD .skip)).f (tm0 hCheck Try.f58 (Try.f58.body.getD .skip)).fs (tm0 hCheck Try.f58 (Try.f58.body.getD .skip)).H).lfs (ccOf Try.prog BF [58, 84] hCheck) ((tm0 hCheck Try.f58 (Try.f58.body.getD .skip)) :: []) hCheck.os = some hCheck_L0 := by kernel_rfl
def hCheck_inv : (Nat → Int) → (Nat → Bool) → Nat → (Nat → Int) → (Nat → Bool) → Prop := fun _ _ _ _ _ => True
def hCheck_mu : (Nat → Int) → (Nat → Bool) → Nat → (Nat → Int) → (Nat → Bool) → Nat := fun _ _ _ _ _ => 0
set_option maxHeartbeats 0 in
theorem hCheck_o0 (kv : Kv) (iv0 : Nat → Int) (bv0 : Nat → Bool) (hin : InB hCheck.B iv0) (hF : FT (sta FI FB kv iv0 bv0) (dlt dyn0) hCheck.F) (iv : Nat → Int) (bv : Nat → Bool) (ha : Agr 4 iv0 bv0 iv bv) (hi : hCheck_inv iv0 bv0 0 iv bv) :
    ∀ lf ∈ hCheck_L0, LfT (sta FI FB kv) hCheck.os (hCheck_inv iv0 bv0) (hCheck_mu iv0 bv0) 0 iv bv lf := by
  unfold hCheck_L0
  refine List.forall_mem_cons.2 ⟨?_, List.forall_mem_cons.2 ⟨?_, List.forall_mem_nil _⟩⟩
  all_goals
    intro δ hf
  all_goals
    simp only [FT, TP, SB.tp, SI.tv, sta, IB.eval, and_true, true_and, ObsT, Ob.Tv, rowT, kix, In.tiv, ↓tbvT, In.tbv, get_cons, get_nil, reduceIte, Nat.reduceEqDiff, Int.reduceToNat, Int.reduceAdd, Int.reduceSub, Int.reduceLE, Int.reduceLT, Int.reduceEq, ne_eq, Bool.false_eq_true, not_true_eq_false, not_false_eq_true, true_iff, false_iff, iff_true, iff_false, false_implies, implies_true, decT, decide_true, decide_false, Bool.decide_eq_true, ap2, pb2, FI_3, FI_8, FI_9, FI_10, FI_11, FI_12, FI_13, FB_10, FB_11, FB_12, FB_13, FB_14, FB_15, FB_16, FI_20, FI_21, FI_22, FI_23, FI_24, FI_25, FI_26, FB_20, FB_21, FB_22, FB_23, FB_24, FB_25, FB_26, FB_27, FI_27, Int.toNat_natCast, Int.toNat_zero] at hf
  all_goals
    have a0 := ha.1 0 (by omega)
    have a1 := ha.1 1 (by omega)
    have a2 := ha.1 2 (by omega)
    have a3 := ha.1 3 (by omega)
  all_goals
    have b1 := hin 1 0 1000 (by simp [hCheck, bH, gH, fM, lH, nw, ap3, i64b, kH, ap3, pb3, pb4, i64l, lH2, gH2, bH2, fM2, bE, oEnd, ap3, pb3, pb4, i64l, bE, rowV, zeroV])
    simp only [Int.reduceLE, reduceIte, Int.reduceNeg] at b1
  all_goals
    simp only [FT, TP, SB.tp, SI.tv, sta, IB.eval, and_true, true_and, ObsT, Ob.Tv, rowT, kix, In.tiv, ↓tbvT, In.tbv, get_cons, get_nil, reduceIte, Nat.reduceEqDiff, Int.reduceToNat, Int.reduceAdd, Int.reduceSub, Int.reduceLE, Int.reduceLT, Int.reduceEq, ne_eq, Bool.false_eq_true, not_true_eq_false, not_false_eq_true, true_iff, false_iff, iff_true, iff_false, false_implies, implies_true, decT, decide_true, decide_false, Bool.decide_eq_true, ap2, pb2, FI_3, FI_8, FI_9, FI_10, FI_11, FI_12, FI_13, FB_10, FB_11, FB_12, FB_13, FB_14, FB_15, FB_16, FI_20, FI_21, FI_22, FI_23, FI_24, FI_25, FI_26, FB_20, FB_21, FB_22, FB_23, FB_24, FB_25, FB_26, FB_27, FI_27, Int.toNat_natCast, Int.toNat_zero, hCheck_inv, hCheck_mu, hCheck, o1, othT, bH, gH, fM, lH, nw, ap3, i64b, kH, ap3, pb3, pb4, i64l, lH2, gH2, bH2, fM2, bE, oEnd, ap3, pb3, pb4, i64l, bE, rowV, zeroV, a0, a1, a2, a3] at hf hi ⊢
  all_goals
    (repeat' (with_reducible apply And.intro)) <;> first
    | omega
    | assumption
    | (unfold inM; omega)
    | exact fun _ h => h hf.1
    | exact fun _ h => hf.1 h
set_option maxRecDepth 100000 in
theorem hCheck_c : LsC ((tm0 hCheck Try.f58 (Try.f58.body.getD .skip)) :: []) hCheck.os [hCheck_L0] := by
  unfold hCheck_L0
  exact ⟨List.forall_mem_cons.2 ⟨⟨⟨_, rfl, rfl⟩, by kernel_rfl⟩, List.forall_mem_cons.2 ⟨⟨⟨_, rfl, rfl⟩, by kernel_rfl⟩, List.forall_mem_nil _⟩⟩, trivial⟩
theorem hCheck_ok : hCheck.Ok Try.prog FI FB :=
  Con.of_plain (body := Try.f58.body.getD .skip) pok fiok (EntsFor.cons hOf_ok EntsFor.nil) hCheck Try.func58 (by kernel_rfl) 4 [] (by kernel_rfl) [hCheck_L0] ⟨hCheck_h0, trivial⟩ hCheck_c
    hCheck_inv hCheck_mu (fun _ _ _ => trivial) fun kv iv0 bv0 hin hF k l iv bv hk ha hi => match k, hk, hi with
    | 0, hk, hi => by
      cases hk
      exact hCheck_o0 kv iv0 bv0 hin hF iv bv ha hi
    | k + 1, hk, _ => by simp at hk
end Go.Sx.Mhw
