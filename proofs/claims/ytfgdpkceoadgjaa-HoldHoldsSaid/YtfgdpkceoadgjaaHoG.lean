/- Holds: the functions, by contract (3). -/
import Derived.Test.YtfgdpkceoadgjaaHoF
namespace Go.Sx.Mhw
set_option linter.unusedVariables false
set_option linter.unusedSimpArgs false
open Go Go.Sx Go.Proofs
noncomputable def i64l : List Nat → List (Nat × Int × Int) := lmap i64b
noncomputable def pb3 (f : Nat) (x : SI) : SB := .ap f (.v 0) (.v 1) x (.c 0) (.c 0) (.c 0)
noncomputable def pb4 (f : Nat) (x y : SI) : SB := .ap f (.v 0) (.v 1) x y (.c 0) (.c 0)
noncomputable def nH (c n m : SI) : List (Nat × Bk) := [(0, .arr kH c n 58 (.d 0))]
noncomputable def rFind : Con := ⟨54, [0, 1, 2, 3, 4], [lH, .it .i64 (.v 4)], gH, i64b 4 :: bH, fM, [⟨[], .it .i64 (ap3 21 (.v 4)), [], 0, 0, [(.lt (ap3 21 (.v 4)) (.v 1), true), (.le (.c (-1)) (ap3 21 (.v 4)), true)]⟩]⟩
noncomputable def rFits2 : Con := ⟨55, [0, 1, 2, 3, 4], [lH, .it .i64 (.v 4)], gH, i64b 4 :: bH, fM, o1 (.bo (pb3 22 (.v 4)))⟩
noncomputable def lH2 : SV := .sl (.k 1) (.v 6) (.v 5) (.v 7)
noncomputable def gH2 : List Gv := [⟨0, .v 2, kH, 0, .v 1⟩, ⟨1, .v 6, kH, 4, .v 5⟩]
noncomputable def bH2 : List (Nat × Int × Int) := [(1, 0, 1000), (2, 0, -1), (5, 0, 1000), (6, 0, -1)]
noncomputable def fM2 : List (SB × Bool) := [(.le (.v 1) (.v 3), true), (.le (.c 0) (.v 3), true), (.le (.v 5) (.v 7), true), (.le (.c 0) (.v 7), true)]
noncomputable def rSame : Con := ⟨46, [0, 1, 2, 3, 4, 5, 6, 7], [lH, lH2], gH2, bH2, fM2, o1 (.bo (pb4 21 (.v 4) (.v 5)))⟩
noncomputable def rSame0 : Con := ⟨46, [0, 1, 2, 3], [.sn, lH], gH, bH, fM, o1 (.bo (.eq (.v 1) (.c 0)))⟩
noncomputable def rSame1 : Con := ⟨46, [0, 1, 2, 3], [lH, .sn], gH, bH, fM, o1 (.bo (.eq (.v 1) (.c 0)))⟩
noncomputable def rSame2 : Con := ⟨46, [], [.sn, .sn], [], [], [], o1 (.bo (.c true))⟩
noncomputable def hLent : Con := ⟨43, [0, 1, 2, 3], [lH], gH, bH, fM, [⟨[], .sl (.n 0) (.c 0) (.v 1) (.d 0), [(0, .arr kH (ap2 26) (.op .add (.v 1) (.c 1)) 58 (.d 0))], 1, 1, [(.le (.op .add (.v 1) (.c 1)) (.d 0), true)]⟩]⟩
noncomputable def oErr (cs : List (SB × Bool)) (n : Int) : Out := ⟨cs, .tp [.sn, .it .i64 (.c n)], [], 0, 0, []⟩
noncomputable def bE : List (Nat × Int × Int) := i64b 4 :: i64b 5 :: bH
noncomputable def oEnd : List Out := [⟨[(pb2 20, false)], .tp [.sn, .it .i64 (.c 2)], [], 0, 0, []⟩, ⟨[(pb2 20, true), (pb4 24 (.v 4) (.v 5), false)], .tp [.sn, .it .i64 (.c 5)], [], 0, 0, []⟩,
  ⟨[(pb2 20, true), (pb4 24 (.v 4) (.v 5), true)], .tp [.sl (.n 0) (.c 0) (.op .add (.v 1) (.c (-1))) (.d 0), .it .i64 (.c 0)], [(0, .arr kH (ap3 22 (ap3 21 (.v 4))) (.op .add (.v 1) (.c (-1))) 58 (.d 0))], 1, 1, [(.le (.op .add (.v 1) (.c (-1))) (.d 0), true), (.lt (.c 0) (.v 1), true)]⟩]
noncomputable def hEnd : Con := ⟨44, [0, 1, 2, 3, 4, 5], [lH, .it .i64 (.v 4), .it .i64 (.v 5)], gH, bE, fM, oEnd⟩
noncomputable def rEnd : Con := ⟨45, [0, 1, 2, 3, 4, 5], [lH, .it .i64 (.v 4), .it .i64 (.v 5)], gH, bE, fM, oEnd⟩
theorem fnd_at {c n s k : Int} (hn : n ≤ 4096) (h0 : 0 ≤ k) (hk : k < n) (hp : fl c k.toNat 0 = s) (h : ∀ j : Nat, (j : Int) < k → fl c j 0 ≠ s) : fndC c n s = k := by rw [fndC_eq hn]; exact fstI_some h0 hk hp h
theorem fnd_no {c n s k : Int} (hn : n ≤ 4096) (hk : ¬ k < n) (h : ∀ j : Nat, (j : Int) < k → fl c j 0 ≠ s) : fndC c n s = -1 := by rw [fndC_eq hn]; exact fstI_none fun j hj => h j (by omega)
noncomputable def rFind_T1 : Tm := ⟨⟨54, 20, [(5, (.it .i64 (.v 25))), (0, (.sl (.k 0) (.v 2) (.v 1) (.v 3))), (1, (.it .i64 (.v 4)))], [(.code (atC Try.f54 [1, 0, 1, 0, 0])), (.inLoop (atC Try.f54 [1, 0, 1, 0, 0])), (.inBlock 0), (.code (atC Try.f54 [1, 1]))], [], .none⟩, [],
    ⟨[], 0, 0, 0, [((.le (.v 1) (.v 3)), .true), ((.le (.c 0) (.v 3)), .true)], [1, 0], [(4, ((-9223372036854775808), 9223372036854775807)), (1, (0, 1000)), (2, (0, (-1))), (25, (0, (-1)))]⟩, [25]⟩
noncomputable def rFind_L0 : List Lf :=
  [(.cut [((.le (.v 1) (.v 3)), .true), ((.le (.c 0) (.v 3)), .true)] 1 ⟨⟨[(25, (.c 0))], []⟩, [], [], []⟩ [] (shT rFind_T1 ⟨⟨[(25, (.c 0))], []⟩, [], [], []⟩))]
noncomputable def rFind_L1 : List Lf :=
  [(.fin [((.eq (.ap 3 (.v 0) (.v 25) (.c 0) (.c 0) (.c 0) (.c 0)) (.v 4)), .true), ((.lt (.v 25) (.v 1)), .true), ((.le (.v 1) (.v 3)), .true), ((.le (.c 0) (.v 3)), .true)] 0 ⟨⟨[], []⟩, [], [], []⟩ [(.ei (.ap 21 (.v 0) (.v 1) (.v 4) (.c 0) (.c 0) (.c 0)) (.v 25)), (.fa (.lt (.ap 21 (.v 0) (.v 1) (.v 4) (.c 0) (.c 0) (.c 0)) (.v 1)) .true)] []), (.cut [((.eq (.ap 3 (.v 0) (.v 25) (.c 0) (.c 0) (.c 0) (.c 0)) (.v 4)), .false), ((.lt (.v 25) (.v 1)), .true), ((.le (.v 1) (.v 3)), .true), ((.le (.c 0) (.v 3)), .true)] 1 ⟨⟨[(25, (.op .add (.v 25) (.c 1)))], []⟩, [], [], []⟩ [] (shT rFind_T1 ⟨⟨[(25, (.op .add (.v 25) (.c 1)))], []⟩, [], [], []⟩)), (.fin [((.lt (.v 25) (.v 1)), .false), ((.le (.v 1) (.v 3)), .true), ((.le (.c 0) (.v 3)), .true)] 0 ⟨⟨[], []⟩, [], [], []⟩ [(.ei (.ap 21 (.v 0) (.v 1) (.v 4) (.c 0) (.c 0) (.c 0)) (.c (-1))), (.fa (.lt (.ap 21 (.v 0) (.v 1) (.v 4) (.c 0) (.c 0) (.c 0)) (.v 1)) .true)] [])]
set_option maxRecDepth 100000 in
theorem rFind_h0 : (ex (ccOf Try.prog BF [58, 84] rFind) ((fun _ => []) (ccOf Try.prog BF [58, 84] rFind)) (dw (ccOf Try.prog BF [58, 84] rFind) ((fun _ => []) (ccOf Try.prog BF [58, 84] rFind)) 1000 4) (stopX []) 4000 (tm0 rFind Try.f54 (Try.f54.body.getD .skip)).f (tm0 rFind Try.f54 (Try.f54.body.getD .skip)).fs (tm0 rFind Try.f54 (Try.f54.body.getD .skip)).H).lfs (ccOf Try.prog BF [58, 84] rFind) ((tm0 rFind Try.f54 (Try.f54.body.getD .skip)) :: [rFind_T1]) rFind.os = some rFind_L0 := by kernel_rfl
set_option maxRecDepth 100000 in
theorem rFind_h1 : (ex (ccOf Try.prog BF [58, 84] rFind) ((fun _ => []) (ccOf Try.prog BF [58, 84] rFind)) (dw (ccOf Try.prog BF [58, 84] rFind) ((fun _ => []) (ccOf Try.prog BF [58, 84] rFind)) 1000 4) (stopX []) 4000 rFind_T1.f rFind_T1.fs rFind_T1.H).lfs (ccOf Try.prog BF [58, 84] rFind) ((tm0 rFind Try.f54 (Try.f54.body.getD .skip)) :: [rFind_T1]) rFind.os = some rFind_L1 := by kernel_rfl
def rFind_inv : (Nat → Int) → (Nat → Bool) → Nat → (Nat → Int) → (Nat → Bool) → Prop := fun iv0 _ k iv _ => match k with
  | 0 => True
  | _ => 0 ≤ iv 25 ∧ iv 25 ≤ iv0 1 ∧ ∀ j : Nat, (j : Int) < iv 25 → fl (iv0 0) j 0 ≠ iv0 4
def rFind_mu : (Nat → Int) → (Nat → Bool) → Nat → (Nat → Int) → (Nat → Bool) → Nat := fun iv0 _ k iv _ => match k with | 0 => 2 ^ 80 | _ => (iv0 1 - iv 25).toNat
set_option maxHeartbeats 0 in
theorem rFind_o0 (kv : Kv) (iv0 : Nat → Int) (bv0 : Nat → Bool) (hin : InB rFind.B iv0) (hF : FT (sta FI FB kv iv0 bv0) (dlt dyn0) rFind.F) (iv : Nat → Int) (bv : Nat → Bool) (ha : Agr 5 iv0 bv0 iv bv) (hi : rFind_inv iv0 bv0 0 iv bv) :
    ∀ lf ∈ rFind_L0, LfT (sta FI FB kv) rFind.os (rFind_inv iv0 bv0) (rFind_mu iv0 bv0) 0 iv bv lf := by
  unfold rFind_L0
  refine List.forall_mem_cons.2 ⟨?_, List.forall_mem_nil _⟩
  all_goals
    intro δ hf
  all_goals
    simp only [FT, TP, SB.tp, SI.tv, sta, IB.eval, and_true, true_and, ObsT, Ob.Tv, rowT, kix, In.tiv, ↓tbvT, In.tbv, get_cons, get_nil, reduceIte, Nat.reduceEqDiff, Int.reduceToNat, Int.reduceAdd, Int.reduceSub, Int.reduceLE, Int.reduceLT, Int.reduceEq, ne_eq, Bool.false_eq_true, not_true_eq_false, not_false_eq_true, true_iff, false_iff, iff_true, iff_false, false_implies, implies_true, decT, decide_true, decide_false, Bool.decide_eq_true, ap2, pb2, FI_3, FI_8, FI_9, FI_10, FI_11, FI_12, FI_13, FB_10, FB_11, FB_12, FB_13, FB_14, FB_15, FB_16, FI_20, FI_21, FI_22, FI_23, FI_24, FI_25, FI_26, FB_20, FB_21, FB_22, FB_23, FB_24, Int.toNat_natCast, Int.toNat_zero] at hf
  all_goals
    have a0 := ha.1 0 (by omega)
    have a1 := ha.1 1 (by omega)
    have a2 := ha.1 2 (by omega)
    have a3 := ha.1 3 (by omega)
    have a4 := ha.1 4 (by omega)
  all_goals
    have b1 := hin 1 0 1000 (by simp [rFind, bH, gH, fM, lH, nw, ap3, i64b, kH, ap3, pb3, pb4, i64l, lH2, gH2, bH2, fM2, bE, oEnd])
    simp only [Int.reduceLE, reduceIte, Int.reduceNeg] at b1
  all_goals
    have b4 := hin 4 (-9223372036854775808) 9223372036854775807 (by simp [rFind, bH, gH, fM, lH, nw, ap3, i64b, kH, ap3, pb3, pb4, i64l, lH2, gH2, bH2, fM2, bE, oEnd])
    simp only [Int.reduceLE, reduceIte, Int.reduceNeg] at b4
  all_goals
    simp only [FT, TP, SB.tp, SI.tv, sta, IB.eval, and_true, true_and, ObsT, Ob.Tv, rowT, kix, In.tiv, ↓tbvT, In.tbv, get_cons, get_nil, reduceIte, Nat.reduceEqDiff, Int.reduceToNat, Int.reduceAdd, Int.reduceSub, Int.reduceLE, Int.reduceLT, Int.reduceEq, ne_eq, Bool.false_eq_true, not_true_eq_false, not_false_eq_true, true_iff, false_iff, iff_true, iff_false, false_implies, implies_true, decT, decide_true, decide_false, Bool.decide_eq_true, ap2, pb2, FI_3, FI_8, FI_9, FI_10, FI_11, FI_12, FI_13, FB_10, FB_11, FB_12, FB_13, FB_14, FB_15, FB_16, FI_20, FI_21, FI_22, FI_23, FI_24, FI_25, FI_26, FB_20, FB_21, FB_22, FB_23, FB_24, Int.toNat_natCast, Int.toNat_zero, rFind_inv, rFind_mu, rFind, o1, othT, bH, gH, fM, lH, nw, ap3, i64b, kH, ap3, pb3, pb4, i64l, lH2, gH2, bH2, fM2, bE, oEnd, a0, a1, a2, a3, a4] at hf hi ⊢
  all_goals
    (repeat' (with_reducible apply And.intro)) <;> first
    | omega
    | assumption
    | (unfold inM; omega)
    | exact fun j hj => by omega
set_option maxHeartbeats 0 in
theorem rFind_o1 (kv : Kv) (iv0 : Nat → Int) (bv0 : Nat → Bool) (hin : InB rFind.B iv0) (hF : FT (sta FI FB kv iv0 bv0) (dlt dyn0) rFind.F) (iv : Nat → Int) (bv : Nat → Bool) (ha : Agr 5 iv0 bv0 iv bv) (hi : rFind_inv iv0 bv0 1 iv bv) :
    ∀ lf ∈ rFind_L1, LfT (sta FI FB kv) rFind.os (rFind_inv iv0 bv0) (rFind_mu iv0 bv0) 1 iv bv lf := by
  unfold rFind_L1
  refine List.forall_mem_cons.2 ⟨?_, List.forall_mem_cons.2 ⟨?_, List.forall_mem_cons.2 ⟨?_, List.forall_mem_nil _⟩⟩⟩
  all_goals
    intro δ hf
  all_goals
    simp only [FT, TP, SB.tp, SI.tv, sta, IB.eval, and_true, true_and, ObsT, Ob.Tv, rowT, kix, In.tiv, ↓tbvT, In.tbv, get_cons, get_nil, reduceIte, Nat.reduceEqDiff, Int.reduceToNat, Int.reduceAdd, Int.reduceSub, Int.reduceLE, Int.reduceLT, Int.reduceEq, ne_eq, Bool.false_eq_true, not_true_eq_false, not_false_eq_true, true_iff, false_iff, iff_true, iff_false, false_implies, implies_true, decT, decide_true, decide_false, Bool.decide_eq_true, ap2, pb2, FI_3, FI_8, FI_9, FI_10, FI_11, FI_12, FI_13, FB_10, FB_11, FB_12, FB_13, FB_14, FB_15, FB_16, FI_20, FI_21, FI_22, FI_23, FI_24, FI_25, FI_26, FB_20, FB_21, FB_22, FB_23, FB_24, Int.toNat_natCast, Int.toNat_zero] at hf
  all_goals
    have a0 := ha.1 0 (by omega)
    have a1 := ha.1 1 (by omega)
    have a2 := ha.1 2 (by omega)
    have a3 := ha.1 3 (by omega)
    have a4 := ha.1 4 (by omega)
  all_goals
    have b1 := hin 1 0 1000 (by simp [rFind, bH, gH, fM, lH, nw, ap3, i64b, kH, ap3, pb3, pb4, i64l, lH2, gH2, bH2, fM2, bE, oEnd])
    simp only [Int.reduceLE, reduceIte, Int.reduceNeg] at b1
  all_goals
    have b4 := hin 4 (-9223372036854775808) 9223372036854775807 (by simp [rFind, bH, gH, fM, lH, nw, ap3, i64b, kH, ap3, pb3, pb4, i64l, lH2, gH2, bH2, fM2, bE, oEnd])
    simp only [Int.reduceLE, reduceIte, Int.reduceNeg] at b4
  all_goals
    simp only [FT, TP, SB.tp, SI.tv, sta, IB.eval, and_true, true_and, ObsT, Ob.Tv, rowT, kix, In.tiv, ↓tbvT, In.tbv, get_cons, get_nil, reduceIte, Nat.reduceEqDiff, Int.reduceToNat, Int.reduceAdd, Int.reduceSub, Int.reduceLE, Int.reduceLT, Int.reduceEq, ne_eq, Bool.false_eq_true, not_true_eq_false, not_false_eq_true, true_iff, false_iff, iff_true, iff_false, false_implies, implies_true, decT, decide_true, decide_false, Bool.decide_eq_true, ap2, pb2, FI_3, FI_8, FI_9, FI_10, FI_11, FI_12, FI_13, FB_10, FB_11, FB_12, FB_13, FB_14, FB_15, FB_16, FI_20, FI_21, FI_22, FI_23, FI_24, FI_25, FI_26, FB_20, FB_21, FB_22, FB_23, FB_24, Int.toNat_natCast, Int.toNat_zero, rFind_inv, rFind_mu, rFind, o1, othT, bH, gH, fM, lH, nw, ap3, i64b, kH, ap3, pb3, pb4, i64l, lH2, gH2, bH2, fM2, bE, oEnd, a0, a1, a2, a3, a4] at hf hi ⊢
  all_goals
    (repeat' (with_reducible apply And.intro)) <;> first
    | omega
    | assumption
    | (unfold inM; omega)
    | exact all_succ hi.1 hi.2.2 (by omega)
    | exact fnd_at (by omega) hi.1 (by omega) hf.1 hi.2.2
    | (rw [fnd_at (by omega) hi.1 (by omega) hf.1 hi.2.2]; omega)
    | exact fnd_no (by omega) hf.1 hi.2.2
    | (rw [fnd_no (by omega) hf.1 hi.2.2]; omega)
set_option maxRecDepth 100000 in
theorem rFind_c : LsC ((tm0 rFind Try.f54 (Try.f54.body.getD .skip)) :: [rFind_T1]) rFind.os [rFind_L0, rFind_L1] := by
  unfold rFind_L0 rFind_L1
  exact ⟨List.forall_mem_cons.2 ⟨⟨⟨_, rfl, rfl⟩, by kernel_rfl⟩, List.forall_mem_nil _⟩, List.forall_mem_cons.2 ⟨⟨⟨_, rfl, rfl⟩, by kernel_rfl⟩, List.forall_mem_cons.2 ⟨⟨⟨_, rfl, rfl⟩, by kernel_rfl⟩, List.forall_mem_cons.2 ⟨⟨⟨_, rfl, rfl⟩, by kernel_rfl⟩, List.forall_mem_nil _⟩⟩⟩, trivial⟩
theorem rFind_ok : rFind.Ok Try.prog FI FB :=
  Con.of_plain (body := Try.f54.body.getD .skip) pok fiok EntsFor.nil rFind Try.func54 (by kernel_rfl) 5 [rFind_T1] (by kernel_rfl) [rFind_L0, rFind_L1] ⟨rFind_h0, rFind_h1, trivial⟩ rFind_c
    rFind_inv rFind_mu (fun _ _ _ => trivial) fun kv iv0 bv0 hin hF k l iv bv hk ha hi => match k, hk, hi with
    | 0, hk, hi => by
      cases hk
      exact rFind_o0 kv iv0 bv0 hin hF iv bv ha hi
    | 1, hk, hi => by
      cases hk
      exact rFind_o1 kv iv0 bv0 hin hF iv bv ha hi
    | k + 2, hk, _ => by simp at hk
noncomputable def rFits2_T1 : Tm := ⟨⟨55, 20, [(5, (.it .i64 (.v 25))), (0, (.sl (.k 0) (.v 2) (.v 1) (.v 3))), (1, (.it .i64 (.v 4)))], [(.code (atC Try.f55 [1, 0, 1, 0, 0])), (.inLoop (atC Try.f55 [1, 0, 1, 0, 0])), (.inBlock 0), (.code (atC Try.f55 [1, 1]))], [], .none⟩, [],
    ⟨[], 0, 0, 0, [((.le (.v 1) (.v 3)), .true), ((.le (.c 0) (.v 3)), .true)], [1, 0], [(4, ((-9223372036854775808), 9223372036854775807)), (1, (0, 1000)), (2, (0, (-1))), (25, (0, (-1)))]⟩, [25]⟩
noncomputable def rFits2_L0 : List Lf :=
  [(.cut [((.le (.v 1) (.v 3)), .true), ((.le (.c 0) (.v 3)), .true)] 1 ⟨⟨[(25, (.c 0))], []⟩, [], [], []⟩ [] (shT rFits2_T1 ⟨⟨[(25, (.c 0))], []⟩, [], [], []⟩))]
noncomputable def rFits2_L1 : List Lf :=
  [(.cut [((.ap 12 (.ap 3 (.v 0) (.v 25) (.c 2) (.c 0) (.c 0) (.c 0)) (.v 4) (.c 0) (.c 0) (.c 0) (.c 0)), .true), ((.lt (.v 25) (.v 1)), .true), ((.le (.v 1) (.v 3)), .true), ((.le (.c 0) (.v 3)), .true)] 1 ⟨⟨[(25, (.op .add (.v 25) (.c 1)))], []⟩, [], [], []⟩ [] (shT rFits2_T1 ⟨⟨[(25, (.op .add (.v 25) (.c 1)))], []⟩, [], [], []⟩)), (.fin [((.ap 12 (.ap 3 (.v 0) (.v 25) (.c 2) (.c 0) (.c 0) (.c 0)) (.v 4) (.c 0) (.c 0) (.c 0) (.c 0)), .false), ((.lt (.v 25) (.v 1)), .true), ((.le (.v 1) (.v 3)), .true), ((.le (.c 0) (.v 3)), .true)] 0 ⟨⟨[], []⟩, [], [], []⟩ [(.eb (.ap 22 (.v 0) (.v 1) (.v 4) (.c 0) (.c 0) (.c 0)) (.c .false))] []), (.fin [((.lt (.v 25) (.v 1)), .false), ((.le (.v 1) (.v 3)), .true), ((.le (.c 0) (.v 3)), .true)] 0 ⟨⟨[], []⟩, [], [], []⟩ [(.eb (.ap 22 (.v 0) (.v 1) (.v 4) (.c 0) (.c 0) (.c 0)) (.c .true))] [])]
set_option maxRecDepth 100000 in
theorem rFits2_h0 : (ex (ccOf Try.prog BF [58, 84] rFits2) ((fun cc => [rFits.ent cc]) (ccOf Try.prog BF [58, 84] rFits2)) (dw (ccOf Try.prog BF [58, 84] rFits2) ((fun cc => [rFits.ent cc]) (ccOf Try.prog BF [58, 84] rFits2)) 1000 4) (stopX []) 4000 (tm0 rFits2 Try.f55 (Try.f55.body.getD .skip)).f (tm0 rFits2 Try.f55 (Try.f55.body.getD .skip)).fs (tm0 rFits2 Try.f55 (Try.f55.body.getD .skip)).H).lfs (ccOf Try.prog BF [58, 84] rFits2) ((tm0 rFits2 Try.f55 (Try.f55.body.getD .skip)) :: [rFits2_T1]) rFits2.os = some rFits2_L0 := by kernel_rfl
set_option maxRecDepth 100000 in
theorem rFits2_h1 : (ex (ccOf Try.prog BF [58, 84] rFits2) ((fun cc => [rFits.ent cc]) (ccOf Try.prog BF [58, 84] rFits2)) (dw (ccOf Try.prog BF [58, 84] rFits2) ((fun cc => [rFits.ent cc]) (ccOf Try.prog BF [58, 84] rFits2)) 1000 4) (stopX []) 4000 rFits2_T1.f rFits2_T1.fs rFits2_T1.H).lfs (ccOf Try.prog BF [58, 84] rFits2) ((tm0 rFits2 Try.f55 (Try.f55.body.getD .skip)) :: [rFits2_T1]) rFits2.os = some rFits2_L1 := by kernel_rfl
def rFits2_inv : (Nat → Int) → (Nat → Bool) → Nat → (Nat → Int) → (Nat → Bool) → Prop := fun iv0 _ k iv _ => match k with
  | 0 => True
  | _ => 0 ≤ iv 25 ∧ iv 25 ≤ iv0 1 ∧ ∀ j : Nat, (j : Int) < iv 25 → fitP (fl (iv0 0) j 2) (iv0 4)
def rFits2_mu : (Nat → Int) → (Nat → Bool) → Nat → (Nat → Int) → (Nat → Bool) → Nat := fun iv0 _ k iv _ => match k with | 0 => 2 ^ 80 | _ => (iv0 1 - iv 25).toNat
set_option maxHeartbeats 0 in
theorem rFits2_o0 (kv : Kv) (iv0 : Nat → Int) (bv0 : Nat → Bool) (hin : InB rFits2.B iv0) (hF : FT (sta FI FB kv iv0 bv0) (dlt dyn0) rFits2.F) (iv : Nat → Int) (bv : Nat → Bool) (ha : Agr 5 iv0 bv0 iv bv) (hi : rFits2_inv iv0 bv0 0 iv bv) :
    ∀ lf ∈ rFits2_L0, LfT (sta FI FB kv) rFits2.os (rFits2_inv iv0 bv0) (rFits2_mu iv0 bv0) 0 iv bv lf := by
  unfold rFits2_L0
  refine List.forall_mem_cons.2 ⟨?_, List.forall_mem_nil _⟩
  all_goals
    intro δ hf
  all_goals
    simp only [FT, TP, SB.tp, SI.tv, sta, IB.eval, and_true, true_and, ObsT, Ob.Tv, rowT, kix, In.tiv, ↓tbvT, In.tbv, get_cons, get_nil, reduceIte, Nat.reduceEqDiff, Int.reduceToNat, Int.reduceAdd, Int.reduceSub, Int.reduceLE, Int.reduceLT, Int.reduceEq, ne_eq, Bool.false_eq_true, not_true_eq_false, not_false_eq_true, true_iff, false_iff, iff_true, iff_false, false_implies, implies_true, decT, decide_true, decide_false, Bool.decide_eq_true, ap2, pb2, FI_3, FI_8, FI_9, FI_10, FI_11, FI_12, FI_13, FB_10, FB_11, FB_12, FB_13, FB_14, FB_15, FB_16, FI_20, FI_21, FI_22, FI_23, FI_24, FI_25, FI_26, FB_20, FB_21, FB_22, FB_23, FB_24, Int.toNat_natCast, Int.toNat_zero] at hf
  all_goals
    have a0 := ha.1 0 (by omega)
    have a1 := ha.1 1 (by omega)
    have a2 := ha.1 2 (by omega)
    have a3 := ha.1 3 (by omega)
    have a4 := ha.1 4 (by omega)
  all_goals
    have b1 := hin 1 0 1000 (by simp [rFits2, bH, gH, fM, lH, nw, ap3, i64b, kH, ap3, pb3, pb4, i64l, lH2, gH2, bH2, fM2, bE, oEnd])
    simp only [Int.reduceLE, reduceIte, Int.reduceNeg] at b1
  all_goals
    have b4 := hin 4 (-9223372036854775808) 9223372036854775807 (by simp [rFits2, bH, gH, fM, lH, nw, ap3, i64b, kH, ap3, pb3, pb4, i64l, lH2, gH2, bH2, fM2, bE, oEnd])
    simp only [Int.reduceLE, reduceIte, Int.reduceNeg] at b4
  all_goals
    simp only [FT, TP, SB.tp, SI.tv, sta, IB.eval, and_true, true_and, ObsT, Ob.Tv, rowT, kix, In.tiv, ↓tbvT, In.tbv, get_cons, get_nil, reduceIte, Nat.reduceEqDiff, Int.reduceToNat, Int.reduceAdd, Int.reduceSub, Int.reduceLE, Int.reduceLT, Int.reduceEq, ne_eq, Bool.false_eq_true, not_true_eq_false, not_false_eq_true, true_iff, false_iff, iff_true, iff_false, false_implies, implies_true, decT, decide_true, decide_false, Bool.decide_eq_true, ap2, pb2, FI_3, FI_8, FI_9, FI_10, FI_11, FI_12, FI_13, FB_10, FB_11, FB_12, FB_13, FB_14, FB_15, FB_16, FI_20, FI_21, FI_22, FI_23, FI_24, FI_25, FI_26, FB_20, FB_21, FB_22, FB_23, FB_24, Int.toNat_natCast, Int.toNat_zero, rFits2_inv, rFits2_mu, rFits2, o1, othT, bH, gH, fM, lH, nw, ap3, i64b, kH, ap3, pb3, pb4, i64l, lH2, gH2, bH2, fM2, bE, oEnd, a0, a1, a2, a3, a4] at hf hi ⊢
  all_goals
    (repeat' (with_reducible apply And.intro)) <;> first
    | omega
    | assumption
    | (unfold inM; omega)
    | exact fun j hj => by omega
set_option maxHeartbeats 0 in
theorem rFits2_o1 (kv : Kv) (iv0 : Nat → Int) (bv0 : Nat → Bool) (hin : InB rFits2.B iv0) (hF : FT (sta FI FB kv iv0 bv0) (dlt dyn0) rFits2.F) (iv : Nat → Int) (bv : Nat → Bool) (ha : Agr 5 iv0 bv0 iv bv) (hi : rFits2_inv iv0 bv0 1 iv bv) :
    ∀ lf ∈ rFits2_L1, LfT (sta FI FB kv) rFits2.os (rFits2_inv iv0 bv0) (rFits2_mu iv0 bv0) 1 iv bv lf := by
  unfold rFits2_L1
  refine List.forall_mem_cons.2 ⟨?_, List.forall_mem_cons.2 ⟨?_, List.forall_mem_cons.2 ⟨?_, List.forall_mem_nil _⟩⟩⟩
  all_goals
    intro δ hf
  all_goals
    simp only [FT, TP, SB.tp, SI.tv, sta, IB.eval, and_true, true_and, ObsT, Ob.Tv, rowT, kix, In.tiv, ↓tbvT, In.tbv, get_cons, get_nil, reduceIte, Nat.reduceEqDiff, Int.reduceToNat, Int.reduceAdd, Int.reduceSub, Int.reduceLE, Int.reduceLT, Int.reduceEq, ne_eq, Bool.false_eq_true, not_true_eq_false, not_false_eq_true, true_iff, false_iff, iff_true, iff_false, false_implies, implies_true, decT, decide_true, decide_false, Bool.decide_eq_true, ap2, pb2, FI_3, FI_8, FI_9, FI_10, FI_11, FI_12, FI_13, FB_10, FB_11, FB_12, FB_13, FB_14, FB_15, FB_16, FI_20, FI_21, FI_22, FI_23, FI_24, FI_25, FI_26, FB_20, FB_21, FB_22, FB_23, FB_24, Int.toNat_natCast, Int.toNat_zero] at hf
  all_goals
    have a0 := ha.1 0 (by omega)
    have a1 := ha.1 1 (by omega)
    have a2 := ha.1 2 (by omega)
    have a3 := ha.1 3 (by omega)
    have a4 := ha.1 4 (by omega)
  all_goals
    have b1 := hin 1 0 1000 (by simp [rFits2, bH, gH, fM, lH, nw, ap3, i64b, kH, ap3, pb3, pb4, i64l, lH2, gH2, bH2, fM2, bE, oEnd])
    simp only [Int.reduceLE, reduceIte, Int.reduceNeg] at b1
  all_goals
    have b4 := hin 4 (-9223372036854775808) 9223372036854775807 (by simp [rFits2, bH, gH, fM, lH, nw, ap3, i64b, kH, ap3, pb3, pb4, i64l, lH2, gH2, bH2, fM2, bE, oEnd])
    simp only [Int.reduceLE, reduceIte, Int.reduceNeg] at b4
  all_goals
    simp only [FT, TP, SB.tp, SI.tv, sta, IB.eval, and_true, true_and, ObsT, Ob.Tv, rowT, kix, In.tiv, ↓tbvT, In.tbv, get_cons, get_nil, reduceIte, Nat.reduceEqDiff, Int.reduceToNat, Int.reduceAdd, Int.reduceSub, Int.reduceLE, Int.reduceLT, Int.reduceEq, ne_eq, Bool.false_eq_true, not_true_eq_false, not_false_eq_true, true_iff, false_iff, iff_true, iff_false, false_implies, implies_true, decT, decide_true, decide_false, Bool.decide_eq_true, ap2, pb2, FI_3, FI_8, FI_9, FI_10, FI_11, FI_12, FI_13, FB_10, FB_11, FB_12, FB_13, FB_14, FB_15, FB_16, FI_20, FI_21, FI_22, FI_23, FI_24, FI_25, FI_26, FB_20, FB_21, FB_22, FB_23, FB_24, Int.toNat_natCast, Int.toNat_zero, rFits2_inv, rFits2_mu, rFits2, o1, othT, bH, gH, fM, lH, nw, ap3, i64b, kH, ap3, pb3, pb4, i64l, lH2, gH2, bH2, fM2, bE, oEnd, a0, a1, a2, a3, a4] at hf hi ⊢
  all_goals
    (repeat' (with_reducible apply And.intro)) <;> first
    | omega
    | assumption
    | (unfold inM; omega)
    | exact all_succ hi.1 hi.2.2 hf.1
    | (exact fun h => hf.1 (h (iv 25).toNat (by omega)))
    | (exact fun j hj => hi.2.2 j (by omega))
set_option maxRecDepth 100000 in
theorem rFits2_c : LsC ((tm0 rFits2 Try.f55 (Try.f55.body.getD .skip)) :: [rFits2_T1]) rFits2.os [rFits2_L0, rFits2_L1] := by
  unfold rFits2_L0 rFits2_L1
  exact ⟨List.forall_mem_cons.2 ⟨⟨⟨_, rfl, rfl⟩, by kernel_rfl⟩, List.forall_mem_nil _⟩, List.forall_mem_cons.2 ⟨⟨⟨_, rfl, rfl⟩, by kernel_rfl⟩, List.forall_mem_cons.2 ⟨⟨⟨_, rfl, rfl⟩, by kernel_rfl⟩, List.forall_mem_cons.2 ⟨⟨⟨_, rfl, rfl⟩, by kernel_rfl⟩, List.forall_mem_nil _⟩⟩⟩, trivial⟩
theorem rFits2_ok : rFits2.Ok Try.prog FI FB :=
  Con.of_plain (body := Try.f55.body.getD .skip) pok fiok (EntsFor.cons rFits_ok EntsFor.nil) rFits2 Try.func55 (by kernel_rfl) 5 [rFits2_T1] (by kernel_rfl) [rFits2_L0, rFits2_L1] ⟨rFits2_h0, rFits2_h1, trivial⟩ rFits2_c
    rFits2_inv rFits2_mu (fun _ _ _ => trivial) fun kv iv0 bv0 hin hF k l iv bv hk ha hi => match k, hk, hi with
    | 0, hk, hi => by
      cases hk
      exact rFits2_o0 kv iv0 bv0 hin hF iv bv ha hi
    | 1, hk, hi => by
      cases hk
      exact rFits2_o1 kv iv0 bv0 hin hF iv bv ha hi
    | k + 2, hk, _ => by simp at hk
noncomputable def rSame_T1 : Tm := ⟨⟨46, 26, [(5, (.it .i64 (.v 28))), (0, (.sl (.k 0) (.v 2) (.v 1) (.v 3))), (1, (.sl (.k 1) (.v 6) (.v 5) (.v 7)))], [(.code (atC Try.f46 [1, 1, 0, 1, 0, 0])), (.inLoop (atC Try.f46 [1, 1, 0, 1, 0, 0])), (.inBlock 0), (.code (atC Try.f46 [1, 1, 1]))], [], .none⟩, [],
    ⟨[], 0, 0, 0, [((.eq (.v 1) (.v 5)), .true), ((.le (.v 1) (.v 3)), .true), ((.le (.c 0) (.v 3)), .true), ((.le (.v 5) (.v 7)), .true), ((.le (.c 0) (.v 7)), .true)], [2, 1, 0], [(1, (0, 1000)), (2, (0, (-1))), (5, (0, 1000)), (6, (0, (-1))), (28, (0, (-1)))]⟩, [28]⟩
noncomputable def rSame_L0 : List Lf :=
  [(.cut [((.eq (.v 1) (.v 5)), .true), ((.le (.v 1) (.v 3)), .true), ((.le (.c 0) (.v 3)), .true), ((.le (.v 5) (.v 7)), .true), ((.le (.c 0) (.v 7)), .true)] 1 ⟨⟨[(28, (.c 0))], []⟩, [], [], []⟩ [] (shT rSame_T1 ⟨⟨[(28, (.c 0))], []⟩, [], [], []⟩)), (.fin [((.eq (.v 1) (.v 5)), .false), ((.le (.v 1) (.v 3)), .true), ((.le (.c 0) (.v 3)), .true), ((.le (.v 5) (.v 7)), .true), ((.le (.c 0) (.v 7)), .true)] 0 ⟨⟨[], []⟩, [], [], []⟩ [(.eb (.ap 21 (.v 0) (.v 1) (.v 4) (.v 5) (.c 0) (.c 0)) (.c .false))] [])]
noncomputable def rSame_L1 : List Lf :=
  [(.cut [((.eq (.ap 3 (.v 0) (.v 28) (.c 2) (.c 0) (.c 0) (.c 0)) (.ap 3 (.v 4) (.v 28) (.c 2) (.c 0) (.c 0) (.c 0))), .true), ((.eq (.ap 3 (.v 0) (.v 28) (.c 1) (.c 0) (.c 0) (.c 0)) (.ap 3 (.v 4) (.v 28) (.c 1) (.c 0) (.c 0) (.c 0))), .true), ((.eq (.ap 3 (.v 0) (.v 28) (.c 0) (.c 0) (.c 0) (.c 0)) (.ap 3 (.v 4) (.v 28) (.c 0) (.c 0) (.c 0) (.c 0))), .true), ((.lt (.v 28) (.v 1)), .true), ((.eq (.v 1) (.v 5)), .true), ((.le (.v 1) (.v 3)), .true), ((.le (.c 0) (.v 3)), .true), ((.le (.v 5) (.v 7)), .true), ((.le (.c 0) (.v 7)), .true)] 1 ⟨⟨[(28, (.op .add (.v 28) (.c 1)))], []⟩, [], [], []⟩ [] (shT rSame_T1 ⟨⟨[(28, (.op .add (.v 28) (.c 1)))], []⟩, [], [], []⟩)), (.fin [((.eq (.ap 3 (.v 0) (.v 28) (.c 2) (.c 0) (.c 0) (.c 0)) (.ap 3 (.v 4) (.v 28) (.c 2) (.c 0) (.c 0) (.c 0))), .false), ((.eq (.ap 3 (.v 0) (.v 28) (.c 1) (.c 0) (.c 0) (.c 0)) (.ap 3 (.v 4) (.v 28) (.c 1) (.c 0) (.c 0) (.c 0))), .true), ((.eq (.ap 3 (.v 0) (.v 28) (.c 0) (.c 0) (.c 0) (.c 0)) (.ap 3 (.v 4) (.v 28) (.c 0) (.c 0) (.c 0) (.c 0))), .true), ((.lt (.v 28) (.v 1)), .true), ((.eq (.v 1) (.v 5)), .true), ((.le (.v 1) (.v 3)), .true), ((.le (.c 0) (.v 3)), .true), ((.le (.v 5) (.v 7)), .true), ((.le (.c 0) (.v 7)), .true)] 0 ⟨⟨[], []⟩, [], [], []⟩ [(.eb (.ap 21 (.v 0) (.v 1) (.v 4) (.v 5) (.c 0) (.c 0)) (.c .false))] []), (.fin [((.eq (.ap 3 (.v 0) (.v 28) (.c 1) (.c 0) (.c 0) (.c 0)) (.ap 3 (.v 4) (.v 28) (.c 1) (.c 0) (.c 0) (.c 0))), .false), ((.eq (.ap 3 (.v 0) (.v 28) (.c 0) (.c 0) (.c 0) (.c 0)) (.ap 3 (.v 4) (.v 28) (.c 0) (.c 0) (.c 0) (.c 0))), .true), ((.lt (.v 28) (.v 1)), .true), ((.eq (.v 1) (.v 5)), .true), ((.le (.v 1) (.v 3)), .true), ((.le (.c 0) (.v 3)), .true), ((.le (.v 5) (.v 7)), .true), ((.le (.c 0) (.v 7)), .true)] 0 ⟨⟨[], []⟩, [], [], []⟩ [(.eb (.ap 21 (.v 0) (.v 1) (.v 4) (.v 5) (.c 0) (.c 0)) (.c .false))] []), (.fin [((.eq (.ap 3 (.v 0) (.v 28) (.c 0) (.c 0) (.c 0) (.c 0)) (.ap 3 (.v 4) (.v 28) (.c 0) (.c 0) (.c 0) (.c 0))), .false), ((.lt (.v 28) (.v 1)), .true), ((.eq (.v 1) (.v 5)), .true), ((.le (.v 1) (.v 3)), .true), ((.le (.c 0) (.v 3)), .true), ((.le (.v 5) (.v 7)), .true), ((.le (.c 0) (.v 7)), .true)] 0 ⟨⟨[], []⟩, [], [], []⟩ [(.eb (.ap 21 (.v 0) (.v 1) (.v 4) (.v 5) (.c 0) (.c 0)) (.c .false))] []), (.fin [((.lt (.v 28) (.v 1)), .false), ((.eq (.v 1) (.v 5)), .true), ((.le (.v 1) (.v 3)), .true), ((.le (.c 0) (.v 3)), .true), ((.le (.v 5) (.v 7)), .true), ((.le (.c 0) (.v 7)), .true)] 0 ⟨⟨[], []⟩, [], [], []⟩ [(.eb (.ap 21 (.v 0) (.v 1) (.v 4) (.v 5) (.c 0) (.c 0)) (.c .true))] [])]
set_option maxRecDepth 100000 in
theorem rSame_h0 : (ex (ccOf Try.prog BF [58, 84] rSame) ((fun _ => []) (ccOf Try.prog BF [58, 84] rSame)) (dw (ccOf Try.prog BF [58, 84] rSame) ((fun _ => []) (ccOf Try.prog BF [58, 84] rSame)) 1000 4) (stopX []) 4000 (tm0 rSame Try.f46 (Try.f46.body.getD .skip)).f (tm0 rSame Try.f46 (Try.f46.body.getD .skip)).fs (tm0 rSame Try.f46 (Try.f46.body.getD .skip)).H).lfs (ccOf Try.prog BF [58, 84] rSame) ((tm0 rSame Try.f46 (Try.f46.body.getD .skip)) :: [rSame_T1]) rSame.os = some rSame_L0 := by kernel_rfl
set_option maxRecDepth 100000 in
theorem rSame_h1 : (ex (ccOf Try.prog BF [58, 84] rSame) ((fun _ => []) (ccOf Try.prog BF [58, 84] rSame)) (dw (ccOf Try.prog BF [58, 84] rSame) ((fun _ => []) (ccOf Try.prog BF [58, 84] rSame)) 1000 4) (stopX []) 4000 rSame_T1.f rSame_T1.fs rSame_T1.H).lfs (ccOf Try.prog BF [58, 84] rSame) ((tm0 rSame Try.f46 (Try.f46.body.getD .skip)) :: [rSame_T1]) rSame.os = some rSame_L1 := by kernel_rfl
def rSame_inv : (Nat → Int) → (Nat → Bool) → Nat → (Nat → Int) → (Nat → Bool) → Prop := fun iv0 _ k iv _ => match k with
  | 0 => True
  | _ => iv0 1 = iv0 5 ∧ 0 ≤ iv 28 ∧ iv 28 ≤ iv0 1 ∧ ∀ j : Nat, (j : Int) < iv 28 → fl (iv0 0) j 0 = fl (iv0 4) j 0 ∧ fl (iv0 0) j 1 = fl (iv0 4) j 1 ∧ fl (iv0 0) j 2 = fl (iv0 4) j 2
def rSame_mu : (Nat → Int) → (Nat → Bool) → Nat → (Nat → Int) → (Nat → Bool) → Nat := fun iv0 _ k iv _ => match k with | 0 => 2 ^ 80 | _ => (iv0 1 - iv 28).toNat
set_option maxHeartbeats 0 in
theorem rSame_o0 (kv : Kv) (iv0 : Nat → Int) (bv0 : Nat → Bool) (hin : InB rSame.B iv0) (hF : FT (sta FI FB kv iv0 bv0) (dlt dyn0) rSame.F) (iv : Nat → Int) (bv : Nat → Bool) (ha : Agr 8 iv0 bv0 iv bv) (hi : rSame_inv iv0 bv0 0 iv bv) :
    ∀ lf ∈ rSame_L0, LfT (sta FI FB kv) rSame.os (rSame_inv iv0 bv0) (rSame_mu iv0 bv0) 0 iv bv lf := by
  unfold rSame_L0
  refine List.forall_mem_cons.2 ⟨?_, List.forall_mem_cons.2 ⟨?_, List.forall_mem_nil _⟩⟩
  all_goals
    intro δ hf
  all_goals
    simp only [FT, TP, SB.tp, SI.tv, sta, IB.eval, and_true, true_and, ObsT, Ob.Tv, rowT, kix, In.tiv, ↓tbvT, In.tbv, get_cons, get_nil, reduceIte, Nat.reduceEqDiff, Int.reduceToNat, Int.reduceAdd, Int.reduceSub, Int.reduceLE, Int.reduceLT, Int.reduceEq, ne_eq, Bool.false_eq_true, not_true_eq_false, not_false_eq_true, true_iff, false_iff, iff_true, iff_false, false_implies, implies_true, decT, decide_true, decide_false, Bool.decide_eq_true, ap2, pb2, FI_3, FI_8, FI_9, FI_10, FI_11, FI_12, FI_13, FB_10, FB_11, FB_12, FB_13, FB_14, FB_15, FB_16, FI_20, FI_21, FI_22, FI_23, FI_24, FI_25, FI_26, FB_20, FB_21, FB_22, FB_23, FB_24, Int.toNat_natCast, Int.toNat_zero] at hf
  all_goals
    have a0 := ha.1 0 (by omega)
    have a1 := ha.1 1 (by omega)
    have a2 := ha.1 2 (by omega)
    have a3 := ha.1 3 (by omega)
    have a4 := ha.1 4 (by omega)
    have a5 := ha.1 5 (by omega)
    have a6 := ha.1 6 (by omega)
    have a7 := ha.1 7 (by omega)
  all_goals
    have b1 := hin 1 0 1000 (by simp [rSame, bH, gH, fM, lH, nw, ap3, i64b, kH, ap3, pb3, pb4, i64l, lH2, gH2, bH2, fM2, bE, oEnd])
    simp only [Int.reduceLE, reduceIte, Int.reduceNeg] at b1
  all_goals
    have b5 := hin 5 0 1000 (by simp [rSame, bH, gH, fM, lH, nw, ap3, i64b, kH, ap3, pb3, pb4, i64l, lH2, gH2, bH2, fM2, bE, oEnd])
    simp only [Int.reduceLE, reduceIte, Int.reduceNeg] at b5
  all_goals
    simp only [FT, TP, SB.tp, SI.tv, sta, IB.eval, and_true, true_and, ObsT, Ob.Tv, rowT, kix, In.tiv, ↓tbvT, In.tbv, get_cons, get_nil, reduceIte, Nat.reduceEqDiff, Int.reduceToNat, Int.reduceAdd, Int.reduceSub, Int.reduceLE, Int.reduceLT, Int.reduceEq, ne_eq, Bool.false_eq_true, not_true_eq_false, not_false_eq_true, true_iff, false_iff, iff_true, iff_false, false_implies, implies_true, decT, decide_true, decide_false, Bool.decide_eq_true, ap2, pb2, FI_3, FI_8, FI_9, FI_10, FI_11, FI_12, FI_13, FB_10, FB_11, FB_12, FB_13, FB_14, FB_15, FB_16, FI_20, FI_21, FI_22, FI_23, FI_24, FI_25, FI_26, FB_20, FB_21, FB_22, FB_23, FB_24, Int.toNat_natCast, Int.toNat_zero, rSame_inv, rSame_mu, rSame, o1, othT, bH, gH, fM, lH, nw, ap3, i64b, kH, ap3, pb3, pb4, i64l, lH2, gH2, bH2, fM2, bE, oEnd, a0, a1, a2, a3, a4, a5, a6, a7] at hf hi ⊢
  all_goals
    (repeat' (with_reducible apply And.intro)) <;> first
    | omega
    | assumption
    | (unfold inM; omega)
    | exact fun j hj => by omega
    | (exact fun h => hf.1 h.1)
set_option maxHeartbeats 0 in
theorem rSame_o1 (kv : Kv) (iv0 : Nat → Int) (bv0 : Nat → Bool) (hin : InB rSame.B iv0) (hF : FT (sta FI FB kv iv0 bv0) (dlt dyn0) rSame.F) (iv : Nat → Int) (bv : Nat → Bool) (ha : Agr 8 iv0 bv0 iv bv) (hi : rSame_inv iv0 bv0 1 iv bv) :
    ∀ lf ∈ rSame_L1, LfT (sta FI FB kv) rSame.os (rSame_inv iv0 bv0) (rSame_mu iv0 bv0) 1 iv bv lf := by
  unfold rSame_L1
  refine List.forall_mem_cons.2 ⟨?_, List.forall_mem_cons.2 ⟨?_, List.forall_mem_cons.2 ⟨?_, List.forall_mem_cons.2 ⟨?_, List.forall_mem_cons.2 ⟨?_, List.forall_mem_nil _⟩⟩⟩⟩⟩
  all_goals
    intro δ hf
  all_goals
    simp only [FT, TP, SB.tp, SI.tv, sta, IB.eval, and_true, true_and, ObsT, Ob.Tv, rowT, kix, In.tiv, ↓tbvT, In.tbv, get_cons, get_nil, reduceIte, Nat.reduceEqDiff, Int.reduceToNat, Int.reduceAdd, Int.reduceSub, Int.reduceLE, Int.reduceLT, Int.reduceEq, ne_eq, Bool.false_eq_true, not_true_eq_false, not_false_eq_true, true_iff, false_iff, iff_true, iff_false, false_implies, implies_true, decT, decide_true, decide_false, Bool.decide_eq_true, ap2, pb2, FI_3, FI_8, FI_9, FI_10, FI_11, FI_12, FI_13, FB_10, FB_11, FB_12, FB_13, FB_14, FB_15, FB_16, FI_20, FI_21, FI_22, FI_23, FI_24, FI_25, FI_26, FB_20, FB_21, FB_22, FB_23, FB_24, Int.toNat_natCast, Int.toNat_zero] at hf
  all_goals
    have a0 := ha.1 0 (by omega)
    have a1 := ha.1 1 (by omega)
    have a2 := ha.1 2 (by omega)
    have a3 := ha.1 3 (by omega)
    have a4 := ha.1 4 (by omega)
    have a5 := ha.1 5 (by omega)
    have a6 := ha.1 6 (by omega)
    have a7 := ha.1 7 (by omega)
  all_goals
    have b1 := hin 1 0 1000 (by simp [rSame, bH, gH, fM, lH, nw, ap3, i64b, kH, ap3, pb3, pb4, i64l, lH2, gH2, bH2, fM2, bE, oEnd])
    simp only [Int.reduceLE, reduceIte, Int.reduceNeg] at b1
  all_goals
    have b5 := hin 5 0 1000 (by simp [rSame, bH, gH, fM, lH, nw, ap3, i64b, kH, ap3, pb3, pb4, i64l, lH2, gH2, bH2, fM2, bE, oEnd])
    simp only [Int.reduceLE, reduceIte, Int.reduceNeg] at b5
  all_goals
    simp only [FT, TP, SB.tp, SI.tv, sta, IB.eval, and_true, true_and, ObsT, Ob.Tv, rowT, kix, In.tiv, ↓tbvT, In.tbv, get_cons, get_nil, reduceIte, Nat.reduceEqDiff, Int.reduceToNat, Int.reduceAdd, Int.reduceSub, Int.reduceLE, Int.reduceLT, Int.reduceEq, ne_eq, Bool.false_eq_true, not_true_eq_false, not_false_eq_true, true_iff, false_iff, iff_true, iff_false, false_implies, implies_true, decT, decide_true, decide_false, Bool.decide_eq_true, ap2, pb2, FI_3, FI_8, FI_9, FI_10, FI_11, FI_12, FI_13, FB_10, FB_11, FB_12, FB_13, FB_14, FB_15, FB_16, FI_20, FI_21, FI_22, FI_23, FI_24, FI_25, FI_26, FB_20, FB_21, FB_22, FB_23, FB_24, Int.toNat_natCast, Int.toNat_zero, rSame_inv, rSame_mu, rSame, o1, othT, bH, gH, fM, lH, nw, ap3, i64b, kH, ap3, pb3, pb4, i64l, lH2, gH2, bH2, fM2, bE, oEnd, a0, a1, a2, a3, a4, a5, a6, a7] at hf hi ⊢
  all_goals
    (repeat' (with_reducible apply And.intro)) <;> first
    | omega
    | assumption
    | (unfold inM; omega)
    | exact all_succ hi.2.1 hi.2.2.2 ⟨hf.2.2.1, hf.2.1, hf.1⟩
    | (exact ⟨hi.1, fun j hj => hi.2.2.2 j (by omega)⟩)
    | (exact fun h => hf.1 (h.2 (iv 28).toNat (by omega)).1)
    | (exact fun h => hf.1 (h.2 (iv 28).toNat (by omega)).2.1)
    | (exact fun h => hf.1 (h.2 (iv 28).toNat (by omega)).2.2)
set_option maxRecDepth 100000 in
theorem rSame_c : LsC ((tm0 rSame Try.f46 (Try.f46.body.getD .skip)) :: [rSame_T1]) rSame.os [rSame_L0, rSame_L1] := by
  unfold rSame_L0 rSame_L1
  exact ⟨List.forall_mem_cons.2 ⟨⟨⟨_, rfl, rfl⟩, by kernel_rfl⟩, List.forall_mem_cons.2 ⟨⟨⟨_, rfl, rfl⟩, by kernel_rfl⟩, List.forall_mem_nil _⟩⟩, List.forall_mem_cons.2 ⟨⟨⟨_, rfl, rfl⟩, by kernel_rfl⟩, List.forall_mem_cons.2 ⟨⟨⟨_, rfl, rfl⟩, by kernel_rfl⟩, List.forall_mem_cons.2 ⟨⟨⟨_, rfl, rfl⟩, by kernel_rfl⟩, List.forall_mem_cons.2 ⟨⟨⟨_, rfl, rfl⟩, by kernel_rfl⟩, List.forall_mem_cons.2 ⟨⟨⟨_, rfl, rfl⟩, by kernel_rfl⟩, List.forall_mem_nil _⟩⟩⟩⟩⟩, trivial⟩
theorem rSame_ok : rSame.Ok Try.prog FI FB :=
  Con.of_plain (body := Try.f46.body.getD .skip) pok fiok EntsFor.nil rSame Try.func46 (by kernel_rfl) 8 [rSame_T1] (by kernel_rfl) [rSame_L0, rSame_L1] ⟨rSame_h0, rSame_h1, trivial⟩ rSame_c
    rSame_inv rSame_mu (fun _ _ _ => trivial) fun kv iv0 bv0 hin hF k l iv bv hk ha hi => match k, hk, hi with
    | 0, hk, hi => by
      cases hk
      exact rSame_o0 kv iv0 bv0 hin hF iv bv ha hi
    | 1, hk, hi => by
      cases hk
      exact rSame_o1 kv iv0 bv0 hin hF iv bv ha hi
    | k + 2, hk, _ => by simp at hk
noncomputable def rSame0_T1 : Tm := ⟨⟨46, 26, [(5, (.it .i64 (.c 0))), (0, .sn), (1, (.sl (.k 0) (.v 2) (.v 1) (.v 3)))], [(.code (atC Try.f46 [1, 1, 0, 1, 0, 0])), (.inLoop (atC Try.f46 [1, 1, 0, 1, 0, 0])), (.inBlock 0), (.code (atC Try.f46 [1, 1, 1]))], [], .none⟩, [],
    ⟨[], 0, 0, 0, [((.eq (.c 0) (.v 1)), .true), ((.le (.v 1) (.v 3)), .true), ((.le (.c 0) (.v 3)), .true)], [1, 0], [(1, (0, 0)), (1, (0, 1000)), (2, (0, (-1)))]⟩, []⟩
noncomputable def rSame0_L0 : List Lf :=
  [(.cut [((.eq (.c 0) (.v 1)), .true), ((.le (.v 1) (.v 3)), .true), ((.le (.c 0) (.v 3)), .true)] 1 ⟨⟨[], []⟩, [], [], []⟩ [] (shT rSame0_T1 ⟨⟨[], []⟩, [], [], []⟩)), (.fin [((.eq (.c 0) (.v 1)), .false), ((.le (.v 1) (.v 3)), .true), ((.le (.c 0) (.v 3)), .true)] 0 ⟨⟨[], []⟩, [], [], []⟩ [(.eb (.eq (.v 1) (.c 0)) (.c .false))] [])]
noncomputable def rSame0_L1 : List Lf :=
  [(.fin [((.eq (.c 0) (.v 1)), .true), ((.le (.v 1) (.v 3)), .true), ((.le (.c 0) (.v 3)), .true)] 0 ⟨⟨[], []⟩, [], [], []⟩ [(.eb (.eq (.v 1) (.c 0)) (.c .true))] [])]
set_option maxRecDepth 100000 in
theorem rSame0_h0 : (ex (ccOf Try.prog BF [58, 84] rSame0) ((fun _ => []) (ccOf Try.prog BF [58, 84] rSame0)) (dw (ccOf Try.prog BF [58, 84] rSame0) ((fun _ => []) (ccOf Try.prog BF [58, 84] rSame0)) 1000 4) (stopX []) 4000 (tm0 rSame0 Try.f46 (Try.f46.body.getD .skip)).f (tm0 rSame0 Try.f46 (Try.f46.body.getD .skip)).fs (tm0 rSame0 Try.f46 (Try.f46.body.getD .skip)).H).lfs (ccOf Try.prog BF [58, 84] rSame0) ((tm0 rSame0 Try.f46 (Try.f46.body.getD .skip)) :: [rSame0_T1]) rSame0.os = some rSame0_L0 := by kernel_rfl
set_option maxRecDepth 100000 in
theorem rSame0_h1 : (ex (ccOf Try.prog BF [58, 84] rSame0) ((fun _ => []) (ccOf Try.prog BF [58, 84] rSame0)) (dw (ccOf Try.prog BF [58, 84] rSame0) ((fun _ => []) (ccOf Try.prog BF [58, 84] rSame0)) 1000 4) (stopX []) 4000 rSame0_T1.f rSame0_T1.fs rSame0_T1.H).lfs (ccOf Try.prog BF [58, 84] rSame0) ((tm0 rSame0 Try.f46 (Try.f46.body.getD .skip)) :: [rSame0_T1]) rSame0.os = some rSame0_L1 := by kernel_rfl
def rSame0_inv : (Nat → Int) → (Nat → Bool) → Nat → (Nat → Int) → (Nat → Bool) → Prop := fun iv0 _ k _ _ => match k with | 0 => True | _ => iv0 1 = 0
def rSame0_mu : (Nat → Int) → (Nat → Bool) → Nat → (Nat → Int) → (Nat → Bool) → Nat := fun _ _ k _ _ => match k with | 0 => 1 | _ => 0
set_option maxHeartbeats 0 in
theorem rSame0_o0 (kv : Kv) (iv0 : Nat → Int) (bv0 : Nat → Bool) (hin : InB rSame0.B iv0) (hF : FT (sta FI FB kv iv0 bv0) (dlt dyn0) rSame0.F) (iv : Nat → Int) (bv : Nat → Bool) (ha : Agr 4 iv0 bv0 iv bv) (hi : rSame0_inv iv0 bv0 0 iv bv) :
    ∀ lf ∈ rSame0_L0, LfT (sta FI FB kv) rSame0.os (rSame0_inv iv0 bv0) (rSame0_mu iv0 bv0) 0 iv bv lf := by
  unfold rSame0_L0
  refine List.forall_mem_cons.2 ⟨?_, List.forall_mem_cons.2 ⟨?_, List.forall_mem_nil _⟩⟩
  all_goals
    intro δ hf
  all_goals
    simp only [FT, TP, SB.tp, SI.tv, sta, IB.eval, and_true, true_and, ObsT, Ob.Tv, rowT, kix, In.tiv, ↓tbvT, In.tbv, get_cons, get_nil, reduceIte, Nat.reduceEqDiff, Int.reduceToNat, Int.reduceAdd, Int.reduceSub, Int.reduceLE, Int.reduceLT, Int.reduceEq, ne_eq, Bool.false_eq_true, not_true_eq_false, not_false_eq_true, true_iff, false_iff, iff_true, iff_false, false_implies, implies_true, decT, decide_true, decide_false, Bool.decide_eq_true, ap2, pb2, FI_3, FI_8, FI_9, FI_10, FI_11, FI_12, FI_13, FB_10, FB_11, FB_12, FB_13, FB_14, FB_15, FB_16, FI_20, FI_21, FI_22, FI_23, FI_24, FI_25, FI_26, FB_20, FB_21, FB_22, FB_23, FB_24, Int.toNat_natCast, Int.toNat_zero] at hf
  all_goals
    have a0 := ha.1 0 (by omega)
    have a1 := ha.1 1 (by omega)
    have a2 := ha.1 2 (by omega)
    have a3 := ha.1 3 (by omega)
  all_goals
    have b1 := hin 1 0 1000 (by simp [rSame0, bH, gH, fM, lH, nw, ap3, i64b, kH, ap3, pb3, pb4, i64l, lH2, gH2, bH2, fM2, bE, oEnd])
    simp only [Int.reduceLE, reduceIte, Int.reduceNeg] at b1
  all_goals
    simp only [FT, TP, SB.tp, SI.tv, sta, IB.eval, and_true, true_and, ObsT, Ob.Tv, rowT, kix, In.tiv, ↓tbvT, In.tbv, get_cons, get_nil, reduceIte, Nat.reduceEqDiff, Int.reduceToNat, Int.reduceAdd, Int.reduceSub, Int.reduceLE, Int.reduceLT, Int.reduceEq, ne_eq, Bool.false_eq_true, not_true_eq_false, not_false_eq_true, true_iff, false_iff, iff_true, iff_false, false_implies, implies_true, decT, decide_true, decide_false, Bool.decide_eq_true, ap2, pb2, FI_3, FI_8, FI_9, FI_10, FI_11, FI_12, FI_13, FB_10, FB_11, FB_12, FB_13, FB_14, FB_15, FB_16, FI_20, FI_21, FI_22, FI_23, FI_24, FI_25, FI_26, FB_20, FB_21, FB_22, FB_23, FB_24, Int.toNat_natCast, Int.toNat_zero, rSame0_inv, rSame0_mu, rSame0, o1, othT, bH, gH, fM, lH, nw, ap3, i64b, kH, ap3, pb3, pb4, i64l, lH2, gH2, bH2, fM2, bE, oEnd, a0, a1, a2, a3] at hf hi ⊢
  all_goals
    (repeat' (with_reducible apply And.intro)) <;> first
    | omega
    | assumption
    | (unfold inM; omega)
set_option maxHeartbeats 0 in
theorem rSame0_o1 (kv : Kv) (iv0 : Nat → Int) (bv0 : Nat → Bool) (hin : InB rSame0.B iv0) (hF : FT (sta FI FB kv iv0 bv0) (dlt dyn0) rSame0.F) (iv : Nat → Int) (bv : Nat → Bool) (ha : Agr 4 iv0 bv0 iv bv) (hi : rSame0_inv iv0 bv0 1 iv bv) :
    ∀ lf ∈ rSame0_L1, LfT (sta FI FB kv) rSame0.os (rSame0_inv iv0 bv0) (rSame0_mu iv0 bv0) 1 iv bv lf := by
  unfold rSame0_L1
  refine List.forall_mem_cons.2 ⟨?_, List.forall_mem_nil _⟩
  all_goals
    intro δ hf
  all_goals
    simp only [FT, TP, SB.tp, SI.tv, sta, IB.eval, and_true, true_and, ObsT, Ob.Tv, rowT, kix, In.tiv, ↓tbvT, In.tbv, get_cons, get_nil, reduceIte, Nat.reduceEqDiff, Int.reduceToNat, Int.reduceAdd, Int.reduceSub, Int.reduceLE, Int.reduceLT, Int.reduceEq, ne_eq, Bool.false_eq_true, not_true_eq_false, not_false_eq_true, true_iff, false_iff, iff_true, iff_false, false_implies, implies_true, decT, decide_true, decide_false, Bool.decide_eq_true, ap2, pb2, FI_3, FI_8, FI_9, FI_10, FI_11, FI_12, FI_13, FB_10, FB_11, FB_12, FB_13, FB_14, FB_15, FB_16, FI_20, FI_21, FI_22, FI_23, FI_24, FI_25, FI_26, FB_20, FB_21, FB_22, FB_23, FB_24, Int.toNat_natCast, Int.toNat_zero] at hf
  all_goals
    have a0 := ha.1 0 (by omega)
    have a1 := ha.1 1 (by omega)
    have a2 := ha.1 2 (by omega)
    have a3 := ha.1 3 (by omega)
  all_goals
    have b1 := hin 1 0 1000 (by simp [rSame0, bH, gH, fM, lH, nw, ap3, i64b, kH, ap3, pb3, pb4, i64l, lH2, gH2, bH2, fM2, bE, oEnd])
    simp only [Int.reduceLE, reduceIte, Int.reduceNeg] at b1
  all_goals
    simp only [FT, TP, SB.tp, SI.tv, sta, IB.eval, and_true, true_and, ObsT, Ob.Tv, rowT, kix, In.tiv, ↓tbvT, In.tbv, get_cons, get_nil, reduceIte, Nat.reduceEqDiff, Int.reduceToNat, Int.reduceAdd, Int.reduceSub, Int.reduceLE, Int.reduceLT, Int.reduceEq, ne_eq, Bool.false_eq_true, not_true_eq_false, not_false_eq_true, true_iff, false_iff, iff_true, iff_false, false_implies, implies_true, decT, decide_true, decide_false, Bool.decide_eq_true, ap2, pb2, FI_3, FI_8, FI_9, FI_10, FI_11, FI_12, FI_13, FB_10, FB_11, FB_12, FB_13, FB_14, FB_15, FB_16, FI_20, FI_21, FI_22, FI_23, FI_24, FI_25, FI_26, FB_20, FB_21, FB_22, FB_23, FB_24, Int.toNat_natCast, Int.toNat_zero, rSame0_inv, rSame0_mu, rSame0, o1, othT, bH, gH, fM, lH, nw, ap3, i64b, kH, ap3, pb3, pb4, i64l, lH2, gH2, bH2, fM2, bE, oEnd, a0, a1, a2, a3] at hf hi ⊢
  all_goals
    (repeat' (with_reducible apply And.intro)) <;> first
    | omega
    | assumption
    | (unfold inM; omega)
set_option maxRecDepth 100000 in
theorem rSame0_c : LsC ((tm0 rSame0 Try.f46 (Try.f46.body.getD .skip)) :: [rSame0_T1]) rSame0.os [rSame0_L0, rSame0_L1] := by
  unfold rSame0_L0 rSame0_L1
  exact ⟨List.forall_mem_cons.2 ⟨⟨⟨_, rfl, rfl⟩, by kernel_rfl⟩, List.forall_mem_cons.2 ⟨⟨⟨_, rfl, rfl⟩, by kernel_rfl⟩, List.forall_mem_nil _⟩⟩, List.forall_mem_cons.2 ⟨⟨⟨_, rfl, rfl⟩, by kernel_rfl⟩, List.forall_mem_nil _⟩, trivial⟩
theorem rSame0_ok : rSame0.Ok Try.prog FI FB :=
  Con.of_plain (body := Try.f46.body.getD .skip) pok fiok EntsFor.nil rSame0 Try.func46 (by kernel_rfl) 4 [rSame0_T1] (by kernel_rfl) [rSame0_L0, rSame0_L1] ⟨rSame0_h0, rSame0_h1, trivial⟩ rSame0_c
    rSame0_inv rSame0_mu (fun _ _ _ => trivial) fun kv iv0 bv0 hin hF k l iv bv hk ha hi => match k, hk, hi with
    | 0, hk, hi => by
      cases hk
      exact rSame0_o0 kv iv0 bv0 hin hF iv bv ha hi
    | 1, hk, hi => by
      cases hk
      exact rSame0_o1 kv iv0 bv0 hin hF iv bv ha hi
    | k + 2, hk, _ => by simp at hk
noncomputable def rSame1_T1 : Tm := ⟨⟨46, 26, [(5, (.it .i64 (.c 0))), (0, (.sl (.k 0) (.v 2) (.v 1) (.v 3))), (1, .sn)], [(.code (atC Try.f46 [1, 1, 0, 1, 0, 0])), (.inLoop (atC Try.f46 [1, 1, 0, 1, 0, 0])), (.inBlock 0), (.code (atC Try.f46 [1, 1, 1]))], [], .none⟩, [],
    ⟨[], 0, 0, 0, [((.eq (.v 1) (.c 0)), .true), ((.le (.v 1) (.v 3)), .true), ((.le (.c 0) (.v 3)), .true)], [1, 0], [(1, (0, 0)), (1, (0, 1000)), (2, (0, (-1)))]⟩, []⟩
noncomputable def rSame1_L0 : List Lf :=
  [(.cut [((.eq (.v 1) (.c 0)), .true), ((.le (.v 1) (.v 3)), .true), ((.le (.c 0) (.v 3)), .true)] 1 ⟨⟨[], []⟩, [], [], []⟩ [] (shT rSame1_T1 ⟨⟨[], []⟩, [], [], []⟩)), (.fin [((.eq (.v 1) (.c 0)), .false), ((.le (.v 1) (.v 3)), .true), ((.le (.c 0) (.v 3)), .true)] 0 ⟨⟨[], []⟩, [], [], []⟩ [(.eb (.eq (.v 1) (.c 0)) (.c .false))] [])]
noncomputable def rSame1_L1 : List Lf :=
  [(.fin [((.eq (.v 1) (.c 0)), .true), ((.le (.v 1) (.v 3)), .true), ((.le (.c 0) (.v 3)), .true)] 0 ⟨⟨[], []⟩, [], [], []⟩ [(.eb (.eq (.v 1) (.c 0)) (.c .true))] [])]
set_option maxRecDepth 100000 in
theorem rSame1_h0 : (ex (ccOf Try.prog BF [58, 84] rSame1) ((fun _ => []) (ccOf Try.prog BF [58, 84] rSame1)) (dw (ccOf Try.prog BF [58, 84] rSame1) ((fun _ => []) (ccOf Try.prog BF [58, 84] rSame1)) 1000 4) (stopX []) 4000 (tm0 rSame1 Try.f46 (Try.f46.body.getD .skip)).f (tm0 rSame1 Try.f46 (Try.f46.body.getD .skip)).fs (tm0 rSame1 Try.f46 (Try.f46.body.getD .skip)).H).lfs (ccOf Try.prog BF [58, 84] rSame1) ((tm0 rSame1 Try.f46 (Try.f46.body.getD .skip)) :: [rSame1_T1]) rSame1.os = some rSame1_L0 := by kernel_rfl
set_option maxRecDepth 100000 in
theorem rSame1_h1 : (ex (ccOf Try.prog BF [58, 84] rSame1) ((fun _ => []) (ccOf Try.prog BF [58, 84] rSame1)) (dw (ccOf Try.prog BF [58, 84] rSame1) ((fun _ => []) (ccOf Try.prog BF [58, 84] rSame1)) 1000 4) (stopX []) 4000 rSame1_T1.f rSame1_T1.fs rSame1_T1.H).lfs (ccOf Try.prog BF [58, 84] rSame1) ((tm0 rSame1 Try.f46 (Try.f46.body.getD .skip)) :: [rSame1_T1]) rSame1.os = some rSame1_L1 := by kernel_rfl
def rSame1_inv : (Nat → Int) → (Nat → Bool) → Nat → (Nat → Int) → (Nat → Bool) → Prop := fun iv0 _ k _ _ => match k with | 0 => True | _ => iv0 1 = 0
def rSame1_mu : (Nat → Int) → (Nat → Bool) → Nat → (Nat → Int) → (Nat → Bool) → Nat := fun _ _ k _ _ => match k with | 0 => 1 | _ => 0
set_option maxHeartbeats 0 in
theorem rSame1_o0 (kv : Kv) (iv0 : Nat → Int) (bv0 : Nat → Bool) (hin : InB rSame1.B iv0) (hF : FT (sta FI FB kv iv0 bv0) (dlt dyn0) rSame1.F) (iv : Nat → Int) (bv : Nat → Bool) (ha : Agr 4 iv0 bv0 iv bv) (hi : rSame1_inv iv0 bv0 0 iv bv) :
    ∀ lf ∈ rSame1_L0, LfT (sta FI FB kv) rSame1.os (rSame1_inv iv0 bv0) (rSame1_mu iv0 bv0) 0 iv bv lf := by
  unfold rSame1_L0
  refine List.forall_mem_cons.2 ⟨?_, List.forall_mem_cons.2 ⟨?_, List.forall_mem_nil _⟩⟩
  all_goals
    intro δ hf
  all_goals
    simp only [FT, TP, SB.tp, SI.tv, sta, IB.eval, and_true, true_and, ObsT, Ob.Tv, rowT, kix, In.tiv, ↓tbvT, In.tbv, get_cons, get_nil, reduceIte, Nat.reduceEqDiff, Int.reduceToNat, Int.reduceAdd, Int.reduceSub, Int.reduceLE, Int.reduceLT, Int.reduceEq, ne_eq, Bool.false_eq_true, not_true_eq_false, not_false_eq_true, true_iff, false_iff, iff_true, iff_false, false_implies, implies_true, decT, decide_true, decide_false, Bool.decide_eq_true, ap2, pb2, FI_3, FI_8, FI_9, FI_10, FI_11, FI_12, FI_13, FB_10, FB_11, FB_12, FB_13, FB_14, FB_15, FB_16, FI_20, FI_21, FI_22, FI_23, FI_24, FI_25, FI_26, FB_20, FB_21, FB_22, FB_23, FB_24, Int.toNat_natCast, Int.toNat_zero] at hf
  all_goals
    have a0 := ha.1 0 (by omega)
    have a1 := ha.1 1 (by omega)
    have a2 := ha.1 2 (by omega)
    have a3 := ha.1 3 (by omega)
  all_goals
    have b1 := hin 1 0 1000 (by simp [rSame1, bH, gH, fM, lH, nw, ap3, i64b, kH, ap3, pb3, pb4, i64l, lH2, gH2, bH2, fM2, bE, oEnd])
    simp only [Int.reduceLE, reduceIte, Int.reduceNeg] at b1
  all_goals
    simp only [FT, TP, SB.tp, SI.tv, sta, IB.eval, and_true, true_and, ObsT, Ob.Tv, rowT, kix, In.tiv, ↓tbvT, In.tbv, get_cons, get_nil, reduceIte, Nat.reduceEqDiff, Int.reduceToNat, Int.reduceAdd, Int.reduceSub, Int.reduceLE, Int.reduceLT, Int.reduceEq, ne_eq, Bool.false_eq_true, not_true_eq_false, not_false_eq_true, true_iff, false_iff, iff_true, iff_false, false_implies, implies_true, decT, decide_true, decide_false, Bool.decide_eq_true, ap2, pb2, FI_3, FI_8, FI_9, FI_10, FI_11, FI_12, FI_13, FB_10, FB_11, FB_12, FB_13, FB_14, FB_15, FB_16, FI_20, FI_21, FI_22, FI_23, FI_24, FI_25, FI_26, FB_20, FB_21, FB_22, FB_23, FB_24, Int.toNat_natCast, Int.toNat_zero, rSame1_inv, rSame1_mu, rSame1, o1, othT, bH, gH, fM, lH, nw, ap3, i64b, kH, ap3, pb3, pb4, i64l, lH2, gH2, bH2, fM2, bE, oEnd, a0, a1, a2, a3] at hf hi ⊢
  all_goals
    (repeat' (with_reducible apply And.intro)) <;> first
    | omega
    | assumption
    | (unfold inM; omega)
set_option maxHeartbeats 0 in
theorem rSame1_o1 (kv : Kv) (iv0 : Nat → Int) (bv0 : Nat → Bool) (hin : InB rSame1.B iv0) (hF : FT (sta FI FB kv iv0 bv0) (dlt dyn0) rSame1.F) (iv : Nat → Int) (bv : Nat → Bool) (ha : Agr 4 iv0 bv0 iv bv) (hi : rSame1_inv iv0 bv0 1 iv bv) :
    ∀ lf ∈ rSame1_L1, LfT (sta FI FB kv) rSame1.os (rSame1_inv iv0 bv0) (rSame1_mu iv0 bv0) 1 iv bv lf := by
  unfold rSame1_L1
  refine List.forall_mem_cons.2 ⟨?_, List.forall_mem_nil _⟩
  all_goals
    intro δ hf
  all_goals
    simp only [FT, TP, SB.tp, SI.tv, sta, IB.eval, and_true, true_and, ObsT, Ob.Tv, rowT, kix, In.tiv, ↓tbvT, In.tbv, get_cons, get_nil, reduceIte, Nat.reduceEqDiff, Int.reduceToNat, Int.reduceAdd, Int.reduceSub, Int.reduceLE, Int.reduceLT, Int.reduceEq, ne_eq, Bool.false_eq_true, not_true_eq_false, not_false_eq_true, true_iff, false_iff, iff_true, iff_false, false_implies, implies_true, decT, decide_true, decide_false, Bool.decide_eq_true, ap2, pb2, FI_3, FI_8, FI_9, FI_10, FI_11, FI_12, FI_13, FB_10, FB_11, FB_12, FB_13, FB_14, FB_15, FB_16, FI_20, FI_21, FI_22, FI_23, FI_24, FI_25, FI_26, FB_20, FB_21, FB_22, FB_23, FB_24, Int.toNat_natCast, Int.toNat_zero] at hf
  all_goals
    have a0 := ha.1 0 (by omega)
    have a1 := ha.1 1 (by omega)
    have a2 := ha.1 2 (by omega)
    have a3 := ha.1 3 (by omega)
  all_goals
    have b1 := hin 1 0 1000 (by simp [rSame1, bH, gH, fM, lH, nw, ap3, i64b, kH, ap3, pb3, pb4, i64l, lH2, gH2, bH2, fM2, bE, oEnd])
    simp only [Int.reduceLE, reduceIte, Int.reduceNeg] at b1
  all_goals
    simp only [FT, TP, SB.tp, SI.tv, sta, IB.eval, and_true, true_and, ObsT, Ob.Tv, rowT, kix, In.tiv, ↓tbvT, In.tbv, get_cons, get_nil, reduceIte, Nat.reduceEqDiff, Int.reduceToNat, Int.reduceAdd, Int.reduceSub, Int.reduceLE, Int.reduceLT, Int.reduceEq, ne_eq, Bool.false_eq_true, not_true_eq_false, not_false_eq_true, true_iff, false_iff, iff_true, iff_false, false_implies, implies_true, decT, decide_true, decide_false, Bool.decide_eq_true, ap2, pb2, FI_3, FI_8, FI_9, FI_10, FI_11, FI_12, FI_13, FB_10, FB_11, FB_12, FB_13, FB_14, FB_15, FB_16, FI_20, FI_21, FI_22, FI_23, FI_24, FI_25, FI_26, FB_20, FB_21, FB_22, FB_23, FB_24, Int.toNat_natCast, Int.toNat_zero, rSame1_inv, rSame1_mu, rSame1, o1, othT, bH, gH, fM, lH, nw, ap3, i64b, kH, ap3, pb3, pb4, i64l, lH2, gH2, bH2, fM2, bE, oEnd, a0, a1, a2, a3] at hf hi ⊢
  all_goals
    (repeat' (with_reducible apply And.intro)) <;> first
    | omega
    | assumption
    | (unfold inM; omega)
set_option maxRecDepth 100000 in
theorem rSame1_c : LsC ((tm0 rSame1 Try.f46 (Try.f46.body.getD .skip)) :: [rSame1_T1]) rSame1.os [rSame1_L0, rSame1_L1] := by
  unfold rSame1_L0 rSame1_L1
  exact ⟨List.forall_mem_cons.2 ⟨⟨⟨_, rfl, rfl⟩, by kernel_rfl⟩, List.forall_mem_cons.2 ⟨⟨⟨_, rfl, rfl⟩, by kernel_rfl⟩, List.forall_mem_nil _⟩⟩, List.forall_mem_cons.2 ⟨⟨⟨_, rfl, rfl⟩, by kernel_rfl⟩, List.forall_mem_nil _⟩, trivial⟩
theorem rSame1_ok : rSame1.Ok Try.prog FI FB :=
  Con.of_plain (body := Try.f46.body.getD .skip) pok fiok EntsFor.nil rSame1 Try.func46 (by kernel_rfl) 4 [rSame1_T1] (by kernel_rfl) [rSame1_L0, rSame1_L1] ⟨rSame1_h0, rSame1_h1, trivial⟩ rSame1_c
    rSame1_inv rSame1_mu (fun _ _ _ => trivial) fun kv iv0 bv0 hin hF k l iv bv hk ha hi => match k, hk, hi with
    | 0, hk, hi => by
      cases hk
      exact rSame1_o0 kv iv0 bv0 hin hF iv bv ha hi
    | 1, hk, hi => by
      cases hk
      exact rSame1_o1 kv iv0 bv0 hin hF iv bv ha hi
    | k + 2, hk, _ => by simp at hk
noncomputable def rSame2_L0 : List Lf :=
  [(.fin [] 0 ⟨⟨[], []⟩, [], [], []⟩ [] [])]
set_option maxRecDepth 100000 in
theorem rSame2_h0 : (ex (ccOf Try.prog BF [58, 84] rSame2) ((fun _ => []) (ccOf Try.prog BF [58, 84] rSame2)) (dw (ccOf Try.prog BF [58, 84] rSame2) ((fun _ => []) (ccOf Try.prog BF [58, 84] rSame2)) 1000 4) (stopX [46]) 4000 (tm0 rSame2 Try.f46 (Try.f46.body.getD .skip)).f (tm0 rSame2 Try.f46 (Try.f46.body.getD .skip)).fs (tm0 rSame2 Try.f46 (Try.f46.body.getD .skip)).H).lfs (ccOf Try.prog BF [58, 84] rSame2) ((tm0 rSame2 Try.f46 (Try.f46.body.getD .skip)) :: []) rSame2.os = some rSame2_L0 := by kernel_rfl
def rSame2_inv : (Nat → Int) → (Nat → Bool) → Nat → (Nat → Int) → (Nat → Bool) → Prop := fun _ _ _ _ _ => True
def rSame2_mu : (Nat → Int) → (Nat → Bool) → Nat → (Nat → Int) → (Nat → Bool) → Nat := fun _ _ _ _ _ => 0
set_option maxHeartbeats 0 in
theorem rSame2_o0 (kv : Kv) (iv0 : Nat → Int) (bv0 : Nat → Bool) (hin : InB rSame2.B iv0) (hF : FT (sta FI FB kv iv0 bv0) (dlt dyn0) rSame2.F) (iv : Nat → Int) (bv : Nat → Bool) (ha : Agr 0 iv0 bv0 iv bv) (hi : rSame2_inv iv0 bv0 0 iv bv) :
    ∀ lf ∈ rSame2_L0, LfT (sta FI FB kv) rSame2.os (rSame2_inv iv0 bv0) (rSame2_mu iv0 bv0) 0 iv bv lf := by
  unfold rSame2_L0
  refine List.forall_mem_cons.2 ⟨?_, List.forall_mem_nil _⟩
  all_goals
    intro δ hf
  all_goals
    simp only [FT, TP, SB.tp, SI.tv, sta, IB.eval, and_true, true_and, ObsT, Ob.Tv, rowT, kix, In.tiv, ↓tbvT, In.tbv, get_cons, get_nil, reduceIte, Nat.reduceEqDiff, Int.reduceToNat, Int.reduceAdd, Int.reduceSub, Int.reduceLE, Int.reduceLT, Int.reduceEq, ne_eq, Bool.false_eq_true, not_true_eq_false, not_false_eq_true, true_iff, false_iff, iff_true, iff_false, false_implies, implies_true, decT, decide_true, decide_false, Bool.decide_eq_true, ap2, pb2, FI_3, FI_8, FI_9, FI_10, FI_11, FI_12, FI_13, FB_10, FB_11, FB_12, FB_13, FB_14, FB_15, FB_16, FI_20, FI_21, FI_22, FI_23, FI_24, FI_25, FI_26, FB_20, FB_21, FB_22, FB_23, FB_24, Int.toNat_natCast, Int.toNat_zero] at hf
  all_goals
    
  all_goals
    simp only [FT, TP, SB.tp, SI.tv, sta, IB.eval, and_true, true_and, ObsT, Ob.Tv, rowT, kix, In.tiv, ↓tbvT, In.tbv, get_cons, get_nil, reduceIte, Nat.reduceEqDiff, Int.reduceToNat, Int.reduceAdd, Int.reduceSub, Int.reduceLE, Int.reduceLT, Int.reduceEq, ne_eq, Bool.false_eq_true, not_true_eq_false, not_false_eq_true, true_iff, false_iff, iff_true, iff_false, false_implies, implies_true, decT, decide_true, decide_false, Bool.decide_eq_true, ap2, pb2, FI_3, FI_8, FI_9, FI_10, FI_11, FI_12, FI_13, FB_10, FB_11, FB_12, FB_13, FB_14, FB_15, FB_16, FI_20, FI_21, FI_22, FI_23, FI_24, FI_25, FI_26, FB_20, FB_21, FB_22, FB_23, FB_24, Int.toNat_natCast, Int.toNat_zero, rSame2_inv, rSame2_mu, rSame2, o1, othT, bH, gH, fM, lH, nw, ap3, i64b, kH, ap3, pb3, pb4, i64l, lH2, gH2, bH2, fM2, bE, oEnd] at hf hi ⊢
  all_goals
    (repeat' (with_reducible apply And.intro)) <;> first
    | omega
    | assumption
    | (unfold inM; omega)
set_option maxRecDepth 100000 in
theorem rSame2_c : LsC ((tm0 rSame2 Try.f46 (Try.f46.body.getD .skip)) :: []) rSame2.os [rSame2_L0] := by
  unfold rSame2_L0
  exact ⟨List.forall_mem_cons.2 ⟨⟨⟨_, rfl, rfl⟩, by kernel_rfl⟩, List.forall_mem_nil _⟩, trivial⟩
theorem rSame2_ok : rSame2.Ok Try.prog FI FB :=
  Con.of_plain (body := Try.f46.body.getD .skip) pok fiok EntsFor.nil rSame2 Try.func46 (by kernel_rfl) 0 [] (by kernel_rfl) [rSame2_L0] ⟨rSame2_h0, trivial⟩ rSame2_c
    rSame2_inv rSame2_mu (fun _ _ _ => trivial) fun kv iv0 bv0 hin hF k l iv bv hk ha hi => match k, hk, hi with
    | 0, hk, hi => by
      cases hk
      exact rSame2_o0 kv iv0 bv0 hin hF iv bv ha hi
    | k + 1, hk, _ => by simp at hk
noncomputable def hLent_L0 : List Lf :=
  [(.fin [((.le (.op .add (.v 1) (.c 1)) (.d 1)), .true), ((.le (.v 1) (.d 0)), .true), ((.le (.v 1) (.v 3)), .true), ((.le (.c 0) (.v 3)), .true)] 0 ⟨⟨[], []⟩, [(0, 3)], [(0, (.d 1))], []⟩ [(.ar [(.nt .i64), (.nt .i64), (.nt .i64)] (.ap 26 (.v 0) (.v 1) (.c 0) (.c 0) (.c 0) (.c 0)) (.ap 8 (.ap 8 (.ap 8 (.v 0) (.v 1) (.c 0) (.c 77) (.c 0) (.c 0)) (.v 1) (.c 1) (.c 0) (.c 0) (.c 0)) (.v 1) (.c 2) (.c 0) (.c 0) (.c 0)) (.op .add (.v 1) (.c 1)))] [.none])]
set_option maxRecDepth 100000 in
theorem hLent_h0 : (ex (ccOf Try.prog BF [58, 84] hLent) ((fun _ => []) (ccOf Try.prog BF [58, 84] hLent)) (dw (ccOf Try.prog BF [58, 84] hLent) ((fun _ => []) (ccOf Try.prog BF [58, 84] hLent)) 1000 4) (stopX []) 4000 (tm0 hLent Try.f43 (Try.f43.body.getD .skip)).f (tm0 hLent Try.f43 (Try.f43.body.getD .skip)).fs (tm0 hLent Try.f43 (Try.f43.body.getD .skip)).H).lfs (ccOf Try.prog BF [58, 84] hLent) ((tm0 hLent Try.f43 (Try.f43.body.getD .skip)) :: []) hLent.os = some hLent_L0 := by kernel_rfl
def hLent_inv : (Nat → Int) → (Nat → Bool) → Nat → (Nat → Int) → (Nat → Bool) → Prop := fun _ _ _ _ _ => True
def hLent_mu : (Nat → Int) → (Nat → Bool) → Nat → (Nat → Int) → (Nat → Bool) → Nat := fun _ _ _ _ _ => 0
set_option maxHeartbeats 0 in
theorem hLent_o0 (kv : Kv) (iv0 : Nat → Int) (bv0 : Nat → Bool) (hin : InB hLent.B iv0) (hF : FT (sta FI FB kv iv0 bv0) (dlt dyn0) hLent.F) (iv : Nat → Int) (bv : Nat → Bool) (ha : Agr 4 iv0 bv0 iv bv) (hi : hLent_inv iv0 bv0 0 iv bv) :
    ∀ lf ∈ hLent_L0, LfT (sta FI FB kv) hLent.os (hLent_inv iv0 bv0) (hLent_mu iv0 bv0) 0 iv bv lf := by
  unfold hLent_L0
  refine List.forall_mem_cons.2 ⟨?_, List.forall_mem_nil _⟩
  all_goals
    intro δ hf
  all_goals
    simp only [FT, TP, SB.tp, SI.tv, sta, IB.eval, and_true, true_and, ObsT, Ob.Tv, rowT, kix, In.tiv, ↓tbvT, In.tbv, get_cons, get_nil, reduceIte, Nat.reduceEqDiff, Int.reduceToNat, Int.reduceAdd, Int.reduceSub, Int.reduceLE, Int.reduceLT, Int.reduceEq, ne_eq, Bool.false_eq_true, not_true_eq_false, not_false_eq_true, true_iff, false_iff, iff_true, iff_false, false_implies, implies_true, decT, decide_true, decide_false, Bool.decide_eq_true, ap2, pb2, FI_3, FI_8, FI_9, FI_10, FI_11, FI_12, FI_13, FB_10, FB_11, FB_12, FB_13, FB_14, FB_15, FB_16, FI_20, FI_21, FI_22, FI_23, FI_24, FI_25, FI_26, FB_20, FB_21, FB_22, FB_23, FB_24, Int.toNat_natCast, Int.toNat_zero] at hf
  all_goals
    have a0 := ha.1 0 (by omega)
    have a1 := ha.1 1 (by omega)
    have a2 := ha.1 2 (by omega)
    have a3 := ha.1 3 (by omega)
  all_goals
    have b1 := hin 1 0 1000 (by simp [hLent, bH, gH, fM, lH, nw, ap3, i64b, kH, ap3, pb3, pb4, i64l, lH2, gH2, bH2, fM2, bE, oEnd])
    simp only [Int.reduceLE, reduceIte, Int.reduceNeg] at b1
  all_goals
    simp only [FT, TP, SB.tp, SI.tv, sta, IB.eval, and_true, true_and, ObsT, Ob.Tv, rowT, kix, In.tiv, ↓tbvT, In.tbv, get_cons, get_nil, reduceIte, Nat.reduceEqDiff, Int.reduceToNat, Int.reduceAdd, Int.reduceSub, Int.reduceLE, Int.reduceLT, Int.reduceEq, ne_eq, Bool.false_eq_true, not_true_eq_false, not_false_eq_true, true_iff, false_iff, iff_true, iff_false, false_implies, implies_true, decT, decide_true, decide_false, Bool.decide_eq_true, ap2, pb2, FI_3, FI_8, FI_9, FI_10, FI_11, FI_12, FI_13, FB_10, FB_11, FB_12, FB_13, FB_14, FB_15, FB_16, FI_20, FI_21, FI_22, FI_23, FI_24, FI_25, FI_26, FB_20, FB_21, FB_22, FB_23, FB_24, Int.toNat_natCast, Int.toNat_zero, hLent_inv, hLent_mu, hLent, o1, othT, bH, gH, fM, lH, nw, ap3, i64b, kH, ap3, pb3, pb4, i64l, lH2, gH2, bH2, fM2, bE, oEnd, a0, a1, a2, a3] at hf hi ⊢
  all_goals
    (repeat' (with_reducible apply And.intro)) <;> first
    | omega
    | assumption
    | (unfold inM; omega)
    | (intro j hj; refine ⟨?_, ?_, ?_⟩ <;> (rw [fl_lentC (by omega) (by decide)]; (try simp only [fl_blit, fl_set]); (repeat' split) <;> first | rfl | (exfalso; omega) | (congr 1; omega) | decide))
set_option maxRecDepth 100000 in
theorem hLent_c : LsC ((tm0 hLent Try.f43 (Try.f43.body.getD .skip)) :: []) hLent.os [hLent_L0] := by
  unfold hLent_L0
  exact ⟨List.forall_mem_cons.2 ⟨⟨⟨_, rfl, rfl⟩, by kernel_rfl⟩, List.forall_mem_nil _⟩, trivial⟩
theorem hLent_ok : hLent.Ok Try.prog FI FB :=
  Con.of_plain (body := Try.f43.body.getD .skip) pok fiok EntsFor.nil hLent Try.func43 (by kernel_rfl) 4 [] (by kernel_rfl) [hLent_L0] ⟨hLent_h0, trivial⟩ hLent_c
    hLent_inv hLent_mu (fun _ _ _ => trivial) fun kv iv0 bv0 hin hF k l iv bv hk ha hi => match k, hk, hi with
    | 0, hk, hi => by
      cases hk
      exact hLent_o0 kv iv0 bv0 hin hF iv bv ha hi
    | k + 1, hk, _ => by simp at hk
noncomputable def hEnd_T1 : Tm := ⟨⟨142, 19, [(8, (.it .i64 (.v 26))), (7, (.it .i64 (.v 1))), (0, (.sl (.k 0) (.v 2) (.v 1) (.v 3))), (1, (.fn 140 [] [(.pt (.n 2) (.c 0))]))], [(.code (atC Try.f142 [1, 0, 1, 0, 0])), (.inLoop (atC Try.f142 [1, 0, 1, 0, 0])), (.inBlock 0), (.code (atC Try.f142 [1, 1]))], [], .none⟩, [⟨102, 18, [(8, (.fn 140 [] [(.pt (.n 2) (.c 0))])), (7, (.sl (.k 0) (.v 2) (.v 1) (.v 3))), (4, (.pt (.n 4) (.c 0))), (0, (.sl (.k 0) (.v 2) (.v 1) (.v 3)))], [(.inRegion (opsC (atC Try.f102 [1, 0, 0])) [2, 3]), (.code (atC Try.f102 [1, 0, 1])), (.code (atC Try.f102 [1, 1]))], [], .none⟩, ⟨98, 15, [(10, (.fn 140 [] [(.pt (.n 2) (.c 0))])), (9, (.sl (.k 0) (.v 2) (.v 1) (.v 3))), (4, (.pt (.n 3) (.c 0)))], [(.inRegion (opsC (atC Try.f98 [1, 0])) [4, 5, 6, 7, 8, 9, 10]), (.code Code.ret)], [], .none⟩, ⟨44, 40, [(16, (.it .i64 (.v 4))), (15, (.ag [(.sl (.k 0) (.v 2) (.v 1) (.v 3)), (.bo (.c .true))])), (8, (.pt (.n 0) (.c 0))), (0, (.sl (.k 0) (.v 2) (.v 1) (.v 3))), (2, (.it .i64 (.v 5)))], [(.inRegion (opsC (atC Try.f44 [1, 1, 0])) [2, 3, 4, 5, 6, 7, 8, 9, 10]), (.code (atC Try.f44 [1, 1, 1]))], [], .none⟩],
    ⟨[(0, (.cells [(.sl (.k 0) (.v 2) (.v 1) (.v 3)), (.bo (.c .true))] 137)), (2, (.cells [(.it .i64 (.v 4))] 3)), (3, (.cells [(.it .i64 (.c 0)), (.it .i64 (.c 0)), (.it .i64 (.c 0))] 58)), (4, (.cells [(.it .i64 (.c 0)), (.it .i64 (.c 0)), (.it .i64 (.c 0))] 58))], 5, 0, 0, [((.ap 20 (.v 0) (.v 1) (.c 0) (.c 0) (.c 0) (.c 0)), .true), ((.le (.v 1) (.v 3)), .true), ((.le (.c 0) (.v 3)), .true)], [1, 0], [(4, ((-9223372036854775808), 9223372036854775807)), (5, ((-9223372036854775808), 9223372036854775807)), (1, (0, 1000)), (2, (0, (-1))), (26, (0, (-1)))]⟩, [26]⟩
noncomputable def hEnd_T2 : Tm := ⟨⟨142, 19, [(8, (.it .i64 (.c 0))), (7, (.it .i64 (.c 0))), (0, .sn), (1, (.fn 140 [] [(.pt (.n 2) (.c 0))]))], [(.code (atC Try.f142 [1, 0, 1, 0, 0])), (.inLoop (atC Try.f142 [1, 0, 1, 0, 0])), (.inBlock 0), (.code (atC Try.f142 [1, 1]))], [], .none⟩, [⟨102, 18, [(8, (.fn 140 [] [(.pt (.n 2) (.c 0))])), (7, .sn), (4, (.pt (.n 4) (.c 0))), (0, .sn)], [(.inRegion (opsC (atC Try.f102 [1, 0, 0])) [2, 3]), (.code (atC Try.f102 [1, 0, 1])), (.code (atC Try.f102 [1, 1]))], [], .none⟩, ⟨98, 15, [(10, (.fn 140 [] [(.pt (.n 2) (.c 0))])), (9, .sn), (4, (.pt (.n 3) (.c 0)))], [(.inRegion (opsC (atC Try.f98 [1, 0])) [4, 5, 6, 7, 8, 9, 10]), (.code Code.ret)], [], .none⟩, ⟨44, 40, [(16, (.it .i64 (.v 4))), (15, (.ag [.sn, (.bo (.c .false))])), (8, (.pt (.n 0) (.c 0))), (0, (.sl (.k 0) (.v 2) (.v 1) (.v 3))), (2, (.it .i64 (.v 5)))], [(.inRegion (opsC (atC Try.f44 [1, 1, 0])) [2, 3, 4, 5, 6, 7, 8, 9, 10]), (.code (atC Try.f44 [1, 1, 1]))], [], .none⟩],
    ⟨[(0, (.cells [.sn, (.bo (.c .false))] 137)), (2, (.cells [(.it .i64 (.v 4))] 3)), (3, (.cells [(.it .i64 (.c 0)), (.it .i64 (.c 0)), (.it .i64 (.c 0))] 58)), (4, (.cells [(.it .i64 (.c 0)), (.it .i64 (.c 0)), (.it .i64 (.c 0))] 58))], 5, 0, 0, [((.ap 20 (.v 0) (.v 1) (.c 0) (.c 0) (.c 0) (.c 0)), .false), ((.le (.v 1) (.v 3)), .true), ((.le (.c 0) (.v 3)), .true)], [1, 0], [(4, ((-9223372036854775808), 9223372036854775807)), (5, ((-9223372036854775808), 9223372036854775807)), (1, (0, 1000)), (2, (0, (-1)))]⟩, []⟩
noncomputable def hEnd_L0 : List Lf :=
  [(.cut [((.ap 20 (.v 0) (.v 1) (.c 0) (.c 0) (.c 0) (.c 0)), .true), ((.le (.v 1) (.v 3)), .true), ((.le (.c 0) (.v 3)), .true)] 1 ⟨⟨[(26, (.c 0))], []⟩, [(0, 0), (3, 3), (4, 4), (2, 2)], [], []⟩ [] (shT hEnd_T1 ⟨⟨[(26, (.c 0))], []⟩, [(0, 0), (3, 3), (4, 4), (2, 2)], [], []⟩)), (.cut [((.ap 20 (.v 0) (.v 1) (.c 0) (.c 0) (.c 0) (.c 0)), .false), ((.le (.v 1) (.v 3)), .true), ((.le (.c 0) (.v 3)), .true)] 2 ⟨⟨[], []⟩, [(0, 0), (3, 3), (4, 4), (2, 2)], [], []⟩ [] (shT hEnd_T2 ⟨⟨[], []⟩, [(0, 0), (3, 3), (4, 4), (2, 2)], [], []⟩))]
noncomputable def hEnd_L1 : List Lf :=
  [(.fin [((.lt (.v 5) (.ap 3 (.v 0) (.v 26) (.c 1) (.c 0) (.c 0) (.c 0))), .true), ((.eq (.ap 3 (.v 0) (.v 26) (.c 0) (.c 0) (.c 0) (.c 0)) (.v 4)), .true), ((.lt (.v 26) (.v 1)), .true), ((.ap 20 (.v 0) (.v 1) (.c 0) (.c 0) (.c 0) (.c 0)), .true), ((.le (.v 1) (.v 3)), .true), ((.le (.c 0) (.v 3)), .true)] 1 ⟨⟨[], []⟩, [], [], []⟩ [] []), (.fin [((.eq (.v 1) (.op .add (.v 26) (.c 1))), .true), ((.le (.v 1) (.d 0)), .true), ((.lt (.v 5) (.ap 3 (.v 0) (.v 26) (.c 1) (.c 0) (.c 0) (.c 0))), .false), ((.eq (.ap 3 (.v 0) (.v 26) (.c 0) (.c 0) (.c 0) (.c 0)) (.v 4)), .true), ((.lt (.v 26) (.v 1)), .true), ((.ap 20 (.v 0) (.v 1) (.c 0) (.c 0) (.c 0) (.c 0)), .true), ((.le (.v 1) (.v 3)), .true), ((.le (.c 0) (.v 3)), .true)] 2 ⟨⟨[], []⟩, [(0, 8)], [(0, (.d 0))], []⟩ [(.ei (.op .add (.v 1) (.c (-1))) (.v 26)), (.ar [(.nt .i64), (.nt .i64), (.nt .i64)] (.ap 22 (.v 0) (.v 1) (.ap 21 (.v 0) (.v 1) (.v 4) (.c 0) (.c 0) (.c 0)) (.c 0) (.c 0) (.c 0)) (.ap 9 (.v 0) (.v 26) (.c 0) (.c 0) (.op .sub (.v 1) (.v 26)) (.c 0)) (.op .add (.v 1) (.c (-1)))), (.fa (.le (.op .add (.v 1) (.c (-1))) (.v 1)) .true)] [.none]), (.fin [((.eq (.v 1) (.op .add (.v 26) (.c 1))), .false), ((.le (.v 1) (.d 0)), .true), ((.lt (.v 5) (.ap 3 (.v 0) (.v 26) (.c 1) (.c 0) (.c 0) (.c 0))), .false), ((.eq (.ap 3 (.v 0) (.v 26) (.c 0) (.c 0) (.c 0) (.c 0)) (.v 4)), .true), ((.lt (.v 26) (.v 1)), .true), ((.ap 20 (.v 0) (.v 1) (.c 0) (.c 0) (.c 0) (.c 0)), .true), ((.le (.v 1) (.v 3)), .true), ((.le (.c 0) (.v 3)), .true)] 2 ⟨⟨[], []⟩, [(0, 8)], [(0, (.d 0))], []⟩ [(.ar [(.nt .i64), (.nt .i64), (.nt .i64)] (.ap 22 (.v 0) (.v 1) (.ap 21 (.v 0) (.v 1) (.v 4) (.c 0) (.c 0) (.c 0)) (.c 0) (.c 0) (.c 0)) (.ap 9 (.ap 9 (.v 0) (.v 26) (.v 0) (.op .add (.v 26) (.c 1)) (.op .sub (.v 1) (.op .add (.v 26) (.c 1))) (.c 0)) (.op .add (.v 1) (.c (-1))) (.c 0) (.c 0) (.c 1) (.c 0)) (.op .add (.v 1) (.c (-1)))), (.fa (.le (.op .add (.v 1) (.c (-1))) (.v 1)) .true)] [.none]), (.cut [((.eq (.ap 3 (.v 0) (.v 26) (.c 0) (.c 0) (.c 0) (.c 0)) (.v 4)), .false), ((.lt (.v 26) (.v 1)), .true), ((.ap 20 (.v 0) (.v 1) (.c 0) (.c 0) (.c 0) (.c 0)), .true), ((.le (.v 1) (.v 3)), .true), ((.le (.c 0) (.v 3)), .true)] 1 ⟨⟨[(26, (.op .add (.v 26) (.c 1)))], []⟩, [(0, 0), (3, 3), (4, 4), (2, 2)], [], []⟩ [] (shT hEnd_T1 ⟨⟨[(26, (.op .add (.v 26) (.c 1)))], []⟩, [(0, 0), (3, 3), (4, 4), (2, 2)], [], []⟩)), (.fin [((.lt (.v 26) (.v 1)), .false), ((.ap 20 (.v 0) (.v 1) (.c 0) (.c 0) (.c 0) (.c 0)), .true), ((.le (.v 1) (.v 3)), .true), ((.le (.c 0) (.v 3)), .true)] 1 ⟨⟨[], []⟩, [], [], []⟩ [] [])]
noncomputable def hEnd_L2 : List Lf :=
  [(.fin [((.ap 20 (.v 0) (.v 1) (.c 0) (.c 0) (.c 0) (.c 0)), .false), ((.le (.v 1) (.v 3)), .true), ((.le (.c 0) (.v 3)), .true)] 0 ⟨⟨[], []⟩, [], [], []⟩ [] [])]
set_option maxRecDepth 100000 in
theorem hEnd_h0 : (ex (ccOf Try.prog BF [58, 84] hEnd) ((fun cc => [hOf.ent cc]) (ccOf Try.prog BF [58, 84] hEnd)) (dw (ccOf Try.prog BF [58, 84] hEnd) ((fun cc => [hOf.ent cc]) (ccOf Try.prog BF [58, 84] hEnd)) 1000 4) (stopX []) 4000 (tm0 hEnd Try.f44 (Try.f44.body.getD .skip)).f (tm0 hEnd Try.f44 (Try.f44.body.getD .skip)).fs (tm0 hEnd Try.f44 (Try.f44.body.getD .skip)).H).lfs (ccOf Try.prog BF [58, 84] hEnd) ((tm0 hEnd Try.f44 (Try.f44.body.getD .skip)) :: [hEnd_T1, hEnd_T2]) hEnd.os = some hEnd_L0 := by kernel_rfl
set_option maxRecDepth 100000 in
theorem hEnd_h1 : (ex (ccOf Try.prog BF [58, 84] hEnd) ((fun cc => [hOf.ent cc]) (ccOf Try.prog BF [58, 84] hEnd)) (dw (ccOf Try.prog BF [58, 84] hEnd) ((fun cc => [hOf.ent cc]) (ccOf Try.prog BF [58, 84] hEnd)) 1000 4) (stopX []) 4000 hEnd_T1.f hEnd_T1.fs hEnd_T1.H).lfs (ccOf Try.prog BF [58, 84] hEnd) ((tm0 hEnd Try.f44 (Try.f44.body.getD .skip)) :: [hEnd_T1, hEnd_T2]) hEnd.os = some hEnd_L1 := by kernel_rfl
set_option maxRecDepth 100000 in
theorem hEnd_h2 : (ex (ccOf Try.prog BF [58, 84] hEnd) ((fun cc => [hOf.ent cc]) (ccOf Try.prog BF [58, 84] hEnd)) (dw (ccOf Try.prog BF [58, 84] hEnd) ((fun cc => [hOf.ent cc]) (ccOf Try.prog BF [58, 84] hEnd)) 1000 4) (stopX []) 4000 hEnd_T2.f hEnd_T2.fs hEnd_T2.H).lfs (ccOf Try.prog BF [58, 84] hEnd) ((tm0 hEnd Try.f44 (Try.f44.body.getD .skip)) :: [hEnd_T1, hEnd_T2]) hEnd.os = some hEnd_L2 := by kernel_rfl
def hEnd_inv : (Nat → Int) → (Nat → Bool) → Nat → (Nat → Int) → (Nat → Bool) → Prop := fun iv0 _ k iv _ => match k with
  | 0 => True
  | 1 => rgtP (iv0 0) (iv0 1) ∧ 0 ≤ iv 26 ∧ iv 26 ≤ iv0 1 ∧ ∀ j : Nat, (j : Int) < iv 26 → fl (iv0 0) j 0 ≠ iv0 4
  | _ => ¬ rgtP (iv0 0) (iv0 1)
def hEnd_mu : (Nat → Int) → (Nat → Bool) → Nat → (Nat → Int) → (Nat → Bool) → Nat := fun iv0 _ k iv _ => match k with | 0 => 2 ^ 80 | 1 => (iv0 1 - iv 26).toNat | _ => 0
set_option maxHeartbeats 0 in
theorem hEnd_o0 (kv : Kv) (iv0 : Nat → Int) (bv0 : Nat → Bool) (hin : InB hEnd.B iv0) (hF : FT (sta FI FB kv iv0 bv0) (dlt dyn0) hEnd.F) (iv : Nat → Int) (bv : Nat → Bool) (ha : Agr 6 iv0 bv0 iv bv) (hi : hEnd_inv iv0 bv0 0 iv bv) :
    ∀ lf ∈ hEnd_L0, LfT (sta FI FB kv) hEnd.os (hEnd_inv iv0 bv0) (hEnd_mu iv0 bv0) 0 iv bv lf := by
  unfold hEnd_L0
  refine List.forall_mem_cons.2 ⟨?_, List.forall_mem_cons.2 ⟨?_, List.forall_mem_nil _⟩⟩
  all_goals
    intro δ hf
  all_goals
    simp only [FT, TP, SB.tp, SI.tv, sta, IB.eval, and_true, true_and, ObsT, Ob.Tv, rowT, kix, In.tiv, ↓tbvT, In.tbv, get_cons, get_nil, reduceIte, Nat.reduceEqDiff, Int.reduceToNat, Int.reduceAdd, Int.reduceSub, Int.reduceLE, Int.reduceLT, Int.reduceEq, ne_eq, Bool.false_eq_true, not_true_eq_false, not_false_eq_true, true_iff, false_iff, iff_true, iff_false, false_implies, implies_true, decT, decide_true, decide_false, Bool.decide_eq_true, ap2, pb2, FI_3, FI_8, FI_9, FI_10, FI_11, FI_12, FI_13, FB_10, FB_11, FB_12, FB_13, FB_14, FB_15, FB_16, FI_20, FI_21, FI_22, FI_23, FI_24, FI_25, FI_26, FB_20, FB_21, FB_22, FB_23, FB_24, Int.toNat_natCast, Int.toNat_zero] at hf
  all_goals
    have a0 := ha.1 0 (by omega)
    have a1 := ha.1 1 (by omega)
    have a2 := ha.1 2 (by omega)
    have a3 := ha.1 3 (by omega)
    have a4 := ha.1 4 (by omega)
    have a5 := ha.1 5 (by omega)
  all_goals
    have b1 := hin 1 0 1000 (by simp [hEnd, bH, gH, fM, lH, nw, ap3, i64b, kH, ap3, pb3, pb4, i64l, lH2, gH2, bH2, fM2, bE, oEnd])
    simp only [Int.reduceLE, reduceIte, Int.reduceNeg] at b1
  all_goals
    have b4 := hin 4 (-9223372036854775808) 9223372036854775807 (by simp [hEnd, bH, gH, fM, lH, nw, ap3, i64b, kH, ap3, pb3, pb4, i64l, lH2, gH2, bH2, fM2, bE, oEnd])
    simp only [Int.reduceLE, reduceIte, Int.reduceNeg] at b4
  all_goals
    have b5 := hin 5 (-9223372036854775808) 9223372036854775807 (by simp [hEnd, bH, gH, fM, lH, nw, ap3, i64b, kH, ap3, pb3, pb4, i64l, lH2, gH2, bH2, fM2, bE, oEnd])
    simp only [Int.reduceLE, reduceIte, Int.reduceNeg] at b5
  all_goals
    simp only [FT, TP, SB.tp, SI.tv, sta, IB.eval, and_true, true_and, ObsT, Ob.Tv, rowT, kix, In.tiv, ↓tbvT, In.tbv, get_cons, get_nil, reduceIte, Nat.reduceEqDiff, Int.reduceToNat, Int.reduceAdd, Int.reduceSub, Int.reduceLE, Int.reduceLT, Int.reduceEq, ne_eq, Bool.false_eq_true, not_true_eq_false, not_false_eq_true, true_iff, false_iff, iff_true, iff_false, false_implies, implies_true, decT, decide_true, decide_false, Bool.decide_eq_true, ap2, pb2, FI_3, FI_8, FI_9, FI_10, FI_11, FI_12, FI_13, FB_10, FB_11, FB_12, FB_13, FB_14, FB_15, FB_16, FI_20, FI_21, FI_22, FI_23, FI_24, FI_25, FI_26, FB_20, FB_21, FB_22, FB_23, FB_24, Int.toNat_natCast, Int.toNat_zero, hEnd_inv, hEnd_mu, hEnd, o1, othT, bH, gH, fM, lH, nw, ap3, i64b, kH, ap3, pb3, pb4, i64l, lH2, gH2, bH2, fM2, bE, oEnd, a0, a1, a2, a3, a4, a5] at hf hi ⊢
  all_goals
    (repeat' (with_reducible apply And.intro)) <;> first
    | omega
    | assumption
    | (unfold inM; omega)
    | exact hf.1
    | exact fun j hj => by omega
set_option maxHeartbeats 0 in
theorem hEnd_o1 (kv : Kv) (iv0 : Nat → Int) (bv0 : Nat → Bool) (hin : InB hEnd.B iv0) (hF : FT (sta FI FB kv iv0 bv0) (dlt dyn0) hEnd.F) (iv : Nat → Int) (bv : Nat → Bool) (ha : Agr 6 iv0 bv0 iv bv) (hi : hEnd_inv iv0 bv0 1 iv bv) :
    ∀ lf ∈ hEnd_L1, LfT (sta FI FB kv) hEnd.os (hEnd_inv iv0 bv0) (hEnd_mu iv0 bv0) 1 iv bv lf := by
  unfold hEnd_L1
  refine List.forall_mem_cons.2 ⟨?_, List.forall_mem_cons.2 ⟨?_, List.forall_mem_cons.2 ⟨?_, List.forall_mem_cons.2 ⟨?_, List.forall_mem_cons.2 ⟨?_, List.forall_mem_nil _⟩⟩⟩⟩⟩
  all_goals
    intro δ hf
  all_goals
    simp only [FT, TP, SB.tp, SI.tv, sta, IB.eval, and_true, true_and, ObsT, Ob.Tv, rowT, kix, In.tiv, ↓tbvT, In.tbv, get_cons, get_nil, reduceIte, Nat.reduceEqDiff, Int.reduceToNat, Int.reduceAdd, Int.reduceSub, Int.reduceLE, Int.reduceLT, Int.reduceEq, ne_eq, Bool.false_eq_true, not_true_eq_false, not_false_eq_true, true_iff, false_iff, iff_true, iff_false, false_implies, implies_true, decT, decide_true, decide_false, Bool.decide_eq_true, ap2, pb2, FI_3, FI_8, FI_9, FI_10, FI_11, FI_12, FI_13, FB_10, FB_11, FB_12, FB_13, FB_14, FB_15, FB_16, FI_20, FI_21, FI_22, FI_23, FI_24, FI_25, FI_26, FB_20, FB_21, FB_22, FB_23, FB_24, Int.toNat_natCast, Int.toNat_zero] at hf
  all_goals
    have a0 := ha.1 0 (by omega)
    have a1 := ha.1 1 (by omega)
    have a2 := ha.1 2 (by omega)
    have a3 := ha.1 3 (by omega)
    have a4 := ha.1 4 (by omega)
    have a5 := ha.1 5 (by omega)
  all_goals
    have b1 := hin 1 0 1000 (by simp [hEnd, bH, gH, fM, lH, nw, ap3, i64b, kH, ap3, pb3, pb4, i64l, lH2, gH2, bH2, fM2, bE, oEnd])
    simp only [Int.reduceLE, reduceIte, Int.reduceNeg] at b1
  all_goals
    have b4 := hin 4 (-9223372036854775808) 9223372036854775807 (by simp [hEnd, bH, gH, fM, lH, nw, ap3, i64b, kH, ap3, pb3, pb4, i64l, lH2, gH2, bH2, fM2, bE, oEnd])
    simp only [Int.reduceLE, reduceIte, Int.reduceNeg] at b4
  all_goals
    have b5 := hin 5 (-9223372036854775808) 9223372036854775807 (by simp [hEnd, bH, gH, fM, lH, nw, ap3, i64b, kH, ap3, pb3, pb4, i64l, lH2, gH2, bH2, fM2, bE, oEnd])
    simp only [Int.reduceLE, reduceIte, Int.reduceNeg] at b5
  all_goals
    simp only [FT, TP, SB.tp, SI.tv, sta, IB.eval, and_true, true_and, ObsT, Ob.Tv, rowT, kix, In.tiv, ↓tbvT, In.tbv, get_cons, get_nil, reduceIte, Nat.reduceEqDiff, Int.reduceToNat, Int.reduceAdd, Int.reduceSub, Int.reduceLE, Int.reduceLT, Int.reduceEq, ne_eq, Bool.false_eq_true, not_true_eq_false, not_false_eq_true, true_iff, false_iff, iff_true, iff_false, false_implies, implies_true, decT, decide_true, decide_false, Bool.decide_eq_true, ap2, pb2, FI_3, FI_8, FI_9, FI_10, FI_11, FI_12, FI_13, FB_10, FB_11, FB_12, FB_13, FB_14, FB_15, FB_16, FI_20, FI_21, FI_22, FI_23, FI_24, FI_25, FI_26, FB_20, FB_21, FB_22, FB_23, FB_24, Int.toNat_natCast, Int.toNat_zero, hEnd_inv, hEnd_mu, hEnd, o1, othT, bH, gH, fM, lH, nw, ap3, i64b, kH, ap3, pb3, pb4, i64l, lH2, gH2, bH2, fM2, bE, oEnd, a0, a1, a2, a3, a4, a5] at hf hi ⊢
  all_goals
    (repeat' (with_reducible apply And.intro)) <;> first
    | omega
    | assumption
    | (unfold inM; omega)
    | exact hi.1
    | (exact fun _ h => h (by first | exact hi.1 | exact hi | exact hf.1 | exact hf.2.1 | exact hf.2.2.1 | exact hf.2.2.2.1 | exact hf.2.2.2.2.1 | exact hf.2.2.2.2.2.1 | exact hf.2.2.2.2.2.2.1 | exact hf.2.2.2.2.2.2.2.1 | exact hf.2.2.2.2.2.2.2.2.1))
    | (exact fun _ h => hf.1 h.1)
    | (exact fun _ h => hi h.1)
    | ((have hk := fnd_at (c := iv0 0) (n := iv0 1) (s := iv0 4) (k := iv 26) (by omega) hi.2.1 (by omega) (by first | exact hf.1 | exact hf.2.1 | exact hf.2.2.1 | exact hf.2.2.2.1) hi.2.2.2); exact fun _ h => by have := h.2.2; rw [hk] at this; omega)
    | ((have hk := fnd_at (c := iv0 0) (n := iv0 1) (s := iv0 4) (k := iv 26) (by omega) hi.2.1 (by omega) (by first | exact hf.1 | exact hf.2.1 | exact hf.2.2.1 | exact hf.2.2.2.1) hi.2.2.2); exact fun _ h => h.2 ⟨by rw [hk]; omega, by rw [hk]; omega⟩)
    | exact all_succ hi.2.1 hi.2.2.2 hf.1
    | (exact fun _ h => by have hk := fnd_no (by omega) hf.1 hi.2.2.2; have := h.2.1; omega)
    | ((have hk := fnd_at (c := iv0 0) (n := iv0 1) (s := iv0 4) (k := iv 26) (by omega) hi.2.1 (by omega) (by first | exact hf.1 | exact hf.2.1 | exact hf.2.2.1 | exact hf.2.2.2.1) hi.2.2.2); simp only [hk]; (intro j hj; refine ⟨?_, ?_, ?_⟩ <;> (rw [fl_delC (by omega) (by decide)]; (try simp only [fl_blit, fl_set]); (repeat' split) <;> first | rfl | (exfalso; omega) | (congr 1; omega) | decide)))
set_option maxHeartbeats 0 in
theorem hEnd_o2 (kv : Kv) (iv0 : Nat → Int) (bv0 : Nat → Bool) (hin : InB hEnd.B iv0) (hF : FT (sta FI FB kv iv0 bv0) (dlt dyn0) hEnd.F) (iv : Nat → Int) (bv : Nat → Bool) (ha : Agr 6 iv0 bv0 iv bv) (hi : hEnd_inv iv0 bv0 2 iv bv) :
    ∀ lf ∈ hEnd_L2, LfT (sta FI FB kv) hEnd.os (hEnd_inv iv0 bv0) (hEnd_mu iv0 bv0) 2 iv bv lf := by
  unfold hEnd_L2
  refine List.forall_mem_cons.2 ⟨?_, List.forall_mem_nil _⟩
  all_goals
    intro δ hf
  all_goals
    simp only [FT, TP, SB.tp, SI.tv, sta, IB.eval, and_true, true_and, ObsT, Ob.Tv, rowT, kix, In.tiv, ↓tbvT, In.tbv, get_cons, get_nil, reduceIte, Nat.reduceEqDiff, Int.reduceToNat, Int.reduceAdd, Int.reduceSub, Int.reduceLE, Int.reduceLT, Int.reduceEq, ne_eq, Bool.false_eq_true, not_true_eq_false, not_false_eq_true, true_iff, false_iff, iff_true, iff_false, false_implies, implies_true, decT, decide_true, decide_false, Bool.decide_eq_true, ap2, pb2, FI_3, FI_8, FI_9, FI_10, FI_11, FI_12, FI_13, FB_10, FB_11, FB_12, FB_13, FB_14, FB_15, FB_16, FI_20, FI_21, FI_22, FI_23, FI_24, FI_25, FI_26, FB_20, FB_21, FB_22, FB_23, FB_24, Int.toNat_natCast, Int.toNat_zero] at hf
  all_goals
    have a0 := ha.1 0 (by omega)
    have a1 := ha.1 1 (by omega)
    have a2 := ha.1 2 (by omega)
    have a3 := ha.1 3 (by omega)
    have a4 := ha.1 4 (by omega)
    have a5 := ha.1 5 (by omega)
  all_goals
    have b1 := hin 1 0 1000 (by simp [hEnd, bH, gH, fM, lH, nw, ap3, i64b, kH, ap3, pb3, pb4, i64l, lH2, gH2, bH2, fM2, bE, oEnd])
    simp only [Int.reduceLE, reduceIte, Int.reduceNeg] at b1
  all_goals
    have b4 := hin 4 (-9223372036854775808) 9223372036854775807 (by simp [hEnd, bH, gH, fM, lH, nw, ap3, i64b, kH, ap3, pb3, pb4, i64l, lH2, gH2, bH2, fM2, bE, oEnd])
    simp only [Int.reduceLE, reduceIte, Int.reduceNeg] at b4
  all_goals
    have b5 := hin 5 (-9223372036854775808) 9223372036854775807 (by simp [hEnd, bH, gH, fM, lH, nw, ap3, i64b, kH, ap3, pb3, pb4, i64l, lH2, gH2, bH2, fM2, bE, oEnd])
    simp only [Int.reduceLE, reduceIte, Int.reduceNeg] at b5
  all_goals
    simp only [FT, TP, SB.tp, SI.tv, sta, IB.eval, and_true, true_and, ObsT, Ob.Tv, rowT, kix, In.tiv, ↓tbvT, In.tbv, get_cons, get_nil, reduceIte, Nat.reduceEqDiff, Int.reduceToNat, Int.reduceAdd, Int.reduceSub, Int.reduceLE, Int.reduceLT, Int.reduceEq, ne_eq, Bool.false_eq_true, not_true_eq_false, not_false_eq_true, true_iff, false_iff, iff_true, iff_false, false_implies, implies_true, decT, decide_true, decide_false, Bool.decide_eq_true, ap2, pb2, FI_3, FI_8, FI_9, FI_10, FI_11, FI_12, FI_13, FB_10, FB_11, FB_12, FB_13, FB_14, FB_15, FB_16, FI_20, FI_21, FI_22, FI_23, FI_24, FI_25, FI_26, FB_20, FB_21, FB_22, FB_23, FB_24, Int.toNat_natCast, Int.toNat_zero, hEnd_inv, hEnd_mu, hEnd, o1, othT, bH, gH, fM, lH, nw, ap3, i64b, kH, ap3, pb3, pb4, i64l, lH2, gH2, bH2, fM2, bE, oEnd, a0, a1, a2, a3, a4, a5] at hf hi ⊢
  all_goals
    (repeat' (with_reducible apply And.intro)) <;> first
    | omega
    | assumption
    | (unfold inM; omega)
    | (exact fun _ h => h (by first | exact hi.1 | exact hi | exact hf.1 | exact hf.2.1 | exact hf.2.2.1 | exact hf.2.2.2.1 | exact hf.2.2.2.2.1 | exact hf.2.2.2.2.2.1 | exact hf.2.2.2.2.2.2.1 | exact hf.2.2.2.2.2.2.2.1 | exact hf.2.2.2.2.2.2.2.2.1))
    | (exact fun _ h => hf.1 h.1)
    | (exact fun _ h => hi h.1)
set_option maxRecDepth 100000 in
theorem hEnd_c : LsC ((tm0 hEnd Try.f44 (Try.f44.body.getD .skip)) :: [hEnd_T1, hEnd_T2]) hEnd.os [hEnd_L0, hEnd_L1, hEnd_L2] := by
  unfold hEnd_L0 hEnd_L1 hEnd_L2
  exact ⟨List.forall_mem_cons.2 ⟨⟨⟨_, rfl, rfl⟩, by kernel_rfl⟩, List.forall_mem_cons.2 ⟨⟨⟨_, rfl, rfl⟩, by kernel_rfl⟩, List.forall_mem_nil _⟩⟩, List.forall_mem_cons.2 ⟨⟨⟨_, rfl, rfl⟩, by kernel_rfl⟩, List.forall_mem_cons.2 ⟨⟨⟨_, rfl, rfl⟩, by kernel_rfl⟩, List.forall_mem_cons.2 ⟨⟨⟨_, rfl, rfl⟩, by kernel_rfl⟩, List.forall_mem_cons.2 ⟨⟨⟨_, rfl, rfl⟩, by kernel_rfl⟩, List.forall_mem_cons.2 ⟨⟨⟨_, rfl, rfl⟩, by kernel_rfl⟩, List.forall_mem_nil _⟩⟩⟩⟩⟩, List.forall_mem_cons.2 ⟨⟨⟨_, rfl, rfl⟩, by kernel_rfl⟩, List.forall_mem_nil _⟩, trivial⟩
theorem hEnd_ok : hEnd.Ok Try.prog FI FB :=
  Con.of_plain (body := Try.f44.body.getD .skip) pok fiok (EntsFor.cons hOf_ok EntsFor.nil) hEnd Try.func44 (by kernel_rfl) 6 [hEnd_T1, hEnd_T2] (by kernel_rfl) [hEnd_L0, hEnd_L1, hEnd_L2] ⟨hEnd_h0, hEnd_h1, hEnd_h2, trivial⟩ hEnd_c
    hEnd_inv hEnd_mu (fun _ _ _ => trivial) fun kv iv0 bv0 hin hF k l iv bv hk ha hi => match k, hk, hi with
    | 0, hk, hi => by
      cases hk
      exact hEnd_o0 kv iv0 bv0 hin hF iv bv ha hi
    | 1, hk, hi => by
      cases hk
      exact hEnd_o1 kv iv0 bv0 hin hF iv bv ha hi
    | 2, hk, hi => by
      cases hk
      exact hEnd_o2 kv iv0 bv0 hin hF iv bv ha hi
    | k + 3, hk, _ => by simp at hk
noncomputable def rEnd_L0 : List Lf :=
  [(.fin [((.lt (.ap 21 (.v 0) (.v 1) (.v 4) (.c 0) (.c 0) (.c 0)) (.c 0)), .true), ((.lt (.ap 21 (.v 0) (.v 1) (.v 4) (.c 0) (.c 0) (.c 0)) (.v 1)), .true), ((.le (.c (-1)) (.ap 21 (.v 0) (.v 1) (.v 4) (.c 0) (.c 0) (.c 0))), .true), ((.ap 20 (.v 0) (.v 1) (.c 0) (.c 0) (.c 0) (.c 0)), .true), ((.le (.v 1) (.v 3)), .true), ((.le (.c 0) (.v 3)), .true)] 1 ⟨⟨[], []⟩, [], [], []⟩ [] []), (.fin [((.lt (.v 5) (.ap 3 (.v 0) (.ap 21 (.v 0) (.v 1) (.v 4) (.c 0) (.c 0) (.c 0)) (.c 1) (.c 0) (.c 0) (.c 0))), .true), ((.lt (.ap 21 (.v 0) (.v 1) (.v 4) (.c 0) (.c 0) (.c 0)) (.c 0)), .false), ((.lt (.ap 21 (.v 0) (.v 1) (.v 4) (.c 0) (.c 0) (.c 0)) (.v 1)), .true), ((.le (.c (-1)) (.ap 21 (.v 0) (.v 1) (.v 4) (.c 0) (.c 0) (.c 0))), .true), ((.ap 20 (.v 0) (.v 1) (.c 0) (.c 0) (.c 0) (.c 0)), .true), ((.le (.v 1) (.v 3)), .true), ((.le (.c 0) (.v 3)), .true)] 1 ⟨⟨[], []⟩, [], [], []⟩ [] []), (.fin [((.le (.ap 21 (.v 0) (.v 1) (.v 4) (.c 0) (.c 0) (.c 0)) (.d 0)), .true), ((.eq (.v 1) (.op .add (.ap 21 (.v 0) (.v 1) (.v 4) (.c 0) (.c 0) (.c 0)) (.c 1))), .true), ((.lt (.v 5) (.ap 3 (.v 0) (.ap 21 (.v 0) (.v 1) (.v 4) (.c 0) (.c 0) (.c 0)) (.c 1) (.c 0) (.c 0) (.c 0))), .false), ((.lt (.ap 21 (.v 0) (.v 1) (.v 4) (.c 0) (.c 0) (.c 0)) (.c 0)), .false), ((.lt (.ap 21 (.v 0) (.v 1) (.v 4) (.c 0) (.c 0) (.c 0)) (.v 1)), .true), ((.le (.c (-1)) (.ap 21 (.v 0) (.v 1) (.v 4) (.c 0) (.c 0) (.c 0))), .true), ((.ap 20 (.v 0) (.v 1) (.c 0) (.c 0) (.c 0) (.c 0)), .true), ((.le (.v 1) (.v 3)), .true), ((.le (.c 0) (.v 3)), .true)] 2 ⟨⟨[], []⟩, [(0, 1)], [(0, (.d 0))], []⟩ [(.ei (.op .add (.v 1) (.c (-1))) (.ap 21 (.v 0) (.v 1) (.v 4) (.c 0) (.c 0) (.c 0))), (.ar [(.nt .i64), (.nt .i64), (.nt .i64)] (.ap 22 (.v 0) (.v 1) (.ap 21 (.v 0) (.v 1) (.v 4) (.c 0) (.c 0) (.c 0)) (.c 0) (.c 0) (.c 0)) (.v 0) (.op .add (.v 1) (.c (-1)))), (.fa (.le (.op .add (.v 1) (.c (-1))) (.ap 21 (.v 0) (.v 1) (.v 4) (.c 0) (.c 0) (.c 0))) .true), (.fa (.le (.c 0) (.op .add (.v 1) (.c (-1)))) .true)] [.none]), (.fin [((.le (.op .add (.v 1) (.c (-1))) (.d 1)), .true), ((.le (.ap 21 (.v 0) (.v 1) (.v 4) (.c 0) (.c 0) (.c 0)) (.d 0)), .true), ((.eq (.v 1) (.op .add (.ap 21 (.v 0) (.v 1) (.v 4) (.c 0) (.c 0) (.c 0)) (.c 1))), .false), ((.lt (.v 5) (.ap 3 (.v 0) (.ap 21 (.v 0) (.v 1) (.v 4) (.c 0) (.c 0) (.c 0)) (.c 1) (.c 0) (.c 0) (.c 0))), .false), ((.lt (.ap 21 (.v 0) (.v 1) (.v 4) (.c 0) (.c 0) (.c 0)) (.c 0)), .false), ((.lt (.ap 21 (.v 0) (.v 1) (.v 4) (.c 0) (.c 0) (.c 0)) (.v 1)), .true), ((.le (.c (-1)) (.ap 21 (.v 0) (.v 1) (.v 4) (.c 0) (.c 0) (.c 0))), .true), ((.ap 20 (.v 0) (.v 1) (.c 0) (.c 0) (.c 0) (.c 0)), .true), ((.le (.v 1) (.v 3)), .true), ((.le (.c 0) (.v 3)), .true)] 2 ⟨⟨[], []⟩, [(0, 2)], [(0, (.d 1))], []⟩ [(.ar [(.nt .i64), (.nt .i64), (.nt .i64)] (.ap 22 (.v 0) (.v 1) (.ap 21 (.v 0) (.v 1) (.v 4) (.c 0) (.c 0) (.c 0)) (.c 0) (.c 0) (.c 0)) (.ap 9 (.v 0) (.ap 21 (.v 0) (.v 1) (.v 4) (.c 0) (.c 0) (.c 0)) (.v 0) (.op .add (.ap 21 (.v 0) (.v 1) (.v 4) (.c 0) (.c 0) (.c 0)) (.c 1)) (.op .sub (.v 1) (.op .add (.ap 21 (.v 0) (.v 1) (.v 4) (.c 0) (.c 0) (.c 0)) (.c 1))) (.c 0)) (.op .add (.v 1) (.c (-1)))), (.fa (.le (.c 0) (.op .add (.v 1) (.c (-1)))) .true)] [.none]), (.fin [((.ap 20 (.v 0) (.v 1) (.c 0) (.c 0) (.c 0) (.c 0)), .false), ((.le (.v 1) (.v 3)), .true), ((.le (.c 0) (.v 3)), .true)] 0 ⟨⟨[], []⟩, [], [], []⟩ [] [])]
set_option maxRecDepth 100000 in
theorem rEnd_h0 : (ex (ccOf Try.prog BF [58, 84] rEnd) ((fun cc => [rRight.ent cc, rFind.ent cc]) (ccOf Try.prog BF [58, 84] rEnd)) (dw (ccOf Try.prog BF [58, 84] rEnd) ((fun cc => [rRight.ent cc, rFind.ent cc]) (ccOf Try.prog BF [58, 84] rEnd)) 1000 4) (stopX []) 4000 (tm0 rEnd Try.f45 (Try.f45.body.getD .skip)).f (tm0 rEnd Try.f45 (Try.f45.body.getD .skip)).fs (tm0 rEnd Try.f45 (Try.f45.body.getD .skip)).H).lfs (ccOf Try.prog BF [58, 84] rEnd) ((tm0 rEnd Try.f45 (Try.f45.body.getD .skip)) :: []) rEnd.os = some rEnd_L0 := by kernel_rfl
def rEnd_inv : (Nat → Int) → (Nat → Bool) → Nat → (Nat → Int) → (Nat → Bool) → Prop := fun _ _ _ _ _ => True
def rEnd_mu : (Nat → Int) → (Nat → Bool) → Nat → (Nat → Int) → (Nat → Bool) → Nat := fun _ _ _ _ _ => 0
set_option maxHeartbeats 0 in
theorem rEnd_o0 (kv : Kv) (iv0 : Nat → Int) (bv0 : Nat → Bool) (hin : InB rEnd.B iv0) (hF : FT (sta FI FB kv iv0 bv0) (dlt dyn0) rEnd.F) (iv : Nat → Int) (bv : Nat → Bool) (ha : Agr 6 iv0 bv0 iv bv) (hi : rEnd_inv iv0 bv0 0 iv bv) :
    ∀ lf ∈ rEnd_L0, LfT (sta FI FB kv) rEnd.os (rEnd_inv iv0 bv0) (rEnd_mu iv0 bv0) 0 iv bv lf := by
  unfold rEnd_L0
  refine List.forall_mem_cons.2 ⟨?_, List.forall_mem_cons.2 ⟨?_, List.forall_mem_cons.2 ⟨?_, List.forall_mem_cons.2 ⟨?_, List.forall_mem_cons.2 ⟨?_, List.forall_mem_nil _⟩⟩⟩⟩⟩
  all_goals
    intro δ hf
  all_goals
    simp only [FT, TP, SB.tp, SI.tv, sta, IB.eval, and_true, true_and, ObsT, Ob.Tv, rowT, kix, In.tiv, ↓tbvT, In.tbv, get_cons, get_nil, reduceIte, Nat.reduceEqDiff, Int.reduceToNat, Int.reduceAdd, Int.reduceSub, Int.reduceLE, Int.reduceLT, Int.reduceEq, ne_eq, Bool.false_eq_true, not_true_eq_false, not_false_eq_true, true_iff, false_iff, iff_true, iff_false, false_implies, implies_true, decT, decide_true, decide_false, Bool.decide_eq_true, ap2, pb2, FI_3, FI_8, FI_9, FI_10, FI_11, FI_12, FI_13, FB_10, FB_11, FB_12, FB_13, FB_14, FB_15, FB_16, FI_20, FI_21, FI_22, FI_23, FI_24, FI_25, FI_26, FB_20, FB_21, FB_22, FB_23, FB_24, Int.toNat_natCast, Int.toNat_zero] at hf
  all_goals
    have a0 := ha.1 0 (by omega)
    have a1 := ha.1 1 (by omega)
    have a2 := ha.1 2 (by omega)
    have a3 := ha.1 3 (by omega)
    have a4 := ha.1 4 (by omega)
    have a5 := ha.1 5 (by omega)
  all_goals
    have b1 := hin 1 0 1000 (by simp [rEnd, bH, gH, fM, lH, nw, ap3, i64b, kH, ap3, pb3, pb4, i64l, lH2, gH2, bH2, fM2, bE, oEnd])
    simp only [Int.reduceLE, reduceIte, Int.reduceNeg] at b1
  all_goals
    have b4 := hin 4 (-9223372036854775808) 9223372036854775807 (by simp [rEnd, bH, gH, fM, lH, nw, ap3, i64b, kH, ap3, pb3, pb4, i64l, lH2, gH2, bH2, fM2, bE, oEnd])
    simp only [Int.reduceLE, reduceIte, Int.reduceNeg] at b4
  all_goals
    have b5 := hin 5 (-9223372036854775808) 9223372036854775807 (by simp [rEnd, bH, gH, fM, lH, nw, ap3, i64b, kH, ap3, pb3, pb4, i64l, lH2, gH2, bH2, fM2, bE, oEnd])
    simp only [Int.reduceLE, reduceIte, Int.reduceNeg] at b5
  all_goals
    simp only [FT, TP, SB.tp, SI.tv, sta, IB.eval, and_true, true_and, ObsT, Ob.Tv, rowT, kix, In.tiv, ↓tbvT, In.tbv, get_cons, get_nil, reduceIte, Nat.reduceEqDiff, Int.reduceToNat, Int.reduceAdd, Int.reduceSub, Int.reduceLE, Int.reduceLT, Int.reduceEq, ne_eq, Bool.false_eq_true, not_true_eq_false, not_false_eq_true, true_iff, false_iff, iff_true, iff_false, false_implies, implies_true, decT, decide_true, decide_false, Bool.decide_eq_true, ap2, pb2, FI_3, FI_8, FI_9, FI_10, FI_11, FI_12, FI_13, FB_10, FB_11, FB_12, FB_13, FB_14, FB_15, FB_16, FI_20, FI_21, FI_22, FI_23, FI_24, FI_25, FI_26, FB_20, FB_21, FB_22, FB_23, FB_24, Int.toNat_natCast, Int.toNat_zero, rEnd_inv, rEnd_mu, rEnd, o1, othT, bH, gH, fM, lH, nw, ap3, i64b, kH, ap3, pb3, pb4, i64l, lH2, gH2, bH2, fM2, bE, oEnd, a0, a1, a2, a3, a4, a5] at hf hi ⊢
  all_goals
    (repeat' (with_reducible apply And.intro)) <;> first
    | omega
    | assumption
    | (unfold inM; omega)
    | (exact fun _ h => h (by first | exact hi.1 | exact hi | exact hf.1 | exact hf.2.1 | exact hf.2.2.1 | exact hf.2.2.2.1 | exact hf.2.2.2.2.1 | exact hf.2.2.2.2.2.1 | exact hf.2.2.2.2.2.2.1 | exact hf.2.2.2.2.2.2.2.1 | exact hf.2.2.2.2.2.2.2.2.1))
    | (exact fun _ h => hf.1 h.1)
    | (exact fun _ h => hi h.1)
    | (intro _ h; have := h.2.1; omega)
    | (intro _ h; have := h.2.2; omega)
    | (intro _ h; exact h.2 ⟨by omega, by omega⟩)
    | (intro j hj; refine ⟨?_, ?_, ?_⟩ <;> (rw [fl_delC (by omega) (by decide)]; (try simp only [fl_blit, fl_set]); (repeat' split) <;> first | rfl | (exfalso; omega) | (congr 1; omega) | decide))
set_option maxRecDepth 100000 in
theorem rEnd_c : LsC ((tm0 rEnd Try.f45 (Try.f45.body.getD .skip)) :: []) rEnd.os [rEnd_L0] := by
  unfold rEnd_L0
  exact ⟨List.forall_mem_cons.2 ⟨⟨⟨_, rfl, rfl⟩, by kernel_rfl⟩, List.forall_mem_cons.2 ⟨⟨⟨_, rfl, rfl⟩, by kernel_rfl⟩, List.forall_mem_cons.2 ⟨⟨⟨_, rfl, rfl⟩, by kernel_rfl⟩, List.forall_mem_cons.2 ⟨⟨⟨_, rfl, rfl⟩, by kernel_rfl⟩, List.forall_mem_cons.2 ⟨⟨⟨_, rfl, rfl⟩, by kernel_rfl⟩, List.forall_mem_nil _⟩⟩⟩⟩⟩, trivial⟩
theorem rEnd_ok : rEnd.Ok Try.prog FI FB :=
  Con.of_plain (body := Try.f45.body.getD .skip) pok fiok (EntsFor.cons rRight_ok (EntsFor.cons rFind_ok EntsFor.nil)) rEnd Try.func45 (by kernel_rfl) 6 [] (by kernel_rfl) [rEnd_L0] ⟨rEnd_h0, trivial⟩ rEnd_c
    rEnd_inv rEnd_mu (fun _ _ _ => trivial) fun kv iv0 bv0 hin hF k l iv bv hk ha hi => match k, hk, hi with
    | 0, hk, hi => by
      cases hk
      exact rEnd_o0 kv iv0 bv0 hin hF iv bv ha hi
    | k + 1, hk, _ => by simp at hk
end Go.Sx.Mhw
