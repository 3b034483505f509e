/- Holds: the laws by contract (HoldHolds). -/
import Derived.Test.YtfgdpkceoadgjaaHoB
import Derived.Test.YtfgdpkceoadgjaaHoR
import Derived.Test.YtfgdpkceoadgjaaHoW
namespace Go.Sx.Mhw
set_option linter.unusedVariables false
set_option linter.unusedSimpArgs false
open Go Go.Sx Go.Proofs
noncomputable def hEnd0 : Con := ⟨44, [4, 5], [.sn, .it .i64 (.v 4), .it .i64 (.v 5)], [], [i64b 4, i64b 5], [], o1 (.tp [.sn, .it .i64 (.c 5)])⟩
noncomputable def pMay : SB := .ap 23 (.v 4) (.v 5) (.v 6) (.c 0) (.c 0) (.c 0)
noncomputable def hAdd0 : Con := ⟨56, [4, 5, 6], [.sn, hV], [], [i64b 4, i64b 5, i64b 6], [], [⟨[(pMay, true)], .tp [.sl (.n 0) (.c 0) (.c 1) (.d 0), .it .i64 (.c 0)], [(0, .arr kH (.ap 23 (.c 0) (.c 0) (.c 0) (.v 4) (.v 5) (.v 6)) (.c 1) 58 (.d 0))], 1, 1, [(.le (.c 1) (.d 0), true)]⟩, ⟨[(pMay, false)], .tp [.sn, .it .i64 (.c 2)], [], 0, 0, []⟩]⟩
noncomputable def bL4 : List (Nat × Int × Int) := [(1, 0, 9223372036854775807), (2, 0, -1)]
noncomputable def lHoldsH : Con := ⟨11, [0, 1, 2, 3], [lH], gH, bL4, fM, o1 (.bo (.c true))⟩
noncomputable def lHoldsH0 : Con := ⟨11, [], [.sn], [], [], [], o1 (.bo (.c true))⟩
theorem fnd_lt {c n s : Int} (h : 0 ≤ fndC c n s) : fndC c n s < n := by
  have := fstI_cases (fun j => fl c j 0 = s) (min n 4096)
  unfold fndC at h ⊢
  omega
theorem pos_in {c n s : Int} (h0 : 0 ≤ n) (hn : n ≤ 4096) : 0 ≤ posC c n s ∧ posC c n s ≤ n := by
  rw [posC_eq h0 hn]
  rcases fstI_cases (fun j => s ≤ fl c j 0) n with ⟨e, _⟩ | ⟨e1, e2, _⟩ <;> split <;> omega
theorem fitP_symm {a b : Int} (h : fitP a b) : fitP b a := by unfold fitP at *; omega
theorem rgt_T {c n : Int} (h : rgtP c n) (a b : Nat) (hb : b < a) (ha : (a : Int) < n) : fitP (fl c a 2) (fl c b 2) := by
  have := h.2.2 a ha b (by omega)
  rwa [fl_modesC ha, fl_modesC (by omega)] at this
theorem rgt_mk {c n : Int} (h : mayA c n) (hT : ∀ a b : Nat, b < a → (a : Int) < n → fitP (fl c a 2) (fl c b 2)) : rgtP c n :=
  ⟨h, allM_of h, fun i hi j hj => by rw [fl_modesC hi, fl_modesC (by omega)]; exact hT i j (by omega) hi⟩
theorem fnd_ne {c n s : Int} (hn : n ≤ 4096) (h : ¬ 0 ≤ fndC c n s) (j : Nat) (hj : (j : Int) < n) : fl c j 0 ≠ s := by
  rw [fndC_eq hn] at h
  rcases fstI_cases (fun j => fl c j 0 = s) n with ⟨_, hh⟩ | ⟨hh, _⟩
  · exact hh j hj
  · exact absurd hh h
theorem pos_spec {c n s : Int} (hr : rgtP c n) (h0 : 0 ≤ n) (hn : n ≤ 4096) (hf : ¬ 0 ≤ fndC c n s) :
    (0 ≤ posC c n s ∧ posC c n s ≤ n) ∧ (∀ j : Nat, (j : Int) < posC c n s → fl c j 0 < s) ∧ (∀ j : Nat, posC c n s ≤ j → (j : Int) < n → s < fl c j 0) := by
  refine ⟨pos_in h0 hn, ?_, ?_⟩ <;> rw [posC_eq h0 hn]
  · rcases fstI_cases (fun j => s ≤ fl c j 0) n with ⟨e, hh⟩ | ⟨e1, e2, e3, hh⟩
    · rw [e, if_pos rfl]; intro j hj; have := hh j hj; omega
    · rw [if_neg (by omega)]; intro j hj; have := hh j hj; omega
  · rcases fstI_cases (fun j => s ≤ fl c j 0) n with ⟨e, hh⟩ | ⟨e1, e2, e3, hh⟩
    · rw [e, if_pos rfl]; intro j h1 h2; omega
    · rw [if_neg (by omega)]; intro j h1 h2
      have h3 := rgt_mono hr (j := (fstI (fun j => s ≤ fl c j 0) n).toNat) (i := j) h2 (by omega)
      have h4 := fnd_ne hn hf j h2
      omega
section
variable {c n k s u m : Int}
theorem ins_rgt (hr : rgtP c n) (h0 : 0 ≤ n) (hk : 0 ≤ k ∧ k ≤ n) (hlo : ∀ j : Nat, (j : Int) < k → fl c j 0 < s) (hhi : ∀ j : Nat, k ≤ j → (j : Int) < n → s < fl c j 0) (hmay : mayP s u m) (hfit : fitsP c n m)
    (hs : -9223372036854775808 ≤ s ∧ s ≤ 9223372036854775807) (hu : -9223372036854775808 ≤ u ∧ u ≤ 9223372036854775807) (hm : -9223372036854775808 ≤ m ∧ m ≤ 9223372036854775807) : rgtP (insC c n k s u m) (n + 1) := by
  have row := fun (j : Nat) (hj : (j : Int) < n + 1) => @fl_ins0 c n k s u m j hj hs hu hm
  refine rgt_mk (fun i hi => ⟨?_, fun hi0 => ?_⟩) fun a b hb ha => ?_
  · obtain ⟨e0, e1, e2⟩ := row i hi
    rw [e0, e1, e2]
    by_cases h1 : (i : Int) < k
    · simp only [if_pos h1]; exact (hr.1 i (by omega)).1
    · by_cases h2 : (i : Int) = k
      · simp only [if_neg h1, if_pos h2]; exact hmay
      · simp only [if_neg h1, if_neg h2]; exact (hr.1 (i - 1) (by omega)).1
  · rw [(row i hi).1, (row (i - 1) (by omega)).1]
    by_cases h1 : (i : Int) < k
    · rw [if_pos (by omega), if_pos h1]; exact (hr.1 i (by omega)).2 hi0
    · by_cases h2 : (i : Int) = k
      · rw [if_pos (by omega), if_neg h1, if_pos h2]; exact hlo (i - 1) (by omega)
      · rw [if_neg h1, if_neg h2]
        by_cases h3 : (i : Int) = k + 1
        · rw [if_neg (by omega), if_pos (by omega)]; exact hhi (i - 1) (by omega) (by omega)
        · rw [if_neg (by omega), if_neg (by omega)]
          have := (hr.1 (i - 1) (by omega)).2 (by omega)
          exact this
  · rw [(row a ha).2.2, (row b (by omega)).2.2]
    by_cases h1 : (a : Int) < k
    · rw [if_pos h1, if_pos (by omega)]; exact rgt_T hr a b hb (by omega)
    · by_cases h2 : (a : Int) = k
      · rw [if_neg h1, if_pos h2, if_pos (by omega)]; exact fitP_symm (hfit b (by omega))
      · rw [if_neg h1, if_neg h2]
        by_cases h3 : (b : Int) < k
        · rw [if_pos h3]; exact rgt_T hr (a - 1) b (by omega) (by omega)
        · by_cases h4 : (b : Int) = k
          · rw [if_neg h3, if_pos h4]; exact hfit (a - 1) (by omega)
          · rw [if_neg h3, if_neg h4]; exact rgt_T hr (a - 1) (b - 1) (by omega) (by omega)
theorem ins_fnd (hn : n + 1 ≤ 4096) (hk : 0 ≤ k ∧ k ≤ n) (hlo : ∀ j : Nat, (j : Int) < k → fl c j 0 < s)
    (hs : -9223372036854775808 ≤ s ∧ s ≤ 9223372036854775807) (hu : -9223372036854775808 ≤ u ∧ u ≤ 9223372036854775807) (hm : -9223372036854775808 ≤ m ∧ m ≤ 9223372036854775807) : fndC (insC c n k s u m) (n + 1) s = k := by
  refine fnd_at hn hk.1 (by omega) ?_ fun j hj => ?_
  · rw [(@fl_ins0 c n k s u m k.toNat (by omega) hs hu hm).1, if_neg (by omega), if_pos (by omega)]
  · rw [(@fl_ins0 c n k s u m j (by omega) hs hu hm).1, if_pos hj]
    have := hlo j hj; omega
theorem ins_end (hn : n + 1 ≤ 4096) (hk : 0 ≤ k ∧ k ≤ n) (hlo : ∀ j : Nat, (j : Int) < k → fl c j 0 < s)
    (hs : -9223372036854775808 ≤ s ∧ s ≤ 9223372036854775807) (hu : -9223372036854775808 ≤ u ∧ u ≤ 9223372036854775807) (hm : -9223372036854775808 ≤ m ∧ m ≤ 9223372036854775807) : endP (insC c n k s u m) (n + 1) s u := by
  unfold endP
  rw [ins_fnd hn hk hlo hs hu hm]
  refine ⟨hk.1, ?_⟩
  rw [(@fl_ins0 c n k s u m k.toNat (by omega) hs hu hm).2.1, if_neg (by omega), if_pos (by omega)]
  omega
theorem ins_del (hk : 0 ≤ k ∧ k ≤ n)
    (hs : -9223372036854775808 ≤ s ∧ s ≤ 9223372036854775807) (hu : -9223372036854775808 ≤ u ∧ u ≤ 9223372036854775807) (hm : -9223372036854775808 ≤ m ∧ m ≤ 9223372036854775807) : sameP (delC (insC c n k s u m) (n + 1) k) n c n := by
  refine ⟨rfl, fun j hj => ?_⟩
  rw [fl_delC (by omega) (by decide), fl_delC (by omega) (by decide), fl_delC (by omega) (by decide)]
  by_cases h1 : (j : Int) < k
  · rw [if_pos h1]
    obtain ⟨e0, e1, e2⟩ := @fl_ins0 c n k s u m j (by omega) hs hu hm
    rw [e0, e1, e2]; simp only [if_pos h1, and_self]
  · rw [if_neg h1]
    obtain ⟨e0, e1, e2⟩ := @fl_ins0 c n k s u m (j + 1) (by omega) hs hu hm
    have g1 : ¬ ((j + 1 : Nat) : Int) < k := by omega
    have g2 : ¬ ((j + 1 : Nat) : Int) = k := by omega
    rw [e0, e1, e2]; simp only [if_neg g1, if_neg g2, Nat.add_sub_cancel, and_self]
theorem del_rgt (hr : rgtP c n) (hk : 0 ≤ k) (hkn : k < n) : rgtP (delC c n k) (n + -1) := by
  have row := fun (j f : Nat) (hj : (j : Int) < n + -1) (hf : f < 3) => @fl_delC c n k j f (by omega) hf
  refine rgt_mk (fun i hi => ⟨?_, fun hi0 => ?_⟩) fun a b hb ha => ?_
  · rw [row i 0 hi (by decide), row i 1 hi (by decide), row i 2 hi (by decide)]
    exact (hr.1 _ (by split <;> omega)).1
  · rw [row i 0 hi (by decide), row (i - 1) 0 (by omega) (by decide)]
    by_cases h1 : (i : Int) < k
    · rw [if_pos (by omega), if_pos h1]; exact (hr.1 i (by omega)).2 hi0
    · rw [if_neg h1]
      have e1 := (hr.1 (i + 1) (by omega)).2 (by omega)
      rw [Nat.add_sub_cancel] at e1
      by_cases h2 : (i : Int) = k
      · rw [if_pos (by omega)]
        have e2 := (hr.1 i (by omega)).2 hi0
        omega
      · rw [if_neg (by omega)]
        have e3 : i - 1 + 1 = i := by omega
        rw [e3]; exact e1
  · rw [row a 2 ha (by decide), row b 2 (by omega) (by decide)]
    exact rgt_T hr _ _ (by split <;> split <;> omega) (by split <;> omega)
theorem wr_one (hr : rgtP c n) (hw : 0 ≤ wrtC c n) : n = 1 := by
  have hcs := fstI_cases (fun j => fl c j 2 = 5) (min n 4096)
  unfold wrtC at hw
  rcases hcs with ⟨e, _⟩ | ⟨_, h2, h3, _⟩
  · omega
  · generalize fstI (fun j => fl c j 2 = 5) (min n 4096) = w at *
    by_cases h1 : n ≤ 1
    · omega
    · exfalso
      have hmode := fun j hj => (hr.1 j hj).1.2.2
      by_cases h4 : w.toNat = 0
      · have h5 := rgt_T hr 1 0 (by omega) (by omega)
        rw [h4] at h3
        rw [h3] at h5
        have := hmode 1 (by omega)
        unfold fitP at h5; omega
      · have h5 := rgt_T hr w.toNat 0 (by omega) (by omega)
        rw [h3] at h5
        have := hmode 0 (by omega)
        unfold fitP at h5; omega
end
theorem rgt_zero (c : Int) : rgtP c 0 := rgt_nil (by omega)
theorem fits_zero (c m : Int) : fitsP c 0 m := fun j hj => by omega
theorem add_ok {c n s u m : Int} (h : addP c n s u m = 0) : rgtP c n ∧ mayP s u m ∧ ¬ 0 ≤ fndC c n s ∧ fitsP c n m := by
  by_cases h1 : rgtP c n ∧ mayP s u m
  · by_cases h2 : 0 ≤ fndC c n s
    · rw [addP_230 h1.1 h1.2 h2] at h; omega
    · by_cases h3 : fitsP c n m
      · exact ⟨h1.1, h1.2, h2, h3⟩
      · rw [addP_231 h1.1 h1.2 h2 h3] at h; omega
  · rw [addP_2 h1] at h; omega
/-- all that is known behind one more -/
theorem add_all {c n s u m : Int} (h : addP c n s u m = 0) (h0 : 0 ≤ n) (hn : n + 1 ≤ 4096) (hs : -9223372036854775808 ≤ s ∧ s ≤ 9223372036854775807) (hu : -9223372036854775808 ≤ u ∧ u ≤ 9223372036854775807) (hm : -9223372036854775808 ≤ m ∧ m ≤ 9223372036854775807) :
    rgtP (insC c n (posC c n s) s u m) (n + 1) ∧ endP (insC c n (posC c n s) s u m) (n + 1) s u ∧ sameP (delC (insC c n (posC c n s) s u m) (n + 1) (fndC (insC c n (posC c n s) s u m) (n + 1) s)) n c n := by
  obtain ⟨h1, h2, h3, h4⟩ := add_ok h
  obtain ⟨p1, p2, p3⟩ := pos_spec h1 h0 (by omega) h3
  refine ⟨ins_rgt h1 h0 p1 p2 p3 h2 h4 hs hu hm, ins_end hn p1 p2 hs hu hm, ?_⟩
  rw [ins_fnd hn p1 p2 hs hu hm]; exact ins_del p1 hs hu hm
theorem add_all0 {s u m : Int} (h : mayP s u m) (hs : -9223372036854775808 ≤ s ∧ s ≤ 9223372036854775807) (hu : -9223372036854775808 ≤ u ∧ u ≤ 9223372036854775807) (hm : -9223372036854775808 ≤ m ∧ m ≤ 9223372036854775807) :
    rgtP (insC 0 0 0 s u m) 1 ∧ endP (insC 0 0 0 s u m) 1 s u :=
  ⟨ins_rgt (c := 0) (n := 0) (k := 0) (rgt_zero 0) (by omega) (by omega) (fun j hj => by omega) (fun j h1 h2 => by omega) h (fits_zero 0 m) hs hu hm, ins_end (c := 0) (n := 0) (k := 0) (by omega) (by omega) (fun j hj => by omega) hs hu hm⟩
theorem rgt_pair {c n : Int} (h : rgtP c n) (a b : Int) (hb : 0 ≤ b) (hab : b < a) (ha : a < n) : fitP (fl c a.toNat 2) (fl c b.toNat 2) := rgt_T h a.toNat b.toNat (by omega) (by omega)
theorem fl_rng (c : Int) (j f : Nat) : -9223372036854775808 ≤ fl c j f ∧ fl c j f ≤ 9223372036854775807 := fl_in c j f
noncomputable def hEnd0_L0 : List Lf :=
  [(.fin [] 0 ⟨⟨[], []⟩, [], [], []⟩ [] [])]
set_option maxRecDepth 100000 in
theorem hEnd0_h0 : (ex (ccOf Try.prog BF [58, 84] hEnd0) ((fun _ => []) (ccOf Try.prog BF [58, 84] hEnd0)) (dw (ccOf Try.prog BF [58, 84] hEnd0) ((fun _ => []) (ccOf Try.prog BF [58, 84] hEnd0)) 1000 4) (stopX [0, 1, 2, 3, 4, 5, 6, 7, 8, 9, 10, 11, 12, 13, 14, 15, 16, 17, 18, 19, 20, 21, 22, 23, 24, 25, 26, 27, 28, 29, 30, 31, 32, 33, 34, 35, 36, 37, 38, 39, 40, 41, 42, 43, 44, 45, 46, 47, 48, 49, 50, 51, 52, 53, 54, 55, 56, 57, 58, 59, 60, 61, 62, 63, 64, 65, 66, 67, 68, 69, 70, 71, 72, 73, 74, 75, 76, 77, 78, 79, 80, 81, 82, 83, 84, 85, 86, 87, 88, 89, 90, 91, 92, 93, 94, 95, 96, 97, 98, 99, 100, 101, 102, 103, 104, 105, 106, 107, 108, 109, 110, 111, 112, 113, 114, 115, 116, 117, 118, 119, 120, 121, 122, 123, 124, 125, 126, 127, 128, 129, 130, 131, 132, 133, 134, 135, 136, 137, 138, 139, 140, 141, 142, 143, 144, 145, 146, 147, 148, 149, 150, 151, 152, 153, 154, 155, 156, 157, 158, 159, 160, 161, 162, 163, 164, 165, 166, 167, 168, 169, 170, 171, 172, 173, 174, 175, 176, 177, 178, 179, 180, 181, 182, 183, 184, 185, 186, 187, 188, 189, 190, 191, 192, 193, 194, 195, 196, 197, 198, 199]) 4000 (tm0 hEnd0 Try.f44 (Try.f44.body.getD .skip)).f (tm0 hEnd0 Try.f44 (Try.f44.body.getD .skip)).fs (tm0 hEnd0 Try.f44 (Try.f44.body.getD .skip)).H).lfs (ccOf Try.prog BF [58, 84] hEnd0) ((tm0 hEnd0 Try.f44 (Try.f44.body.getD .skip)) :: []) hEnd0.os = some hEnd0_L0 := by kernel_rfl
def hEnd0_inv : (Nat → Int) → (Nat → Bool) → Nat → (Nat → Int) → (Nat → Bool) → Prop := fun _ _ _ _ _ => True
def hEnd0_mu : (Nat → Int) → (Nat → Bool) → Nat → (Nat → Int) → (Nat → Bool) → Nat := fun _ _ _ _ _ => 0
set_option maxHeartbeats 0 in
theorem hEnd0_o0 (kv : Kv) (iv0 : Nat → Int) (bv0 : Nat → Bool) (hin : InB hEnd0.B iv0) (hF : FT (sta FI FB kv iv0 bv0) (dlt dyn0) hEnd0.F) (iv : Nat → Int) (bv : Nat → Bool) (ha : Agr 7 iv0 bv0 iv bv) (hi : hEnd0_inv iv0 bv0 0 iv bv) :
    ∀ lf ∈ hEnd0_L0, LfT (sta FI FB kv) hEnd0.os (hEnd0_inv iv0 bv0) (hEnd0_mu iv0 bv0) 0 iv bv lf := by
  unfold hEnd0_L0
  refine List.forall_mem_cons.2 ⟨?_, List.forall_mem_nil _⟩
  all_goals
    intro δ hf
  all_goals
    simp only [FT, TP, SB.tp, SI.tv, sta, IB.eval, and_true, true_and, ObsT, Ob.Tv, rowT, kix, In.tiv, ↓tbvT, In.tbv, get_cons, get_nil, reduceIte, Nat.reduceEqDiff, Int.reduceToNat, Int.reduceAdd, Int.reduceSub, Int.reduceLE, Int.reduceLT, Int.reduceEq, ne_eq, Bool.false_eq_true, not_true_eq_false, not_false_eq_true, true_iff, false_iff, iff_true, iff_false, false_implies, implies_true, decT, decide_true, decide_false, Bool.decide_eq_true, ap2, pb2, FI_3, FI_8, FI_9, FI_10, FI_11, FI_12, FI_13, FB_10, FB_11, FB_12, FB_13, FB_14, FB_15, FB_16, FI_20, FI_21, FI_22, FI_23, FI_24, FI_25, FI_26, FB_20, FB_21, FB_22, FB_23, FB_24, FB_25, FB_26, FB_27, FI_27, Int.toNat_natCast, Int.toNat_zero] at hf
  all_goals
    have a4 := ha.1 4 (by omega)
    have a5 := ha.1 5 (by omega)
  all_goals
    have b4 := hin 4 (-9223372036854775808) 9223372036854775807 (by simp [hEnd0, bH, gH, fM, lH, nw, ap3, i64b, kH, ap3, pb3, pb4, i64l, bL4, hV, pMay])
    simp only [Int.reduceLE, reduceIte, Int.reduceNeg] at b4
  all_goals
    have b5 := hin 5 (-9223372036854775808) 9223372036854775807 (by simp [hEnd0, bH, gH, fM, lH, nw, ap3, i64b, kH, ap3, pb3, pb4, i64l, bL4, hV, pMay])
    simp only [Int.reduceLE, reduceIte, Int.reduceNeg] at b5
  all_goals
    simp only [FT, TP, SB.tp, SI.tv, sta, IB.eval, and_true, true_and, ObsT, Ob.Tv, rowT, kix, In.tiv, ↓tbvT, In.tbv, get_cons, get_nil, reduceIte, Nat.reduceEqDiff, Int.reduceToNat, Int.reduceAdd, Int.reduceSub, Int.reduceLE, Int.reduceLT, Int.reduceEq, ne_eq, Bool.false_eq_true, not_true_eq_false, not_false_eq_true, true_iff, false_iff, iff_true, iff_false, false_implies, implies_true, decT, decide_true, decide_false, Bool.decide_eq_true, ap2, pb2, FI_3, FI_8, FI_9, FI_10, FI_11, FI_12, FI_13, FB_10, FB_11, FB_12, FB_13, FB_14, FB_15, FB_16, FI_20, FI_21, FI_22, FI_23, FI_24, FI_25, FI_26, FB_20, FB_21, FB_22, FB_23, FB_24, FB_25, FB_26, FB_27, FI_27, Int.toNat_natCast, Int.toNat_zero, hEnd0_inv, hEnd0_mu, hEnd0, o1, othT, bH, gH, fM, lH, nw, ap3, i64b, kH, ap3, pb3, pb4, i64l, bL4, hV, pMay, a4, a5] at hf hi ⊢
  all_goals
    (repeat' (with_reducible apply And.intro)) <;> first
    | omega
    | assumption
    | (unfold inM; omega)
    | exact trivial
set_option maxRecDepth 100000 in
theorem hEnd0_c : LsC ((tm0 hEnd0 Try.f44 (Try.f44.body.getD .skip)) :: []) hEnd0.os [hEnd0_L0] := by
  unfold hEnd0_L0
  exact ⟨List.forall_mem_cons.2 ⟨⟨⟨_, rfl, rfl⟩, by kernel_rfl⟩, List.forall_mem_nil _⟩, trivial⟩
theorem hEnd0_ok : hEnd0.Ok Try.prog FI FB :=
  Con.of_plain (body := Try.f44.body.getD .skip) pok fiok EntsFor.nil hEnd0 Try.func44 (by kernel_rfl) 7 [] (by kernel_rfl) [hEnd0_L0] ⟨hEnd0_h0, trivial⟩ hEnd0_c
    hEnd0_inv hEnd0_mu (fun _ _ _ => trivial) fun kv iv0 bv0 hin hF k l iv bv hk ha hi => match k, hk, hi with
    | 0, hk, hi => by
      cases hk
      exact hEnd0_o0 kv iv0 bv0 hin hF iv bv ha hi
    | k + 1, hk, _ => by simp at hk
noncomputable def hAdd0_L0 : List Lf :=
  [(.fin [((.le (.c 1) (.d 0)), .true), ((.ap 23 (.v 4) (.v 5) (.v 6) (.c 0) (.c 0) (.c 0)), .true)] 0 ⟨⟨[], []⟩, [(0, 17)], [(0, (.d 0))], []⟩ [(.ei (.ap 3 (.ap 23 (.c 0) (.c 0) (.c 0) (.v 4) (.v 5) (.v 6)) (.c 0) (.c 0) (.c 0) (.c 0) (.c 0)) (.v 4)), (.ei (.ap 3 (.ap 23 (.c 0) (.c 0) (.c 0) (.v 4) (.v 5) (.v 6)) (.c 0) (.c 1) (.c 0) (.c 0) (.c 0)) (.v 5)), (.ei (.ap 3 (.ap 23 (.c 0) (.c 0) (.c 0) (.v 4) (.v 5) (.v 6)) (.c 0) (.c 2) (.c 0) (.c 0) (.c 0)) (.v 6)), (.fa (.le (.c 1) (.c 1)) .true), (.fa (.le (.c 1) (.d 0)) .true)] [.none]), (.fin [((.ap 23 (.v 4) (.v 5) (.v 6) (.c 0) (.c 0) (.c 0)), .false)] 1 ⟨⟨[], []⟩, [], [], []⟩ [] [])]
set_option maxRecDepth 100000 in
theorem hAdd0_h0 : (ex (ccOf Try.prog BF [58, 84] hAdd0) ((fun cc => [hMay.ent cc]) (ccOf Try.prog BF [58, 84] hAdd0)) (dw (ccOf Try.prog BF [58, 84] hAdd0) ((fun cc => [hMay.ent cc]) (ccOf Try.prog BF [58, 84] hAdd0)) 1000 4) (stopX [0, 1, 2, 3, 4, 5, 6, 7, 8, 9, 10, 11, 12, 13, 14, 15, 16, 17, 18, 19, 20, 21, 22, 23, 24, 25, 26, 27, 28, 29, 30, 31, 32, 33, 34, 35, 36, 37, 38, 39, 40, 41, 42, 43, 44, 45, 46, 47, 48, 49, 50, 51, 52, 53, 54, 55, 56, 57, 58, 59, 60, 61, 62, 63, 64, 65, 66, 67, 68, 69, 70, 71, 72, 73, 74, 75, 76, 77, 78, 79, 80, 81, 82, 83, 84, 85, 86, 87, 88, 89, 90, 91, 92, 93, 94, 95, 96, 97, 98, 99, 100, 101, 102, 103, 104, 105, 106, 107, 108, 109, 110, 111, 112, 113, 114, 115, 116, 117, 118, 119, 120, 121, 122, 123, 124, 125, 126, 127, 128, 129, 130, 131, 132, 133, 134, 135, 136, 137, 138, 139, 140, 141, 142, 143, 144, 145, 146, 147, 148, 149, 150, 151, 152, 153, 154, 155, 156, 157, 158, 159, 160, 161, 162, 163, 164, 165, 166, 167, 168, 169, 170, 171, 172, 173, 174, 175, 176, 177, 178, 179, 180, 181, 182, 183, 184, 185, 186, 187, 188, 189, 190, 191, 192, 193, 194, 195, 196, 197, 198, 199]) 4000 (tm0 hAdd0 Try.f56 (Try.f56.body.getD .skip)).f (tm0 hAdd0 Try.f56 (Try.f56.body.getD .skip)).fs (tm0 hAdd0 Try.f56 (Try.f56.body.getD .skip)).H).lfs (ccOf Try.prog BF [58, 84] hAdd0) ((tm0 hAdd0 Try.f56 (Try.f56.body.getD .skip)) :: []) hAdd0.os = some hAdd0_L0 := by kernel_rfl
def hAdd0_inv : (Nat → Int) → (Nat → Bool) → Nat → (Nat → Int) → (Nat → Bool) → Prop := fun _ _ _ _ _ => True
def hAdd0_mu : (Nat → Int) → (Nat → Bool) → Nat → (Nat → Int) → (Nat → Bool) → Nat := fun _ _ _ _ _ => 0
set_option maxHeartbeats 0 in
theorem hAdd0_o0 (kv : Kv) (iv0 : Nat → Int) (bv0 : Nat → Bool) (hin : InB hAdd0.B iv0) (hF : FT (sta FI FB kv iv0 bv0) (dlt dyn0) hAdd0.F) (iv : Nat → Int) (bv : Nat → Bool) (ha : Agr 7 iv0 bv0 iv bv) (hi : hAdd0_inv iv0 bv0 0 iv bv) :
    ∀ lf ∈ hAdd0_L0, LfT (sta FI FB kv) hAdd0.os (hAdd0_inv iv0 bv0) (hAdd0_mu iv0 bv0) 0 iv bv lf := by
  unfold hAdd0_L0
  refine List.forall_mem_cons.2 ⟨?_, List.forall_mem_cons.2 ⟨?_, List.forall_mem_nil _⟩⟩
  all_goals
    intro δ hf
  all_goals
    simp only [FT, TP, SB.tp, SI.tv, sta, IB.eval, and_true, true_and, ObsT, Ob.Tv, rowT, kix, In.tiv, ↓tbvT, In.tbv, get_cons, get_nil, reduceIte, Nat.reduceEqDiff, Int.reduceToNat, Int.reduceAdd, Int.reduceSub, Int.reduceLE, Int.reduceLT, Int.reduceEq, ne_eq, Bool.false_eq_true, not_true_eq_false, not_false_eq_true, true_iff, false_iff, iff_true, iff_false, false_implies, implies_true, decT, decide_true, decide_false, Bool.decide_eq_true, ap2, pb2, FI_3, FI_8, FI_9, FI_10, FI_11, FI_12, FI_13, FB_10, FB_11, FB_12, FB_13, FB_14, FB_15, FB_16, FI_20, FI_21, FI_22, FI_23, FI_24, FI_25, FI_26, FB_20, FB_21, FB_22, FB_23, FB_24, FB_25, FB_26, FB_27, FI_27, Int.toNat_natCast, Int.toNat_zero] at hf
  all_goals
    have a4 := ha.1 4 (by omega)
    have a5 := ha.1 5 (by omega)
    have a6 := ha.1 6 (by omega)
  all_goals
    have b4 := hin 4 (-9223372036854775808) 9223372036854775807 (by simp [hAdd0, bH, gH, fM, lH, nw, ap3, i64b, kH, ap3, pb3, pb4, i64l, bL4, hV, pMay])
    simp only [Int.reduceLE, reduceIte, Int.reduceNeg] at b4
  all_goals
    have b5 := hin 5 (-9223372036854775808) 9223372036854775807 (by simp [hAdd0, bH, gH, fM, lH, nw, ap3, i64b, kH, ap3, pb3, pb4, i64l, bL4, hV, pMay])
    simp only [Int.reduceLE, reduceIte, Int.reduceNeg] at b5
  all_goals
    have b6 := hin 6 (-9223372036854775808) 9223372036854775807 (by simp [hAdd0, bH, gH, fM, lH, nw, ap3, i64b, kH, ap3, pb3, pb4, i64l, bL4, hV, pMay])
    simp only [Int.reduceLE, reduceIte, Int.reduceNeg] at b6
  all_goals
    simp only [FT, TP, SB.tp, SI.tv, sta, IB.eval, and_true, true_and, ObsT, Ob.Tv, rowT, kix, In.tiv, ↓tbvT, In.tbv, get_cons, get_nil, reduceIte, Nat.reduceEqDiff, Int.reduceToNat, Int.reduceAdd, Int.reduceSub, Int.reduceLE, Int.reduceLT, Int.reduceEq, ne_eq, Bool.false_eq_true, not_true_eq_false, not_false_eq_true, true_iff, false_iff, iff_true, iff_false, false_implies, implies_true, decT, decide_true, decide_false, Bool.decide_eq_true, ap2, pb2, FI_3, FI_8, FI_9, FI_10, FI_11, FI_12, FI_13, FB_10, FB_11, FB_12, FB_13, FB_14, FB_15, FB_16, FI_20, FI_21, FI_22, FI_23, FI_24, FI_25, FI_26, FB_20, FB_21, FB_22, FB_23, FB_24, FB_25, FB_26, FB_27, FI_27, Int.toNat_natCast, Int.toNat_zero, hAdd0_inv, hAdd0_mu, hAdd0, o1, othT, bH, gH, fM, lH, nw, ap3, i64b, kH, ap3, pb3, pb4, i64l, bL4, hV, pMay, a4, a5, a6] at hf hi ⊢
  all_goals
    have hins := @fl_ins0 0 0 0 (iv0 4) (iv0 5) (iv0 6) 0 (by omega) b4 b5 b6
    simp at hins
  all_goals
    (repeat' (with_reducible apply And.intro)) <;> first
    | omega
    | assumption
    | (unfold inM; omega)
    | exact trivial
    | exact hins.1
    | exact hins.2.1
    | exact hins.2.2
    | exact hins.1.symm
    | exact hins.2.1.symm
    | exact hins.2.2.symm
    | (clear hin hF ha; grind)
set_option maxRecDepth 100000 in
theorem hAdd0_c : LsC ((tm0 hAdd0 Try.f56 (Try.f56.body.getD .skip)) :: []) hAdd0.os [hAdd0_L0] := by
  unfold hAdd0_L0
  exact ⟨List.forall_mem_cons.2 ⟨⟨⟨_, rfl, rfl⟩, by kernel_rfl⟩, List.forall_mem_cons.2 ⟨⟨⟨_, rfl, rfl⟩, by kernel_rfl⟩, List.forall_mem_nil _⟩⟩, trivial⟩
theorem hAdd0_ok : hAdd0.Ok Try.prog FI FB :=
  Con.of_plain (body := Try.f56.body.getD .skip) pok fiok (EntsFor.cons hMay_ok EntsFor.nil) hAdd0 Try.func56 (by kernel_rfl) 7 [] (by kernel_rfl) [hAdd0_L0] ⟨hAdd0_h0, trivial⟩ hAdd0_c
    hAdd0_inv hAdd0_mu (fun _ _ _ => trivial) fun kv iv0 bv0 hin hF k l iv bv hk ha hi => match k, hk, hi with
    | 0, hk, hi => by
      cases hk
      exact hAdd0_o0 kv iv0 bv0 hin hF iv bv ha hi
    | k + 1, hk, _ => by simp at hk
noncomputable def lHoldsH0_L0 : List Lf :=
  [(.fin [] 0 ⟨⟨[], []⟩, [], [], []⟩ [] [])]
set_option maxRecDepth 100000 in
theorem lHoldsH0_h0 : (ex (ccOf Try.prog BF [58, 84] lHoldsH0) ((fun cc => [cWorks.ent cc]) (ccOf Try.prog BF [58, 84] lHoldsH0)) (dw (ccOf Try.prog BF [58, 84] lHoldsH0) ((fun cc => [cWorks.ent cc]) (ccOf Try.prog BF [58, 84] lHoldsH0)) 1000 4) (stopX [0, 1, 2, 3, 4, 5, 6, 7, 8, 9, 10, 11, 12, 13, 14, 15, 16, 17, 18, 19, 20, 21, 22, 23, 24, 25, 26, 27, 28, 29, 30, 31, 32, 33, 34, 35, 36, 37, 38, 39, 40, 41, 42, 43, 44, 45, 46, 47, 48, 49, 50, 51, 52, 53, 54, 55, 56, 57, 58, 59, 60, 61, 62, 63, 64, 65, 66, 67, 68, 69, 70, 71, 72, 73, 74, 75, 76, 77, 78, 79, 80, 81, 82, 83, 84, 85, 86, 87, 88, 89, 90, 91, 92, 93, 94, 95, 96, 97, 98, 99, 100, 101, 102, 103, 104, 105, 106, 107, 108, 109, 110, 111, 112, 113, 114, 115, 116, 117, 118, 119, 120, 121, 122, 123, 124, 125, 126, 127, 128, 129, 130, 131, 132, 133, 134, 135, 136, 137, 138, 139, 140, 141, 142, 143, 144, 145, 146, 147, 148, 149, 150, 151, 152, 153, 154, 155, 156, 157, 158, 159, 160, 161, 162, 163, 164, 165, 166, 167, 168, 169, 170, 171, 172, 173, 174, 175, 176, 177, 178, 179, 180, 181, 182, 183, 184, 185, 186, 187, 188, 189, 190, 191, 192, 193, 194, 195, 196, 197, 198, 199]) 4000 (tm0 lHoldsH0 Try.f11 (Try.f11.body.getD .skip)).f (tm0 lHoldsH0 Try.f11 (Try.f11.body.getD .skip)).fs (tm0 lHoldsH0 Try.f11 (Try.f11.body.getD .skip)).H).lfs (ccOf Try.prog BF [58, 84] lHoldsH0) ((tm0 lHoldsH0 Try.f11 (Try.f11.body.getD .skip)) :: []) lHoldsH0.os = some lHoldsH0_L0 := by kernel_rfl
def lHoldsH0_inv : (Nat → Int) → (Nat → Bool) → Nat → (Nat → Int) → (Nat → Bool) → Prop := fun _ _ _ _ _ => True
def lHoldsH0_mu : (Nat → Int) → (Nat → Bool) → Nat → (Nat → Int) → (Nat → Bool) → Nat := fun _ _ _ _ _ => 0
set_option maxHeartbeats 0 in
theorem lHoldsH0_o0 (kv : Kv) (iv0 : Nat → Int) (bv0 : Nat → Bool) (hin : InB lHoldsH0.B iv0) (hF : FT (sta FI FB kv iv0 bv0) (dlt dyn0) lHoldsH0.F) (iv : Nat → Int) (bv : Nat → Bool) (ha : Agr 0 iv0 bv0 iv bv) (hi : lHoldsH0_inv iv0 bv0 0 iv bv) :
    ∀ lf ∈ lHoldsH0_L0, LfT (sta FI FB kv) lHoldsH0.os (lHoldsH0_inv iv0 bv0) (lHoldsH0_mu iv0 bv0) 0 iv bv lf := by
  unfold lHoldsH0_L0
  refine List.forall_mem_cons.2 ⟨?_, List.forall_mem_nil _⟩
  all_goals
    intro δ hf
  all_goals
    simp only [FT, TP, SB.tp, SI.tv, sta, IB.eval, and_true, true_and, ObsT, Ob.Tv, rowT, kix, In.tiv, ↓tbvT, In.tbv, get_cons, get_nil, reduceIte, Nat.reduceEqDiff, Int.reduceToNat, Int.reduceAdd, Int.reduceSub, Int.reduceLE, Int.reduceLT, Int.reduceEq, ne_eq, Bool.false_eq_true, not_true_eq_false, not_false_eq_true, true_iff, false_iff, iff_true, iff_false, false_implies, implies_true, decT, decide_true, decide_false, Bool.decide_eq_true, ap2, pb2, FI_3, FI_8, FI_9, FI_10, FI_11, FI_12, FI_13, FB_10, FB_11, FB_12, FB_13, FB_14, FB_15, FB_16, FI_20, FI_21, FI_22, FI_23, FI_24, FI_25, FI_26, FB_20, FB_21, FB_22, FB_23, FB_24, FB_25, FB_26, FB_27, FI_27, Int.toNat_natCast, Int.toNat_zero] at hf
  all_goals
    
  all_goals
    simp only [FT, TP, SB.tp, SI.tv, sta, IB.eval, and_true, true_and, ObsT, Ob.Tv, rowT, kix, In.tiv, ↓tbvT, In.tbv, get_cons, get_nil, reduceIte, Nat.reduceEqDiff, Int.reduceToNat, Int.reduceAdd, Int.reduceSub, Int.reduceLE, Int.reduceLT, Int.reduceEq, ne_eq, Bool.false_eq_true, not_true_eq_false, not_false_eq_true, true_iff, false_iff, iff_true, iff_false, false_implies, implies_true, decT, decide_true, decide_false, Bool.decide_eq_true, ap2, pb2, FI_3, FI_8, FI_9, FI_10, FI_11, FI_12, FI_13, FB_10, FB_11, FB_12, FB_13, FB_14, FB_15, FB_16, FI_20, FI_21, FI_22, FI_23, FI_24, FI_25, FI_26, FB_20, FB_21, FB_22, FB_23, FB_24, FB_25, FB_26, FB_27, FI_27, Int.toNat_natCast, Int.toNat_zero, lHoldsH0_inv, lHoldsH0_mu, lHoldsH0, o1, othT, bH, gH, fM, lH, nw, ap3, i64b, kH, ap3, pb3, pb4, i64l, bL4, hV, pMay] at hf hi ⊢
  all_goals
    (repeat' (with_reducible apply And.intro)) <;> first
    | omega
    | assumption
    | (unfold inM; omega)
    | exact trivial
set_option maxRecDepth 100000 in
theorem lHoldsH0_c : LsC ((tm0 lHoldsH0 Try.f11 (Try.f11.body.getD .skip)) :: []) lHoldsH0.os [lHoldsH0_L0] := by
  unfold lHoldsH0_L0
  exact ⟨List.forall_mem_cons.2 ⟨⟨⟨_, rfl, rfl⟩, by kernel_rfl⟩, List.forall_mem_nil _⟩, trivial⟩
theorem lHoldsH0_ok : lHoldsH0.Ok Try.prog FI FB :=
  Con.of_plain (body := Try.f11.body.getD .skip) pok fiok (EntsFor.cons cWorks_ok EntsFor.nil) lHoldsH0 Try.func11 (by kernel_rfl) 0 [] (by kernel_rfl) [lHoldsH0_L0] ⟨lHoldsH0_h0, trivial⟩ lHoldsH0_c
    lHoldsH0_inv lHoldsH0_mu (fun _ _ _ => trivial) fun kv iv0 bv0 hin hF k l iv bv hk ha hi => match k, hk, hi with
    | 0, hk, hi => by
      cases hk
      exact lHoldsH0_o0 kv iv0 bv0 hin hF iv bv ha hi
    | k + 1, hk, _ => by simp at hk
noncomputable def lHoldsH_T1 : Tm := ⟨⟨11, 116, [(4, (.it .i64 (.v 28))), (3, .sn), (0, (.sl (.k 0) (.v 2) (.v 1) (.v 3)))], [(.code (atC Try.f11 [1, 1, 1, 0, 1, 0, 0])), (.inLoop (atC Try.f11 [1, 1, 1, 0, 1, 0, 0])), (.inBlock 0), (.code (atC Try.f11 [1, 1, 1, 1]))], [], .none⟩, [],
    ⟨[], 0, 0, 0, [((.lt (.c 60) (.v 1)), .false), ((.le (.v 1) (.v 3)), .true), ((.le (.c 0) (.v 3)), .true)], [1, 0], [(1, (0, 60)), (2, (0, (-1))), (28, (0, 60))]⟩, [28]⟩
noncomputable def lHoldsH_T2 : Tm := ⟨⟨11, 116, [(14, (.it .i64 (.v 37))), (3, (.sl (.n 1) (.c 0) (.v 45) (.v 29))), (4, (.it .i64 (.v 46))), (0, (.sl (.k 0) (.v 2) (.v 1) (.v 3)))], [(.code (atC Try.f11 [1, 1, 1, 0, 1, 0, 0, 1, 0, 0, 1, 1, 1, 1, 1, 1, 1, 1, 1, 1, 0, 0])), (.inLoop (atC Try.f11 [1, 1, 1, 0, 1, 0, 0, 1, 0, 0, 1, 1, 1, 1, 1, 1, 1, 1, 1, 1, 0, 0])), (.inBlock 2), (.inBlock 1), (.code (atC Try.f11 [1, 1, 1, 0, 1, 0, 0, 1, 1])), (.inLoop (atC Try.f11 [1, 1, 1, 0, 1, 0, 0])), (.inBlock 0), (.code (atC Try.f11 [1, 1, 1, 1]))], [], .none⟩, [],
    ⟨[(1, (.arr [(.nt .i64), (.nt .i64), (.nt .i64)] (.v 47) (.v 45) 58 (.v 29)))], 2, 0, 0, [((.lt (.c 0) (.c 1)), .true), ((.ap 24 (.ap 23 (.c 0) (.c 0) (.c 0) (.ap 3 (.v 0) (.v 28) (.c 0) (.c 0) (.c 0) (.c 0)) (.ap 3 (.v 0) (.v 28) (.c 1) (.c 0) (.c 0) (.c 0)) (.ap 3 (.v 0) (.v 28) (.c 2) (.c 0) (.c 0) (.c 0))) (.c 1) (.ap 3 (.v 0) (.v 28) (.c 0) (.c 0) (.c 0) (.c 0)) (.ap 3 (.v 0) (.v 28) (.c 1) (.c 0) (.c 0) (.c 0)) (.c 0) (.c 0)), .true), ((.ap 20 (.ap 23 (.c 0) (.c 0) (.c 0) (.ap 3 (.v 0) (.v 28) (.c 0) (.c 0) (.c 0) (.c 0)) (.ap 3 (.v 0) (.v 28) (.c 1) (.c 0) (.c 0) (.c 0)) (.ap 3 (.v 0) (.v 28) (.c 2) (.c 0) (.c 0) (.c 0))) (.c 1) (.c 0) (.c 0) (.c 0) (.c 0)), .true), ((.ap 23 (.ap 3 (.v 0) (.v 28) (.c 0) (.c 0) (.c 0) (.c 0)) (.ap 3 (.v 0) (.v 28) (.c 1) (.c 0) (.c 0) (.c 0)) (.ap 3 (.v 0) (.v 28) (.c 2) (.c 0) (.c 0) (.c 0)) (.c 0) (.c 0) (.c 0)), .true), ((.eq (.op .tmod (.ap 3 (.v 0) (.v 28) (.c 1) (.c 0) (.c 0) (.c 0)) (.c 2)) (.c 0)), .true), ((.lt (.v 28) (.v 1)), .true), ((.lt (.c 60) (.v 1)), .false), ((.le (.v 1) (.v 3)), .true), ((.le (.c 0) (.v 3)), .true), ((.le (.v 45) (.v 29)), .true)], [1, 0], [(1, (1, 60)), (2, (0, (-1))), (37, (0, (-1))), (45, (0, 900)), (46, (0, 60))]⟩, [45, 46, 47, 37, 29]⟩
noncomputable def lHoldsH_T3 : Tm := ⟨⟨11, 116, [(15, (.it .i64 (.v 54))), (14, (.it .i64 (.v 37))), (3, (.sl (.n 1) (.c 0) (.v 45) (.v 29))), (4, (.it .i64 (.v 46))), (0, (.sl (.k 0) (.v 2) (.v 1) (.v 3)))], [(.code (atC Try.f11 [1, 1, 1, 0, 1, 0, 0, 1, 0, 0, 1, 1, 1, 1, 1, 1, 1, 1, 1, 1, 0, 0, 1, 0, 0, 1, 0, 0])), (.inLoop (atC Try.f11 [1, 1, 1, 0, 1, 0, 0, 1, 0, 0, 1, 1, 1, 1, 1, 1, 1, 1, 1, 1, 0, 0, 1, 0, 0, 1, 0, 0])), (.inBlock 4), (.inBlock 3), (.code (atC Try.f11 [1, 1, 1, 0, 1, 0, 0, 1, 0, 0, 1, 1, 1, 1, 1, 1, 1, 1, 1, 1, 0, 0, 1, 1])), (.inLoop (atC Try.f11 [1, 1, 1, 0, 1, 0, 0, 1, 0, 0, 1, 1, 1, 1, 1, 1, 1, 1, 1, 1, 0, 0])), (.inBlock 2), (.inBlock 1), (.code (atC Try.f11 [1, 1, 1, 0, 1, 0, 0, 1, 1])), (.inLoop (atC Try.f11 [1, 1, 1, 0, 1, 0, 0])), (.inBlock 0), (.code (atC Try.f11 [1, 1, 1, 1]))], [], .none⟩, [],
    ⟨[(1, (.arr [(.nt .i64), (.nt .i64), (.nt .i64)] (.v 47) (.v 45) 58 (.v 29)))], 2, 0, 0, [((.lt (.v 37) (.v 45)), .true), ((.lt (.c 0) (.c 1)), .true), ((.ap 24 (.ap 23 (.c 0) (.c 0) (.c 0) (.ap 3 (.v 0) (.v 28) (.c 0) (.c 0) (.c 0) (.c 0)) (.ap 3 (.v 0) (.v 28) (.c 1) (.c 0) (.c 0) (.c 0)) (.ap 3 (.v 0) (.v 28) (.c 2) (.c 0) (.c 0) (.c 0))) (.c 1) (.ap 3 (.v 0) (.v 28) (.c 0) (.c 0) (.c 0) (.c 0)) (.ap 3 (.v 0) (.v 28) (.c 1) (.c 0) (.c 0) (.c 0)) (.c 0) (.c 0)), .true), ((.ap 20 (.ap 23 (.c 0) (.c 0) (.c 0) (.ap 3 (.v 0) (.v 28) (.c 0) (.c 0) (.c 0) (.c 0)) (.ap 3 (.v 0) (.v 28) (.c 1) (.c 0) (.c 0) (.c 0)) (.ap 3 (.v 0) (.v 28) (.c 2) (.c 0) (.c 0) (.c 0))) (.c 1) (.c 0) (.c 0) (.c 0) (.c 0)), .true), ((.ap 23 (.ap 3 (.v 0) (.v 28) (.c 0) (.c 0) (.c 0) (.c 0)) (.ap 3 (.v 0) (.v 28) (.c 1) (.c 0) (.c 0) (.c 0)) (.ap 3 (.v 0) (.v 28) (.c 2) (.c 0) (.c 0) (.c 0)) (.c 0) (.c 0) (.c 0)), .true), ((.eq (.op .tmod (.ap 3 (.v 0) (.v 28) (.c 1) (.c 0) (.c 0) (.c 0)) (.c 2)) (.c 0)), .true), ((.lt (.v 28) (.v 1)), .true), ((.lt (.c 60) (.v 1)), .false), ((.le (.v 1) (.v 3)), .true), ((.le (.c 0) (.v 3)), .true), ((.le (.v 45) (.v 29)), .true)], [1, 0], [(37, (0, 899)), (1, (1, 60)), (2, (0, (-1))), (54, (0, (-1))), (45, (0, 900)), (46, (0, 60))]⟩, [54]⟩
noncomputable def lHoldsH_T4 : Tm := ⟨⟨11, 116, [(4, (.it .i64 (.v 61))), (3, (.sl (.n 1) (.c 0) (.v 69) (.v 70))), (0, (.sl (.k 0) (.v 2) (.v 1) (.v 3)))], [(.code (atC Try.f11 [1, 1, 1, 0, 1, 0, 0])), (.inLoop (atC Try.f11 [1, 1, 1, 0, 1, 0, 0])), (.inBlock 0), (.code (atC Try.f11 [1, 1, 1, 1]))], [], .none⟩, [],
    ⟨[(1, (.arr [(.nt .i64), (.nt .i64), (.nt .i64)] (.v 71) (.v 69) 58 (.v 70)))], 2, 0, 0, [((.lt (.v 37) (.v 45)), .false), ((.lt (.c 0) (.c 1)), .true), ((.ap 24 (.ap 23 (.c 0) (.c 0) (.c 0) (.ap 3 (.v 0) (.v 28) (.c 0) (.c 0) (.c 0) (.c 0)) (.ap 3 (.v 0) (.v 28) (.c 1) (.c 0) (.c 0) (.c 0)) (.ap 3 (.v 0) (.v 28) (.c 2) (.c 0) (.c 0) (.c 0))) (.c 1) (.ap 3 (.v 0) (.v 28) (.c 0) (.c 0) (.c 0) (.c 0)) (.ap 3 (.v 0) (.v 28) (.c 1) (.c 0) (.c 0) (.c 0)) (.c 0) (.c 0)), .true), ((.ap 20 (.ap 23 (.c 0) (.c 0) (.c 0) (.ap 3 (.v 0) (.v 28) (.c 0) (.c 0) (.c 0) (.c 0)) (.ap 3 (.v 0) (.v 28) (.c 1) (.c 0) (.c 0) (.c 0)) (.ap 3 (.v 0) (.v 28) (.c 2) (.c 0) (.c 0) (.c 0))) (.c 1) (.c 0) (.c 0) (.c 0) (.c 0)), .true), ((.ap 23 (.ap 3 (.v 0) (.v 28) (.c 0) (.c 0) (.c 0) (.c 0)) (.ap 3 (.v 0) (.v 28) (.c 1) (.c 0) (.c 0) (.c 0)) (.ap 3 (.v 0) (.v 28) (.c 2) (.c 0) (.c 0) (.c 0)) (.c 0) (.c 0) (.c 0)), .true), ((.eq (.op .tmod (.ap 3 (.v 0) (.v 28) (.c 1) (.c 0) (.c 0) (.c 0)) (.c 2)) (.c 0)), .true), ((.lt (.v 28) (.v 1)), .true), ((.lt (.c 60) (.v 1)), .false), ((.le (.v 1) (.v 3)), .true), ((.le (.c 0) (.v 3)), .true), ((.le (.v 45) (.v 29)), .true), ((.le (.v 69) (.v 70)), .true)], [1, 0], [(1, (1, 60)), (2, (0, (-1))), (69, (0, 900)), (61, (0, 60))]⟩, [69, 70, 71, 61]⟩
noncomputable def lHoldsH_L0 : List Lf :=
  [(.fin [((.lt (.c 60) (.v 1)), .true), ((.le (.v 1) (.v 3)), .true), ((.le (.c 0) (.v 3)), .true)] 0 ⟨⟨[], []⟩, [], [], []⟩ [] []), (.cut [((.lt (.c 60) (.v 1)), .false), ((.le (.v 1) (.v 3)), .true), ((.le (.c 0) (.v 3)), .true)] 1 ⟨⟨[(28, (.c 0))], []⟩, [], [], []⟩ [] (shT lHoldsH_T1 ⟨⟨[(28, (.c 0))], []⟩, [], [], []⟩))]
noncomputable def lHoldsH_L1 : List Lf :=
  [(.cut [((.lt (.ap 25 (.ap 23 (.c 0) (.c 0) (.c 0) (.ap 3 (.v 0) (.v 28) (.c 0) (.c 0) (.c 0) (.c 0)) (.ap 3 (.v 0) (.v 28) (.c 1) (.c 0) (.c 0) (.c 0)) (.ap 3 (.v 0) (.v 28) (.c 2) (.c 0) (.c 0) (.c 0))) (.c 1) (.c 0) (.c 0) (.c 0) (.c 0)) (.c 1)), .true), ((.le (.c 0) (.ap 25 (.ap 23 (.c 0) (.c 0) (.c 0) (.ap 3 (.v 0) (.v 28) (.c 0) (.c 0) (.c 0) (.c 0)) (.ap 3 (.v 0) (.v 28) (.c 1) (.c 0) (.c 0) (.c 0)) (.ap 3 (.v 0) (.v 28) (.c 2) (.c 0) (.c 0) (.c 0))) (.c 1) (.c 0) (.c 0) (.c 0) (.c 0))), .true), ((.ap 27 (.ap 23 (.c 0) (.c 0) (.c 0) (.ap 3 (.v 0) (.v 28) (.c 0) (.c 0) (.c 0) (.c 0)) (.ap 3 (.v 0) (.v 28) (.c 1) (.c 0) (.c 0) (.c 0)) (.ap 3 (.v 0) (.v 28) (.c 2) (.c 0) (.c 0) (.c 0))) (.c 1) (.c 0) (.c 0) (.c 0) (.c 0)), .true), ((.le (.c 0) (.d 1)), .true), ((.lt (.c 0) (.c 1)), .true), ((.ap 24 (.ap 23 (.c 0) (.c 0) (.c 0) (.ap 3 (.v 0) (.v 28) (.c 0) (.c 0) (.c 0) (.c 0)) (.ap 3 (.v 0) (.v 28) (.c 1) (.c 0) (.c 0) (.c 0)) (.ap 3 (.v 0) (.v 28) (.c 2) (.c 0) (.c 0) (.c 0))) (.c 1) (.ap 3 (.v 0) (.v 28) (.c 0) (.c 0) (.c 0) (.c 0)) (.ap 3 (.v 0) (.v 28) (.c 1) (.c 0) (.c 0) (.c 0)) (.c 0) (.c 0)), .true), ((.ap 20 (.ap 23 (.c 0) (.c 0) (.c 0) (.ap 3 (.v 0) (.v 28) (.c 0) (.c 0) (.c 0) (.c 0)) (.ap 3 (.v 0) (.v 28) (.c 1) (.c 0) (.c 0) (.c 0)) (.ap 3 (.v 0) (.v 28) (.c 2) (.c 0) (.c 0) (.c 0))) (.c 1) (.c 0) (.c 0) (.c 0) (.c 0)), .true), ((.le (.c 1) (.d 0)), .true), ((.ap 23 (.ap 3 (.v 0) (.v 28) (.c 0) (.c 0) (.c 0) (.c 0)) (.ap 3 (.v 0) (.v 28) (.c 1) (.c 0) (.c 0) (.c 0)) (.ap 3 (.v 0) (.v 28) (.c 2) (.c 0) (.c 0) (.c 0)) (.c 0) (.c 0) (.c 0)), .true), ((.eq (.op .tmod (.ap 3 (.v 0) (.v 28) (.c 1) (.c 0) (.c 0) (.c 0)) (.c 2)) (.c 0)), .true), ((.lt (.v 28) (.v 1)), .true), ((.lt (.c 60) (.v 1)), .false), ((.le (.v 1) (.v 3)), .true), ((.le (.c 0) (.v 3)), .true)] 2 ⟨⟨[(47, (.ap 23 (.c 0) (.c 0) (.c 0) (.ap 3 (.v 0) (.v 28) (.c 0) (.c 0) (.c 0) (.c 0)) (.ap 3 (.v 0) (.v 28) (.c 1) (.c 0) (.c 0) (.c 0)) (.ap 3 (.v 0) (.v 28) (.c 2) (.c 0) (.c 0) (.c 0)))), (46, (.v 28)), (29, (.d 0)), (45, (.c 1)), (37, (.c 0))], []⟩, [(1, 1)], [], []⟩ [] (shT lHoldsH_T2 ⟨⟨[(47, (.ap 23 (.c 0) (.c 0) (.c 0) (.ap 3 (.v 0) (.v 28) (.c 0) (.c 0) (.c 0) (.c 0)) (.ap 3 (.v 0) (.v 28) (.c 1) (.c 0) (.c 0) (.c 0)) (.ap 3 (.v 0) (.v 28) (.c 2) (.c 0) (.c 0) (.c 0)))), (46, (.v 28)), (29, (.d 0)), (45, (.c 1)), (37, (.c 0))], []⟩, [(1, 1)], [], []⟩)), (.cut [((.ap 27 (.ap 23 (.c 0) (.c 0) (.c 0) (.ap 3 (.v 0) (.v 28) (.c 0) (.c 0) (.c 0) (.c 0)) (.ap 3 (.v 0) (.v 28) (.c 1) (.c 0) (.c 0) (.c 0)) (.ap 3 (.v 0) (.v 28) (.c 2) (.c 0) (.c 0) (.c 0))) (.c 1) (.c 0) (.c 0) (.c 0) (.c 0)), .false), ((.le (.c 0) (.d 1)), .true), ((.lt (.c 0) (.c 1)), .true), ((.ap 24 (.ap 23 (.c 0) (.c 0) (.c 0) (.ap 3 (.v 0) (.v 28) (.c 0) (.c 0) (.c 0) (.c 0)) (.ap 3 (.v 0) (.v 28) (.c 1) (.c 0) (.c 0) (.c 0)) (.ap 3 (.v 0) (.v 28) (.c 2) (.c 0) (.c 0) (.c 0))) (.c 1) (.ap 3 (.v 0) (.v 28) (.c 0) (.c 0) (.c 0) (.c 0)) (.ap 3 (.v 0) (.v 28) (.c 1) (.c 0) (.c 0) (.c 0)) (.c 0) (.c 0)), .true), ((.ap 20 (.ap 23 (.c 0) (.c 0) (.c 0) (.ap 3 (.v 0) (.v 28) (.c 0) (.c 0) (.c 0) (.c 0)) (.ap 3 (.v 0) (.v 28) (.c 1) (.c 0) (.c 0) (.c 0)) (.ap 3 (.v 0) (.v 28) (.c 2) (.c 0) (.c 0) (.c 0))) (.c 1) (.c 0) (.c 0) (.c 0) (.c 0)), .true), ((.le (.c 1) (.d 0)), .true), ((.ap 23 (.ap 3 (.v 0) (.v 28) (.c 0) (.c 0) (.c 0) (.c 0)) (.ap 3 (.v 0) (.v 28) (.c 1) (.c 0) (.c 0) (.c 0)) (.ap 3 (.v 0) (.v 28) (.c 2) (.c 0) (.c 0) (.c 0)) (.c 0) (.c 0) (.c 0)), .true), ((.eq (.op .tmod (.ap 3 (.v 0) (.v 28) (.c 1) (.c 0) (.c 0) (.c 0)) (.c 2)) (.c 0)), .true), ((.lt (.v 28) (.v 1)), .true), ((.lt (.c 60) (.v 1)), .false), ((.le (.v 1) (.v 3)), .true), ((.le (.c 0) (.v 3)), .true)] 2 ⟨⟨[(47, (.ap 23 (.c 0) (.c 0) (.c 0) (.ap 3 (.v 0) (.v 28) (.c 0) (.c 0) (.c 0) (.c 0)) (.ap 3 (.v 0) (.v 28) (.c 1) (.c 0) (.c 0) (.c 0)) (.ap 3 (.v 0) (.v 28) (.c 2) (.c 0) (.c 0) (.c 0)))), (46, (.v 28)), (29, (.d 0)), (45, (.c 1)), (37, (.c 0))], []⟩, [(1, 1)], [], []⟩ [] (shT lHoldsH_T2 ⟨⟨[(47, (.ap 23 (.c 0) (.c 0) (.c 0) (.ap 3 (.v 0) (.v 28) (.c 0) (.c 0) (.c 0) (.c 0)) (.ap 3 (.v 0) (.v 28) (.c 1) (.c 0) (.c 0) (.c 0)) (.ap 3 (.v 0) (.v 28) (.c 2) (.c 0) (.c 0) (.c 0)))), (46, (.v 28)), (29, (.d 0)), (45, (.c 1)), (37, (.c 0))], []⟩, [(1, 1)], [], []⟩)), (.fin [((.ap 24 (.ap 23 (.c 0) (.c 0) (.c 0) (.ap 3 (.v 0) (.v 28) (.c 0) (.c 0) (.c 0) (.c 0)) (.ap 3 (.v 0) (.v 28) (.c 1) (.c 0) (.c 0) (.c 0)) (.ap 3 (.v 0) (.v 28) (.c 2) (.c 0) (.c 0) (.c 0))) (.c 1) (.ap 3 (.v 0) (.v 28) (.c 0) (.c 0) (.c 0) (.c 0)) (.ap 3 (.v 0) (.v 28) (.c 1) (.c 0) (.c 0) (.c 0)) (.c 0) (.c 0)), .false), ((.ap 20 (.ap 23 (.c 0) (.c 0) (.c 0) (.ap 3 (.v 0) (.v 28) (.c 0) (.c 0) (.c 0) (.c 0)) (.ap 3 (.v 0) (.v 28) (.c 1) (.c 0) (.c 0) (.c 0)) (.ap 3 (.v 0) (.v 28) (.c 2) (.c 0) (.c 0) (.c 0))) (.c 1) (.c 0) (.c 0) (.c 0) (.c 0)), .true), ((.le (.c 1) (.d 0)), .true), ((.ap 23 (.ap 3 (.v 0) (.v 28) (.c 0) (.c 0) (.c 0) (.c 0)) (.ap 3 (.v 0) (.v 28) (.c 1) (.c 0) (.c 0) (.c 0)) (.ap 3 (.v 0) (.v 28) (.c 2) (.c 0) (.c 0) (.c 0)) (.c 0) (.c 0) (.c 0)), .true), ((.eq (.op .tmod (.ap 3 (.v 0) (.v 28) (.c 1) (.c 0) (.c 0) (.c 0)) (.c 2)) (.c 0)), .true), ((.lt (.v 28) (.v 1)), .true), ((.lt (.c 60) (.v 1)), .false), ((.le (.v 1) (.v 3)), .true), ((.le (.c 0) (.v 3)), .true)] 0 ⟨⟨[], []⟩, [], [], []⟩ [(.eb (.c .true) (.c .false))] []), (.fin [((.ap 20 (.ap 23 (.c 0) (.c 0) (.c 0) (.ap 3 (.v 0) (.v 28) (.c 0) (.c 0) (.c 0) (.c 0)) (.ap 3 (.v 0) (.v 28) (.c 1) (.c 0) (.c 0) (.c 0)) (.ap 3 (.v 0) (.v 28) (.c 2) (.c 0) (.c 0) (.c 0))) (.c 1) (.c 0) (.c 0) (.c 0) (.c 0)), .false), ((.le (.c 1) (.d 0)), .true), ((.ap 23 (.ap 3 (.v 0) (.v 28) (.c 0) (.c 0) (.c 0) (.c 0)) (.ap 3 (.v 0) (.v 28) (.c 1) (.c 0) (.c 0) (.c 0)) (.ap 3 (.v 0) (.v 28) (.c 2) (.c 0) (.c 0) (.c 0)) (.c 0) (.c 0) (.c 0)), .true), ((.eq (.op .tmod (.ap 3 (.v 0) (.v 28) (.c 1) (.c 0) (.c 0) (.c 0)) (.c 2)) (.c 0)), .true), ((.lt (.v 28) (.v 1)), .true), ((.lt (.c 60) (.v 1)), .false), ((.le (.v 1) (.v 3)), .true), ((.le (.c 0) (.v 3)), .true)] 0 ⟨⟨[], []⟩, [], [], []⟩ [(.eb (.c .true) (.c .false))] []), (.cut [((.ap 23 (.ap 3 (.v 0) (.v 28) (.c 0) (.c 0) (.c 0) (.c 0)) (.ap 3 (.v 0) (.v 28) (.c 1) (.c 0) (.c 0) (.c 0)) (.ap 3 (.v 0) (.v 28) (.c 2) (.c 0) (.c 0) (.c 0)) (.c 0) (.c 0) (.c 0)), .false), ((.eq (.op .tmod (.ap 3 (.v 0) (.v 28) (.c 1) (.c 0) (.c 0) (.c 0)) (.c 2)) (.c 0)), .true), ((.lt (.v 28) (.v 1)), .true), ((.lt (.c 60) (.v 1)), .false), ((.le (.v 1) (.v 3)), .true), ((.le (.c 0) (.v 3)), .true)] 1 ⟨⟨[(28, (.op .add (.v 28) (.c 1)))], []⟩, [], [], []⟩ [] (shT lHoldsH_T1 ⟨⟨[(28, (.op .add (.v 28) (.c 1)))], []⟩, [], [], []⟩)), (.cut [((.eq (.op .tmod (.ap 3 (.v 0) (.v 28) (.c 1) (.c 0) (.c 0) (.c 0)) (.c 2)) (.c 0)), .false), ((.lt (.v 28) (.v 1)), .true), ((.lt (.c 60) (.v 1)), .false), ((.le (.v 1) (.v 3)), .true), ((.le (.c 0) (.v 3)), .true)] 1 ⟨⟨[(28, (.op .add (.v 28) (.c 1)))], []⟩, [], [], []⟩ [] (shT lHoldsH_T1 ⟨⟨[(28, (.op .add (.v 28) (.c 1)))], []⟩, [], [], []⟩)), (.fin [((.lt (.v 28) (.v 1)), .false), ((.lt (.c 60) (.v 1)), .false), ((.le (.v 1) (.v 3)), .true), ((.le (.c 0) (.v 3)), .true)] 0 ⟨⟨[], []⟩, [], [], []⟩ [] [])]
noncomputable def lHoldsH_L2 : List Lf :=
  [(.cut [((.lt (.v 37) (.v 45)), .true), ((.lt (.c 0) (.c 1)), .true), ((.ap 24 (.ap 23 (.c 0) (.c 0) (.c 0) (.ap 3 (.v 0) (.v 28) (.c 0) (.c 0) (.c 0) (.c 0)) (.ap 3 (.v 0) (.v 28) (.c 1) (.c 0) (.c 0) (.c 0)) (.ap 3 (.v 0) (.v 28) (.c 2) (.c 0) (.c 0) (.c 0))) (.c 1) (.ap 3 (.v 0) (.v 28) (.c 0) (.c 0) (.c 0) (.c 0)) (.ap 3 (.v 0) (.v 28) (.c 1) (.c 0) (.c 0) (.c 0)) (.c 0) (.c 0)), .true), ((.ap 20 (.ap 23 (.c 0) (.c 0) (.c 0) (.ap 3 (.v 0) (.v 28) (.c 0) (.c 0) (.c 0) (.c 0)) (.ap 3 (.v 0) (.v 28) (.c 1) (.c 0) (.c 0) (.c 0)) (.ap 3 (.v 0) (.v 28) (.c 2) (.c 0) (.c 0) (.c 0))) (.c 1) (.c 0) (.c 0) (.c 0) (.c 0)), .true), ((.ap 23 (.ap 3 (.v 0) (.v 28) (.c 0) (.c 0) (.c 0) (.c 0)) (.ap 3 (.v 0) (.v 28) (.c 1) (.c 0) (.c 0) (.c 0)) (.ap 3 (.v 0) (.v 28) (.c 2) (.c 0) (.c 0) (.c 0)) (.c 0) (.c 0) (.c 0)), .true), ((.eq (.op .tmod (.ap 3 (.v 0) (.v 28) (.c 1) (.c 0) (.c 0) (.c 0)) (.c 2)) (.c 0)), .true), ((.lt (.v 28) (.v 1)), .true), ((.lt (.c 60) (.v 1)), .false), ((.le (.v 1) (.v 3)), .true), ((.le (.c 0) (.v 3)), .true), ((.le (.v 45) (.v 29)), .true)] 3 ⟨⟨[(54, (.c 0))], []⟩, [(1, 1)], [], []⟩ [] (shT lHoldsH_T3 ⟨⟨[(54, (.c 0))], []⟩, [(1, 1)], [], []⟩)), (.cut [((.lt (.v 37) (.v 45)), .false), ((.lt (.c 0) (.c 1)), .true), ((.ap 24 (.ap 23 (.c 0) (.c 0) (.c 0) (.ap 3 (.v 0) (.v 28) (.c 0) (.c 0) (.c 0) (.c 0)) (.ap 3 (.v 0) (.v 28) (.c 1) (.c 0) (.c 0) (.c 0)) (.ap 3 (.v 0) (.v 28) (.c 2) (.c 0) (.c 0) (.c 0))) (.c 1) (.ap 3 (.v 0) (.v 28) (.c 0) (.c 0) (.c 0) (.c 0)) (.ap 3 (.v 0) (.v 28) (.c 1) (.c 0) (.c 0) (.c 0)) (.c 0) (.c 0)), .true), ((.ap 20 (.ap 23 (.c 0) (.c 0) (.c 0) (.ap 3 (.v 0) (.v 28) (.c 0) (.c 0) (.c 0) (.c 0)) (.ap 3 (.v 0) (.v 28) (.c 1) (.c 0) (.c 0) (.c 0)) (.ap 3 (.v 0) (.v 28) (.c 2) (.c 0) (.c 0) (.c 0))) (.c 1) (.c 0) (.c 0) (.c 0) (.c 0)), .true), ((.ap 23 (.ap 3 (.v 0) (.v 28) (.c 0) (.c 0) (.c 0) (.c 0)) (.ap 3 (.v 0) (.v 28) (.c 1) (.c 0) (.c 0) (.c 0)) (.ap 3 (.v 0) (.v 28) (.c 2) (.c 0) (.c 0) (.c 0)) (.c 0) (.c 0) (.c 0)), .true), ((.eq (.op .tmod (.ap 3 (.v 0) (.v 28) (.c 1) (.c 0) (.c 0) (.c 0)) (.c 2)) (.c 0)), .true), ((.lt (.v 28) (.v 1)), .true), ((.lt (.c 60) (.v 1)), .false), ((.le (.v 1) (.v 3)), .true), ((.le (.c 0) (.v 3)), .true), ((.le (.v 45) (.v 29)), .true)] 4 ⟨⟨[(71, (.v 47)), (70, (.v 29)), (69, (.v 45)), (61, (.op .add (.v 46) (.c 1)))], []⟩, [(1, 1)], [], []⟩ [(.rn (.op .add (.v 46) (.c 1)) 0 60)] (shT lHoldsH_T4 ⟨⟨[(71, (.v 47)), (70, (.v 29)), (69, (.v 45)), (61, (.op .add (.v 46) (.c 1)))], []⟩, [(1, 1)], [], []⟩))]
noncomputable def lHoldsH_L3 : List Lf :=
  [(.cut [((.ap 12 (.ap 3 (.v 47) (.v 37) (.c 2) (.c 0) (.c 0) (.c 0)) (.ap 3 (.v 47) (.v 54) (.c 2) (.c 0) (.c 0) (.c 0)) (.c 0) (.c 0) (.c 0) (.c 0)), .true), ((.lt (.v 54) (.v 37)), .true), ((.lt (.v 37) (.v 45)), .true), ((.lt (.c 0) (.c 1)), .true), ((.ap 24 (.ap 23 (.c 0) (.c 0) (.c 0) (.ap 3 (.v 0) (.v 28) (.c 0) (.c 0) (.c 0) (.c 0)) (.ap 3 (.v 0) (.v 28) (.c 1) (.c 0) (.c 0) (.c 0)) (.ap 3 (.v 0) (.v 28) (.c 2) (.c 0) (.c 0) (.c 0))) (.c 1) (.ap 3 (.v 0) (.v 28) (.c 0) (.c 0) (.c 0) (.c 0)) (.ap 3 (.v 0) (.v 28) (.c 1) (.c 0) (.c 0) (.c 0)) (.c 0) (.c 0)), .true), ((.ap 20 (.ap 23 (.c 0) (.c 0) (.c 0) (.ap 3 (.v 0) (.v 28) (.c 0) (.c 0) (.c 0) (.c 0)) (.ap 3 (.v 0) (.v 28) (.c 1) (.c 0) (.c 0) (.c 0)) (.ap 3 (.v 0) (.v 28) (.c 2) (.c 0) (.c 0) (.c 0))) (.c 1) (.c 0) (.c 0) (.c 0) (.c 0)), .true), ((.ap 23 (.ap 3 (.v 0) (.v 28) (.c 0) (.c 0) (.c 0) (.c 0)) (.ap 3 (.v 0) (.v 28) (.c 1) (.c 0) (.c 0) (.c 0)) (.ap 3 (.v 0) (.v 28) (.c 2) (.c 0) (.c 0) (.c 0)) (.c 0) (.c 0) (.c 0)), .true), ((.eq (.op .tmod (.ap 3 (.v 0) (.v 28) (.c 1) (.c 0) (.c 0) (.c 0)) (.c 2)) (.c 0)), .true), ((.lt (.v 28) (.v 1)), .true), ((.lt (.c 60) (.v 1)), .false), ((.le (.v 1) (.v 3)), .true), ((.le (.c 0) (.v 3)), .true), ((.le (.v 45) (.v 29)), .true)] 3 ⟨⟨[(54, (.op .add (.v 54) (.c 1)))], []⟩, [(1, 1)], [], []⟩ [] (shT lHoldsH_T3 ⟨⟨[(54, (.op .add (.v 54) (.c 1)))], []⟩, [(1, 1)], [], []⟩)), (.fin [((.ap 12 (.ap 3 (.v 47) (.v 37) (.c 2) (.c 0) (.c 0) (.c 0)) (.ap 3 (.v 47) (.v 54) (.c 2) (.c 0) (.c 0) (.c 0)) (.c 0) (.c 0) (.c 0) (.c 0)), .false), ((.lt (.v 54) (.v 37)), .true), ((.lt (.v 37) (.v 45)), .true), ((.lt (.c 0) (.c 1)), .true), ((.ap 24 (.ap 23 (.c 0) (.c 0) (.c 0) (.ap 3 (.v 0) (.v 28) (.c 0) (.c 0) (.c 0) (.c 0)) (.ap 3 (.v 0) (.v 28) (.c 1) (.c 0) (.c 0) (.c 0)) (.ap 3 (.v 0) (.v 28) (.c 2) (.c 0) (.c 0) (.c 0))) (.c 1) (.ap 3 (.v 0) (.v 28) (.c 0) (.c 0) (.c 0) (.c 0)) (.ap 3 (.v 0) (.v 28) (.c 1) (.c 0) (.c 0) (.c 0)) (.c 0) (.c 0)), .true), ((.ap 20 (.ap 23 (.c 0) (.c 0) (.c 0) (.ap 3 (.v 0) (.v 28) (.c 0) (.c 0) (.c 0) (.c 0)) (.ap 3 (.v 0) (.v 28) (.c 1) (.c 0) (.c 0) (.c 0)) (.ap 3 (.v 0) (.v 28) (.c 2) (.c 0) (.c 0) (.c 0))) (.c 1) (.c 0) (.c 0) (.c 0) (.c 0)), .true), ((.ap 23 (.ap 3 (.v 0) (.v 28) (.c 0) (.c 0) (.c 0) (.c 0)) (.ap 3 (.v 0) (.v 28) (.c 1) (.c 0) (.c 0) (.c 0)) (.ap 3 (.v 0) (.v 28) (.c 2) (.c 0) (.c 0) (.c 0)) (.c 0) (.c 0) (.c 0)), .true), ((.eq (.op .tmod (.ap 3 (.v 0) (.v 28) (.c 1) (.c 0) (.c 0) (.c 0)) (.c 2)) (.c 0)), .true), ((.lt (.v 28) (.v 1)), .true), ((.lt (.c 60) (.v 1)), .false), ((.le (.v 1) (.v 3)), .true), ((.le (.c 0) (.v 3)), .true), ((.le (.v 45) (.v 29)), .true)] 0 ⟨⟨[], []⟩, [], [], []⟩ [(.eb (.c .true) (.c .false))] []), (.cut [((.lt (.v 54) (.v 37)), .false), ((.lt (.v 37) (.v 45)), .true), ((.lt (.c 0) (.c 1)), .true), ((.ap 24 (.ap 23 (.c 0) (.c 0) (.c 0) (.ap 3 (.v 0) (.v 28) (.c 0) (.c 0) (.c 0) (.c 0)) (.ap 3 (.v 0) (.v 28) (.c 1) (.c 0) (.c 0) (.c 0)) (.ap 3 (.v 0) (.v 28) (.c 2) (.c 0) (.c 0) (.c 0))) (.c 1) (.ap 3 (.v 0) (.v 28) (.c 0) (.c 0) (.c 0) (.c 0)) (.ap 3 (.v 0) (.v 28) (.c 1) (.c 0) (.c 0) (.c 0)) (.c 0) (.c 0)), .true), ((.ap 20 (.ap 23 (.c 0) (.c 0) (.c 0) (.ap 3 (.v 0) (.v 28) (.c 0) (.c 0) (.c 0) (.c 0)) (.ap 3 (.v 0) (.v 28) (.c 1) (.c 0) (.c 0) (.c 0)) (.ap 3 (.v 0) (.v 28) (.c 2) (.c 0) (.c 0) (.c 0))) (.c 1) (.c 0) (.c 0) (.c 0) (.c 0)), .true), ((.ap 23 (.ap 3 (.v 0) (.v 28) (.c 0) (.c 0) (.c 0) (.c 0)) (.ap 3 (.v 0) (.v 28) (.c 1) (.c 0) (.c 0) (.c 0)) (.ap 3 (.v 0) (.v 28) (.c 2) (.c 0) (.c 0) (.c 0)) (.c 0) (.c 0) (.c 0)), .true), ((.eq (.op .tmod (.ap 3 (.v 0) (.v 28) (.c 1) (.c 0) (.c 0) (.c 0)) (.c 2)) (.c 0)), .true), ((.lt (.v 28) (.v 1)), .true), ((.lt (.c 60) (.v 1)), .false), ((.le (.v 1) (.v 3)), .true), ((.le (.c 0) (.v 3)), .true), ((.le (.v 45) (.v 29)), .true)] 2 ⟨⟨[(47, (.v 47)), (46, (.v 46)), (29, (.v 29)), (45, (.v 45)), (37, (.op .add (.v 37) (.c 1)))], []⟩, [(1, 1)], [], []⟩ [] (shT lHoldsH_T2 ⟨⟨[(47, (.v 47)), (46, (.v 46)), (29, (.v 29)), (45, (.v 45)), (37, (.op .add (.v 37) (.c 1)))], []⟩, [(1, 1)], [], []⟩))]
noncomputable def lHoldsH_L4 : List Lf :=
  [(.cut [((.eq (.op .add (.v 69) (.c 1)) (.c 1)), .true), ((.lt (.ap 25 (.ap 23 (.v 71) (.v 69) (.ap 24 (.v 71) (.v 69) (.ap 3 (.v 0) (.v 61) (.c 0) (.c 0) (.c 0) (.c 0)) (.c 0) (.c 0) (.c 0)) (.ap 3 (.v 0) (.v 61) (.c 0) (.c 0) (.c 0) (.c 0)) (.ap 3 (.v 0) (.v 61) (.c 1) (.c 0) (.c 0) (.c 0)) (.ap 3 (.v 0) (.v 61) (.c 2) (.c 0) (.c 0) (.c 0))) (.op .add (.v 69) (.c 1)) (.c 0) (.c 0) (.c 0) (.c 0)) (.op .add (.v 69) (.c 1))), .true), ((.le (.c 0) (.ap 25 (.ap 23 (.v 71) (.v 69) (.ap 24 (.v 71) (.v 69) (.ap 3 (.v 0) (.v 61) (.c 0) (.c 0) (.c 0) (.c 0)) (.c 0) (.c 0) (.c 0)) (.ap 3 (.v 0) (.v 61) (.c 0) (.c 0) (.c 0) (.c 0)) (.ap 3 (.v 0) (.v 61) (.c 1) (.c 0) (.c 0) (.c 0)) (.ap 3 (.v 0) (.v 61) (.c 2) (.c 0) (.c 0) (.c 0))) (.op .add (.v 69) (.c 1)) (.c 0) (.c 0) (.c 0) (.c 0))), .true), ((.ap 27 (.ap 23 (.v 71) (.v 69) (.ap 24 (.v 71) (.v 69) (.ap 3 (.v 0) (.v 61) (.c 0) (.c 0) (.c 0) (.c 0)) (.c 0) (.c 0) (.c 0)) (.ap 3 (.v 0) (.v 61) (.c 0) (.c 0) (.c 0) (.c 0)) (.ap 3 (.v 0) (.v 61) (.c 1) (.c 0) (.c 0) (.c 0)) (.ap 3 (.v 0) (.v 61) (.c 2) (.c 0) (.c 0) (.c 0))) (.op .add (.v 69) (.c 1)) (.c 0) (.c 0) (.c 0) (.c 0)), .true), ((.ap 21 (.ap 22 (.ap 23 (.v 71) (.v 69) (.ap 24 (.v 71) (.v 69) (.ap 3 (.v 0) (.v 61) (.c 0) (.c 0) (.c 0) (.c 0)) (.c 0) (.c 0) (.c 0)) (.ap 3 (.v 0) (.v 61) (.c 0) (.c 0) (.c 0) (.c 0)) (.ap 3 (.v 0) (.v 61) (.c 1) (.c 0) (.c 0) (.c 0)) (.ap 3 (.v 0) (.v 61) (.c 2) (.c 0) (.c 0) (.c 0))) (.op .add (.v 69) (.c 1)) (.ap 21 (.ap 23 (.v 71) (.v 69) (.ap 24 (.v 71) (.v 69) (.ap 3 (.v 0) (.v 61) (.c 0) (.c 0) (.c 0) (.c 0)) (.c 0) (.c 0) (.c 0)) (.ap 3 (.v 0) (.v 61) (.c 0) (.c 0) (.c 0) (.c 0)) (.ap 3 (.v 0) (.v 61) (.c 1) (.c 0) (.c 0) (.c 0)) (.ap 3 (.v 0) (.v 61) (.c 2) (.c 0) (.c 0) (.c 0))) (.op .add (.v 69) (.c 1)) (.ap 3 (.v 0) (.v 61) (.c 0) (.c 0) (.c 0) (.c 0)) (.c 0) (.c 0) (.c 0)) (.c 0) (.c 0) (.c 0)) (.v 69) (.v 71) (.v 69) (.c 0) (.c 0)), .true), ((.le (.v 69) (.d 1)), .true), ((.lt (.c 0) (.op .add (.v 69) (.c 1))), .true), ((.ap 24 (.ap 23 (.v 71) (.v 69) (.ap 24 (.v 71) (.v 69) (.ap 3 (.v 0) (.v 61) (.c 0) (.c 0) (.c 0) (.c 0)) (.c 0) (.c 0) (.c 0)) (.ap 3 (.v 0) (.v 61) (.c 0) (.c 0) (.c 0) (.c 0)) (.ap 3 (.v 0) (.v 61) (.c 1) (.c 0) (.c 0) (.c 0)) (.ap 3 (.v 0) (.v 61) (.c 2) (.c 0) (.c 0) (.c 0))) (.op .add (.v 69) (.c 1)) (.ap 3 (.v 0) (.v 61) (.c 0) (.c 0) (.c 0) (.c 0)) (.ap 3 (.v 0) (.v 61) (.c 1) (.c 0) (.c 0) (.c 0)) (.c 0) (.c 0)), .true), ((.ap 20 (.ap 23 (.v 71) (.v 69) (.ap 24 (.v 71) (.v 69) (.ap 3 (.v 0) (.v 61) (.c 0) (.c 0) (.c 0) (.c 0)) (.c 0) (.c 0) (.c 0)) (.ap 3 (.v 0) (.v 61) (.c 0) (.c 0) (.c 0) (.c 0)) (.ap 3 (.v 0) (.v 61) (.c 1) (.c 0) (.c 0) (.c 0)) (.ap 3 (.v 0) (.v 61) (.c 2) (.c 0) (.c 0) (.c 0))) (.op .add (.v 69) (.c 1)) (.c 0) (.c 0) (.c 0) (.c 0)), .true), ((.le (.op .add (.v 69) (.c 1)) (.d 0)), .true), ((.eq (.ap 27 (.v 71) (.v 69) (.ap 3 (.v 0) (.v 61) (.c 0) (.c 0) (.c 0) (.c 0)) (.ap 3 (.v 0) (.v 61) (.c 1) (.c 0) (.c 0) (.c 0)) (.ap 3 (.v 0) (.v 61) (.c 2) (.c 0) (.c 0) (.c 0)) (.c 0)) (.c 0)), .true), ((.eq (.op .tmod (.ap 3 (.v 0) (.v 61) (.c 1) (.c 0) (.c 0) (.c 0)) (.c 2)) (.c 0)), .true), ((.lt (.v 61) (.v 1)), .true), ((.lt (.v 37) (.v 45)), .false), ((.lt (.c 0) (.c 1)), .true), ((.ap 24 (.ap 23 (.c 0) (.c 0) (.c 0) (.ap 3 (.v 0) (.v 28) (.c 0) (.c 0) (.c 0) (.c 0)) (.ap 3 (.v 0) (.v 28) (.c 1) (.c 0) (.c 0) (.c 0)) (.ap 3 (.v 0) (.v 28) (.c 2) (.c 0) (.c 0) (.c 0))) (.c 1) (.ap 3 (.v 0) (.v 28) (.c 0) (.c 0) (.c 0) (.c 0)) (.ap 3 (.v 0) (.v 28) (.c 1) (.c 0) (.c 0) (.c 0)) (.c 0) (.c 0)), .true), ((.ap 20 (.ap 23 (.c 0) (.c 0) (.c 0) (.ap 3 (.v 0) (.v 28) (.c 0) (.c 0) (.c 0) (.c 0)) (.ap 3 (.v 0) (.v 28) (.c 1) (.c 0) (.c 0) (.c 0)) (.ap 3 (.v 0) (.v 28) (.c 2) (.c 0) (.c 0) (.c 0))) (.c 1) (.c 0) (.c 0) (.c 0) (.c 0)), .true), ((.ap 23 (.ap 3 (.v 0) (.v 28) (.c 0) (.c 0) (.c 0) (.c 0)) (.ap 3 (.v 0) (.v 28) (.c 1) (.c 0) (.c 0) (.c 0)) (.ap 3 (.v 0) (.v 28) (.c 2) (.c 0) (.c 0) (.c 0)) (.c 0) (.c 0) (.c 0)), .true), ((.eq (.op .tmod (.ap 3 (.v 0) (.v 28) (.c 1) (.c 0) (.c 0) (.c 0)) (.c 2)) (.c 0)), .true), ((.lt (.v 28) (.v 1)), .true), ((.lt (.c 60) (.v 1)), .false), ((.le (.v 1) (.v 3)), .true), ((.le (.c 0) (.v 3)), .true), ((.le (.v 45) (.v 29)), .true), ((.le (.v 69) (.v 70)), .true)] 2 ⟨⟨[(47, (.ap 23 (.v 71) (.v 69) (.ap 24 (.v 71) (.v 69) (.ap 3 (.v 0) (.v 61) (.c 0) (.c 0) (.c 0) (.c 0)) (.c 0) (.c 0) (.c 0)) (.ap 3 (.v 0) (.v 61) (.c 0) (.c 0) (.c 0) (.c 0)) (.ap 3 (.v 0) (.v 61) (.c 1) (.c 0) (.c 0) (.c 0)) (.ap 3 (.v 0) (.v 61) (.c 2) (.c 0) (.c 0) (.c 0)))), (46, (.v 61)), (29, (.d 0)), (45, (.op .add (.v 69) (.c 1))), (37, (.c 0))], []⟩, [(1, 3)], [], []⟩ [] (shT lHoldsH_T2 ⟨⟨[(47, (.ap 23 (.v 71) (.v 69) (.ap 24 (.v 71) (.v 69) (.ap 3 (.v 0) (.v 61) (.c 0) (.c 0) (.c 0) (.c 0)) (.c 0) (.c 0) (.c 0)) (.ap 3 (.v 0) (.v 61) (.c 0) (.c 0) (.c 0) (.c 0)) (.ap 3 (.v 0) (.v 61) (.c 1) (.c 0) (.c 0) (.c 0)) (.ap 3 (.v 0) (.v 61) (.c 2) (.c 0) (.c 0) (.c 0)))), (46, (.v 61)), (29, (.d 0)), (45, (.op .add (.v 69) (.c 1))), (37, (.c 0))], []⟩, [(1, 3)], [], []⟩)), (.fin [((.eq (.op .add (.v 69) (.c 1)) (.c 1)), .false), ((.lt (.ap 25 (.ap 23 (.v 71) (.v 69) (.ap 24 (.v 71) (.v 69) (.ap 3 (.v 0) (.v 61) (.c 0) (.c 0) (.c 0) (.c 0)) (.c 0) (.c 0) (.c 0)) (.ap 3 (.v 0) (.v 61) (.c 0) (.c 0) (.c 0) (.c 0)) (.ap 3 (.v 0) (.v 61) (.c 1) (.c 0) (.c 0) (.c 0)) (.ap 3 (.v 0) (.v 61) (.c 2) (.c 0) (.c 0) (.c 0))) (.op .add (.v 69) (.c 1)) (.c 0) (.c 0) (.c 0) (.c 0)) (.op .add (.v 69) (.c 1))), .true), ((.le (.c 0) (.ap 25 (.ap 23 (.v 71) (.v 69) (.ap 24 (.v 71) (.v 69) (.ap 3 (.v 0) (.v 61) (.c 0) (.c 0) (.c 0) (.c 0)) (.c 0) (.c 0) (.c 0)) (.ap 3 (.v 0) (.v 61) (.c 0) (.c 0) (.c 0) (.c 0)) (.ap 3 (.v 0) (.v 61) (.c 1) (.c 0) (.c 0) (.c 0)) (.ap 3 (.v 0) (.v 61) (.c 2) (.c 0) (.c 0) (.c 0))) (.op .add (.v 69) (.c 1)) (.c 0) (.c 0) (.c 0) (.c 0))), .true), ((.ap 27 (.ap 23 (.v 71) (.v 69) (.ap 24 (.v 71) (.v 69) (.ap 3 (.v 0) (.v 61) (.c 0) (.c 0) (.c 0) (.c 0)) (.c 0) (.c 0) (.c 0)) (.ap 3 (.v 0) (.v 61) (.c 0) (.c 0) (.c 0) (.c 0)) (.ap 3 (.v 0) (.v 61) (.c 1) (.c 0) (.c 0) (.c 0)) (.ap 3 (.v 0) (.v 61) (.c 2) (.c 0) (.c 0) (.c 0))) (.op .add (.v 69) (.c 1)) (.c 0) (.c 0) (.c 0) (.c 0)), .true), ((.ap 21 (.ap 22 (.ap 23 (.v 71) (.v 69) (.ap 24 (.v 71) (.v 69) (.ap 3 (.v 0) (.v 61) (.c 0) (.c 0) (.c 0) (.c 0)) (.c 0) (.c 0) (.c 0)) (.ap 3 (.v 0) (.v 61) (.c 0) (.c 0) (.c 0) (.c 0)) (.ap 3 (.v 0) (.v 61) (.c 1) (.c 0) (.c 0) (.c 0)) (.ap 3 (.v 0) (.v 61) (.c 2) (.c 0) (.c 0) (.c 0))) (.op .add (.v 69) (.c 1)) (.ap 21 (.ap 23 (.v 71) (.v 69) (.ap 24 (.v 71) (.v 69) (.ap 3 (.v 0) (.v 61) (.c 0) (.c 0) (.c 0) (.c 0)) (.c 0) (.c 0) (.c 0)) (.ap 3 (.v 0) (.v 61) (.c 0) (.c 0) (.c 0) (.c 0)) (.ap 3 (.v 0) (.v 61) (.c 1) (.c 0) (.c 0) (.c 0)) (.ap 3 (.v 0) (.v 61) (.c 2) (.c 0) (.c 0) (.c 0))) (.op .add (.v 69) (.c 1)) (.ap 3 (.v 0) (.v 61) (.c 0) (.c 0) (.c 0) (.c 0)) (.c 0) (.c 0) (.c 0)) (.c 0) (.c 0) (.c 0)) (.v 69) (.v 71) (.v 69) (.c 0) (.c 0)), .true), ((.le (.v 69) (.d 1)), .true), ((.lt (.c 0) (.op .add (.v 69) (.c 1))), .true), ((.ap 24 (.ap 23 (.v 71) (.v 69) (.ap 24 (.v 71) (.v 69) (.ap 3 (.v 0) (.v 61) (.c 0) (.c 0) (.c 0) (.c 0)) (.c 0) (.c 0) (.c 0)) (.ap 3 (.v 0) (.v 61) (.c 0) (.c 0) (.c 0) (.c 0)) (.ap 3 (.v 0) (.v 61) (.c 1) (.c 0) (.c 0) (.c 0)) (.ap 3 (.v 0) (.v 61) (.c 2) (.c 0) (.c 0) (.c 0))) (.op .add (.v 69) (.c 1)) (.ap 3 (.v 0) (.v 61) (.c 0) (.c 0) (.c 0) (.c 0)) (.ap 3 (.v 0) (.v 61) (.c 1) (.c 0) (.c 0) (.c 0)) (.c 0) (.c 0)), .true), ((.ap 20 (.ap 23 (.v 71) (.v 69) (.ap 24 (.v 71) (.v 69) (.ap 3 (.v 0) (.v 61) (.c 0) (.c 0) (.c 0) (.c 0)) (.c 0) (.c 0) (.c 0)) (.ap 3 (.v 0) (.v 61) (.c 0) (.c 0) (.c 0) (.c 0)) (.ap 3 (.v 0) (.v 61) (.c 1) (.c 0) (.c 0) (.c 0)) (.ap 3 (.v 0) (.v 61) (.c 2) (.c 0) (.c 0) (.c 0))) (.op .add (.v 69) (.c 1)) (.c 0) (.c 0) (.c 0) (.c 0)), .true), ((.le (.op .add (.v 69) (.c 1)) (.d 0)), .true), ((.eq (.ap 27 (.v 71) (.v 69) (.ap 3 (.v 0) (.v 61) (.c 0) (.c 0) (.c 0) (.c 0)) (.ap 3 (.v 0) (.v 61) (.c 1) (.c 0) (.c 0) (.c 0)) (.ap 3 (.v 0) (.v 61) (.c 2) (.c 0) (.c 0) (.c 0)) (.c 0)) (.c 0)), .true), ((.eq (.op .tmod (.ap 3 (.v 0) (.v 61) (.c 1) (.c 0) (.c 0) (.c 0)) (.c 2)) (.c 0)), .true), ((.lt (.v 61) (.v 1)), .true), ((.lt (.v 37) (.v 45)), .false), ((.lt (.c 0) (.c 1)), .true), ((.ap 24 (.ap 23 (.c 0) (.c 0) (.c 0) (.ap 3 (.v 0) (.v 28) (.c 0) (.c 0) (.c 0) (.c 0)) (.ap 3 (.v 0) (.v 28) (.c 1) (.c 0) (.c 0) (.c 0)) (.ap 3 (.v 0) (.v 28) (.c 2) (.c 0) (.c 0) (.c 0))) (.c 1) (.ap 3 (.v 0) (.v 28) (.c 0) (.c 0) (.c 0) (.c 0)) (.ap 3 (.v 0) (.v 28) (.c 1) (.c 0) (.c 0) (.c 0)) (.c 0) (.c 0)), .true), ((.ap 20 (.ap 23 (.c 0) (.c 0) (.c 0) (.ap 3 (.v 0) (.v 28) (.c 0) (.c 0) (.c 0) (.c 0)) (.ap 3 (.v 0) (.v 28) (.c 1) (.c 0) (.c 0) (.c 0)) (.ap 3 (.v 0) (.v 28) (.c 2) (.c 0) (.c 0) (.c 0))) (.c 1) (.c 0) (.c 0) (.c 0) (.c 0)), .true), ((.ap 23 (.ap 3 (.v 0) (.v 28) (.c 0) (.c 0) (.c 0) (.c 0)) (.ap 3 (.v 0) (.v 28) (.c 1) (.c 0) (.c 0) (.c 0)) (.ap 3 (.v 0) (.v 28) (.c 2) (.c 0) (.c 0) (.c 0)) (.c 0) (.c 0) (.c 0)), .true), ((.eq (.op .tmod (.ap 3 (.v 0) (.v 28) (.c 1) (.c 0) (.c 0) (.c 0)) (.c 2)) (.c 0)), .true), ((.lt (.v 28) (.v 1)), .true), ((.lt (.c 60) (.v 1)), .false), ((.le (.v 1) (.v 3)), .true), ((.le (.c 0) (.v 3)), .true), ((.le (.v 45) (.v 29)), .true), ((.le (.v 69) (.v 70)), .true)] 0 ⟨⟨[], []⟩, [], [], []⟩ [(.eb (.c .true) (.c .false))] []), (.cut [((.ap 27 (.ap 23 (.v 71) (.v 69) (.ap 24 (.v 71) (.v 69) (.ap 3 (.v 0) (.v 61) (.c 0) (.c 0) (.c 0) (.c 0)) (.c 0) (.c 0) (.c 0)) (.ap 3 (.v 0) (.v 61) (.c 0) (.c 0) (.c 0) (.c 0)) (.ap 3 (.v 0) (.v 61) (.c 1) (.c 0) (.c 0) (.c 0)) (.ap 3 (.v 0) (.v 61) (.c 2) (.c 0) (.c 0) (.c 0))) (.op .add (.v 69) (.c 1)) (.c 0) (.c 0) (.c 0) (.c 0)), .false), ((.ap 21 (.ap 22 (.ap 23 (.v 71) (.v 69) (.ap 24 (.v 71) (.v 69) (.ap 3 (.v 0) (.v 61) (.c 0) (.c 0) (.c 0) (.c 0)) (.c 0) (.c 0) (.c 0)) (.ap 3 (.v 0) (.v 61) (.c 0) (.c 0) (.c 0) (.c 0)) (.ap 3 (.v 0) (.v 61) (.c 1) (.c 0) (.c 0) (.c 0)) (.ap 3 (.v 0) (.v 61) (.c 2) (.c 0) (.c 0) (.c 0))) (.op .add (.v 69) (.c 1)) (.ap 21 (.ap 23 (.v 71) (.v 69) (.ap 24 (.v 71) (.v 69) (.ap 3 (.v 0) (.v 61) (.c 0) (.c 0) (.c 0) (.c 0)) (.c 0) (.c 0) (.c 0)) (.ap 3 (.v 0) (.v 61) (.c 0) (.c 0) (.c 0) (.c 0)) (.ap 3 (.v 0) (.v 61) (.c 1) (.c 0) (.c 0) (.c 0)) (.ap 3 (.v 0) (.v 61) (.c 2) (.c 0) (.c 0) (.c 0))) (.op .add (.v 69) (.c 1)) (.ap 3 (.v 0) (.v 61) (.c 0) (.c 0) (.c 0) (.c 0)) (.c 0) (.c 0) (.c 0)) (.c 0) (.c 0) (.c 0)) (.v 69) (.v 71) (.v 69) (.c 0) (.c 0)), .true), ((.le (.v 69) (.d 1)), .true), ((.lt (.c 0) (.op .add (.v 69) (.c 1))), .true), ((.ap 24 (.ap 23 (.v 71) (.v 69) (.ap 24 (.v 71) (.v 69) (.ap 3 (.v 0) (.v 61) (.c 0) (.c 0) (.c 0) (.c 0)) (.c 0) (.c 0) (.c 0)) (.ap 3 (.v 0) (.v 61) (.c 0) (.c 0) (.c 0) (.c 0)) (.ap 3 (.v 0) (.v 61) (.c 1) (.c 0) (.c 0) (.c 0)) (.ap 3 (.v 0) (.v 61) (.c 2) (.c 0) (.c 0) (.c 0))) (.op .add (.v 69) (.c 1)) (.ap 3 (.v 0) (.v 61) (.c 0) (.c 0) (.c 0) (.c 0)) (.ap 3 (.v 0) (.v 61) (.c 1) (.c 0) (.c 0) (.c 0)) (.c 0) (.c 0)), .true), ((.ap 20 (.ap 23 (.v 71) (.v 69) (.ap 24 (.v 71) (.v 69) (.ap 3 (.v 0) (.v 61) (.c 0) (.c 0) (.c 0) (.c 0)) (.c 0) (.c 0) (.c 0)) (.ap 3 (.v 0) (.v 61) (.c 0) (.c 0) (.c 0) (.c 0)) (.ap 3 (.v 0) (.v 61) (.c 1) (.c 0) (.c 0) (.c 0)) (.ap 3 (.v 0) (.v 61) (.c 2) (.c 0) (.c 0) (.c 0))) (.op .add (.v 69) (.c 1)) (.c 0) (.c 0) (.c 0) (.c 0)), .true), ((.le (.op .add (.v 69) (.c 1)) (.d 0)), .true), ((.eq (.ap 27 (.v 71) (.v 69) (.ap 3 (.v 0) (.v 61) (.c 0) (.c 0) (.c 0) (.c 0)) (.ap 3 (.v 0) (.v 61) (.c 1) (.c 0) (.c 0) (.c 0)) (.ap 3 (.v 0) (.v 61) (.c 2) (.c 0) (.c 0) (.c 0)) (.c 0)) (.c 0)), .true), ((.eq (.op .tmod (.ap 3 (.v 0) (.v 61) (.c 1) (.c 0) (.c 0) (.c 0)) (.c 2)) (.c 0)), .true), ((.lt (.v 61) (.v 1)), .true), ((.lt (.v 37) (.v 45)), .false), ((.lt (.c 0) (.c 1)), .true), ((.ap 24 (.ap 23 (.c 0) (.c 0) (.c 0) (.ap 3 (.v 0) (.v 28) (.c 0) (.c 0) (.c 0) (.c 0)) (.ap 3 (.v 0) (.v 28) (.c 1) (.c 0) (.c 0) (.c 0)) (.ap 3 (.v 0) (.v 28) (.c 2) (.c 0) (.c 0) (.c 0))) (.c 1) (.ap 3 (.v 0) (.v 28) (.c 0) (.c 0) (.c 0) (.c 0)) (.ap 3 (.v 0) (.v 28) (.c 1) (.c 0) (.c 0) (.c 0)) (.c 0) (.c 0)), .true), ((.ap 20 (.ap 23 (.c 0) (.c 0) (.c 0) (.ap 3 (.v 0) (.v 28) (.c 0) (.c 0) (.c 0) (.c 0)) (.ap 3 (.v 0) (.v 28) (.c 1) (.c 0) (.c 0) (.c 0)) (.ap 3 (.v 0) (.v 28) (.c 2) (.c 0) (.c 0) (.c 0))) (.c 1) (.c 0) (.c 0) (.c 0) (.c 0)), .true), ((.ap 23 (.ap 3 (.v 0) (.v 28) (.c 0) (.c 0) (.c 0) (.c 0)) (.ap 3 (.v 0) (.v 28) (.c 1) (.c 0) (.c 0) (.c 0)) (.ap 3 (.v 0) (.v 28) (.c 2) (.c 0) (.c 0) (.c 0)) (.c 0) (.c 0) (.c 0)), .true), ((.eq (.op .tmod (.ap 3 (.v 0) (.v 28) (.c 1) (.c 0) (.c 0) (.c 0)) (.c 2)) (.c 0)), .true), ((.lt (.v 28) (.v 1)), .true), ((.lt (.c 60) (.v 1)), .false), ((.le (.v 1) (.v 3)), .true), ((.le (.c 0) (.v 3)), .true), ((.le (.v 45) (.v 29)), .true), ((.le (.v 69) (.v 70)), .true)] 2 ⟨⟨[(47, (.ap 23 (.v 71) (.v 69) (.ap 24 (.v 71) (.v 69) (.ap 3 (.v 0) (.v 61) (.c 0) (.c 0) (.c 0) (.c 0)) (.c 0) (.c 0) (.c 0)) (.ap 3 (.v 0) (.v 61) (.c 0) (.c 0) (.c 0) (.c 0)) (.ap 3 (.v 0) (.v 61) (.c 1) (.c 0) (.c 0) (.c 0)) (.ap 3 (.v 0) (.v 61) (.c 2) (.c 0) (.c 0) (.c 0)))), (46, (.v 61)), (29, (.d 0)), (45, (.op .add (.v 69) (.c 1))), (37, (.c 0))], []⟩, [(1, 3)], [], []⟩ [(.rn (.op .add (.v 69) (.c 1)) 0 900)] (shT lHoldsH_T2 ⟨⟨[(47, (.ap 23 (.v 71) (.v 69) (.ap 24 (.v 71) (.v 69) (.ap 3 (.v 0) (.v 61) (.c 0) (.c 0) (.c 0) (.c 0)) (.c 0) (.c 0) (.c 0)) (.ap 3 (.v 0) (.v 61) (.c 0) (.c 0) (.c 0) (.c 0)) (.ap 3 (.v 0) (.v 61) (.c 1) (.c 0) (.c 0) (.c 0)) (.ap 3 (.v 0) (.v 61) (.c 2) (.c 0) (.c 0) (.c 0)))), (46, (.v 61)), (29, (.d 0)), (45, (.op .add (.v 69) (.c 1))), (37, (.c 0))], []⟩, [(1, 3)], [], []⟩)), (.fin [((.ap 21 (.ap 22 (.ap 23 (.v 71) (.v 69) (.ap 24 (.v 71) (.v 69) (.ap 3 (.v 0) (.v 61) (.c 0) (.c 0) (.c 0) (.c 0)) (.c 0) (.c 0) (.c 0)) (.ap 3 (.v 0) (.v 61) (.c 0) (.c 0) (.c 0) (.c 0)) (.ap 3 (.v 0) (.v 61) (.c 1) (.c 0) (.c 0) (.c 0)) (.ap 3 (.v 0) (.v 61) (.c 2) (.c 0) (.c 0) (.c 0))) (.op .add (.v 69) (.c 1)) (.ap 21 (.ap 23 (.v 71) (.v 69) (.ap 24 (.v 71) (.v 69) (.ap 3 (.v 0) (.v 61) (.c 0) (.c 0) (.c 0) (.c 0)) (.c 0) (.c 0) (.c 0)) (.ap 3 (.v 0) (.v 61) (.c 0) (.c 0) (.c 0) (.c 0)) (.ap 3 (.v 0) (.v 61) (.c 1) (.c 0) (.c 0) (.c 0)) (.ap 3 (.v 0) (.v 61) (.c 2) (.c 0) (.c 0) (.c 0))) (.op .add (.v 69) (.c 1)) (.ap 3 (.v 0) (.v 61) (.c 0) (.c 0) (.c 0) (.c 0)) (.c 0) (.c 0) (.c 0)) (.c 0) (.c 0) (.c 0)) (.v 69) (.v 71) (.v 69) (.c 0) (.c 0)), .false), ((.le (.v 69) (.d 1)), .true), ((.lt (.c 0) (.op .add (.v 69) (.c 1))), .true), ((.ap 24 (.ap 23 (.v 71) (.v 69) (.ap 24 (.v 71) (.v 69) (.ap 3 (.v 0) (.v 61) (.c 0) (.c 0) (.c 0) (.c 0)) (.c 0) (.c 0) (.c 0)) (.ap 3 (.v 0) (.v 61) (.c 0) (.c 0) (.c 0) (.c 0)) (.ap 3 (.v 0) (.v 61) (.c 1) (.c 0) (.c 0) (.c 0)) (.ap 3 (.v 0) (.v 61) (.c 2) (.c 0) (.c 0) (.c 0))) (.op .add (.v 69) (.c 1)) (.ap 3 (.v 0) (.v 61) (.c 0) (.c 0) (.c 0) (.c 0)) (.ap 3 (.v 0) (.v 61) (.c 1) (.c 0) (.c 0) (.c 0)) (.c 0) (.c 0)), .true), ((.ap 20 (.ap 23 (.v 71) (.v 69) (.ap 24 (.v 71) (.v 69) (.ap 3 (.v 0) (.v 61) (.c 0) (.c 0) (.c 0) (.c 0)) (.c 0) (.c 0) (.c 0)) (.ap 3 (.v 0) (.v 61) (.c 0) (.c 0) (.c 0) (.c 0)) (.ap 3 (.v 0) (.v 61) (.c 1) (.c 0) (.c 0) (.c 0)) (.ap 3 (.v 0) (.v 61) (.c 2) (.c 0) (.c 0) (.c 0))) (.op .add (.v 69) (.c 1)) (.c 0) (.c 0) (.c 0) (.c 0)), .true), ((.le (.op .add (.v 69) (.c 1)) (.d 0)), .true), ((.eq (.ap 27 (.v 71) (.v 69) (.ap 3 (.v 0) (.v 61) (.c 0) (.c 0) (.c 0) (.c 0)) (.ap 3 (.v 0) (.v 61) (.c 1) (.c 0) (.c 0) (.c 0)) (.ap 3 (.v 0) (.v 61) (.c 2) (.c 0) (.c 0) (.c 0)) (.c 0)) (.c 0)), .true), ((.eq (.op .tmod (.ap 3 (.v 0) (.v 61) (.c 1) (.c 0) (.c 0) (.c 0)) (.c 2)) (.c 0)), .true), ((.lt (.v 61) (.v 1)), .true), ((.lt (.v 37) (.v 45)), .false), ((.lt (.c 0) (.c 1)), .true), ((.ap 24 (.ap 23 (.c 0) (.c 0) (.c 0) (.ap 3 (.v 0) (.v 28) (.c 0) (.c 0) (.c 0) (.c 0)) (.ap 3 (.v 0) (.v 28) (.c 1) (.c 0) (.c 0) (.c 0)) (.ap 3 (.v 0) (.v 28) (.c 2) (.c 0) (.c 0) (.c 0))) (.c 1) (.ap 3 (.v 0) (.v 28) (.c 0) (.c 0) (.c 0) (.c 0)) (.ap 3 (.v 0) (.v 28) (.c 1) (.c 0) (.c 0) (.c 0)) (.c 0) (.c 0)), .true), ((.ap 20 (.ap 23 (.c 0) (.c 0) (.c 0) (.ap 3 (.v 0) (.v 28) (.c 0) (.c 0) (.c 0) (.c 0)) (.ap 3 (.v 0) (.v 28) (.c 1) (.c 0) (.c 0) (.c 0)) (.ap 3 (.v 0) (.v 28) (.c 2) (.c 0) (.c 0) (.c 0))) (.c 1) (.c 0) (.c 0) (.c 0) (.c 0)), .true), ((.ap 23 (.ap 3 (.v 0) (.v 28) (.c 0) (.c 0) (.c 0) (.c 0)) (.ap 3 (.v 0) (.v 28) (.c 1) (.c 0) (.c 0) (.c 0)) (.ap 3 (.v 0) (.v 28) (.c 2) (.c 0) (.c 0) (.c 0)) (.c 0) (.c 0) (.c 0)), .true), ((.eq (.op .tmod (.ap 3 (.v 0) (.v 28) (.c 1) (.c 0) (.c 0) (.c 0)) (.c 2)) (.c 0)), .true), ((.lt (.v 28) (.v 1)), .true), ((.lt (.c 60) (.v 1)), .false), ((.le (.v 1) (.v 3)), .true), ((.le (.c 0) (.v 3)), .true), ((.le (.v 45) (.v 29)), .true), ((.le (.v 69) (.v 70)), .true)] 0 ⟨⟨[], []⟩, [], [], []⟩ [(.eb (.c .true) (.c .false))] []), (.fin [((.ap 24 (.ap 23 (.v 71) (.v 69) (.ap 24 (.v 71) (.v 69) (.ap 3 (.v 0) (.v 61) (.c 0) (.c 0) (.c 0) (.c 0)) (.c 0) (.c 0) (.c 0)) (.ap 3 (.v 0) (.v 61) (.c 0) (.c 0) (.c 0) (.c 0)) (.ap 3 (.v 0) (.v 61) (.c 1) (.c 0) (.c 0) (.c 0)) (.ap 3 (.v 0) (.v 61) (.c 2) (.c 0) (.c 0) (.c 0))) (.op .add (.v 69) (.c 1)) (.ap 3 (.v 0) (.v 61) (.c 0) (.c 0) (.c 0) (.c 0)) (.ap 3 (.v 0) (.v 61) (.c 1) (.c 0) (.c 0) (.c 0)) (.c 0) (.c 0)), .false), ((.ap 20 (.ap 23 (.v 71) (.v 69) (.ap 24 (.v 71) (.v 69) (.ap 3 (.v 0) (.v 61) (.c 0) (.c 0) (.c 0) (.c 0)) (.c 0) (.c 0) (.c 0)) (.ap 3 (.v 0) (.v 61) (.c 0) (.c 0) (.c 0) (.c 0)) (.ap 3 (.v 0) (.v 61) (.c 1) (.c 0) (.c 0) (.c 0)) (.ap 3 (.v 0) (.v 61) (.c 2) (.c 0) (.c 0) (.c 0))) (.op .add (.v 69) (.c 1)) (.c 0) (.c 0) (.c 0) (.c 0)), .true), ((.le (.op .add (.v 69) (.c 1)) (.d 0)), .true), ((.eq (.ap 27 (.v 71) (.v 69) (.ap 3 (.v 0) (.v 61) (.c 0) (.c 0) (.c 0) (.c 0)) (.ap 3 (.v 0) (.v 61) (.c 1) (.c 0) (.c 0) (.c 0)) (.ap 3 (.v 0) (.v 61) (.c 2) (.c 0) (.c 0) (.c 0)) (.c 0)) (.c 0)), .true), ((.eq (.op .tmod (.ap 3 (.v 0) (.v 61) (.c 1) (.c 0) (.c 0) (.c 0)) (.c 2)) (.c 0)), .true), ((.lt (.v 61) (.v 1)), .true), ((.lt (.v 37) (.v 45)), .false), ((.lt (.c 0) (.c 1)), .true), ((.ap 24 (.ap 23 (.c 0) (.c 0) (.c 0) (.ap 3 (.v 0) (.v 28) (.c 0) (.c 0) (.c 0) (.c 0)) (.ap 3 (.v 0) (.v 28) (.c 1) (.c 0) (.c 0) (.c 0)) (.ap 3 (.v 0) (.v 28) (.c 2) (.c 0) (.c 0) (.c 0))) (.c 1) (.ap 3 (.v 0) (.v 28) (.c 0) (.c 0) (.c 0) (.c 0)) (.ap 3 (.v 0) (.v 28) (.c 1) (.c 0) (.c 0) (.c 0)) (.c 0) (.c 0)), .true), ((.ap 20 (.ap 23 (.c 0) (.c 0) (.c 0) (.ap 3 (.v 0) (.v 28) (.c 0) (.c 0) (.c 0) (.c 0)) (.ap 3 (.v 0) (.v 28) (.c 1) (.c 0) (.c 0) (.c 0)) (.ap 3 (.v 0) (.v 28) (.c 2) (.c 0) (.c 0) (.c 0))) (.c 1) (.c 0) (.c 0) (.c 0) (.c 0)), .true), ((.ap 23 (.ap 3 (.v 0) (.v 28) (.c 0) (.c 0) (.c 0) (.c 0)) (.ap 3 (.v 0) (.v 28) (.c 1) (.c 0) (.c 0) (.c 0)) (.ap 3 (.v 0) (.v 28) (.c 2) (.c 0) (.c 0) (.c 0)) (.c 0) (.c 0) (.c 0)), .true), ((.eq (.op .tmod (.ap 3 (.v 0) (.v 28) (.c 1) (.c 0) (.c 0) (.c 0)) (.c 2)) (.c 0)), .true), ((.lt (.v 28) (.v 1)), .true), ((.lt (.c 60) (.v 1)), .false), ((.le (.v 1) (.v 3)), .true), ((.le (.c 0) (.v 3)), .true), ((.le (.v 45) (.v 29)), .true), ((.le (.v 69) (.v 70)), .true)] 0 ⟨⟨[], []⟩, [], [], []⟩ [(.eb (.c .true) (.c .false))] []), (.fin [((.ap 20 (.ap 23 (.v 71) (.v 69) (.ap 24 (.v 71) (.v 69) (.ap 3 (.v 0) (.v 61) (.c 0) (.c 0) (.c 0) (.c 0)) (.c 0) (.c 0) (.c 0)) (.ap 3 (.v 0) (.v 61) (.c 0) (.c 0) (.c 0) (.c 0)) (.ap 3 (.v 0) (.v 61) (.c 1) (.c 0) (.c 0) (.c 0)) (.ap 3 (.v 0) (.v 61) (.c 2) (.c 0) (.c 0) (.c 0))) (.op .add (.v 69) (.c 1)) (.c 0) (.c 0) (.c 0) (.c 0)), .false), ((.le (.op .add (.v 69) (.c 1)) (.d 0)), .true), ((.eq (.ap 27 (.v 71) (.v 69) (.ap 3 (.v 0) (.v 61) (.c 0) (.c 0) (.c 0) (.c 0)) (.ap 3 (.v 0) (.v 61) (.c 1) (.c 0) (.c 0) (.c 0)) (.ap 3 (.v 0) (.v 61) (.c 2) (.c 0) (.c 0) (.c 0)) (.c 0)) (.c 0)), .true), ((.eq (.op .tmod (.ap 3 (.v 0) (.v 61) (.c 1) (.c 0) (.c 0) (.c 0)) (.c 2)) (.c 0)), .true), ((.lt (.v 61) (.v 1)), .true), ((.lt (.v 37) (.v 45)), .false), ((.lt (.c 0) (.c 1)), .true), ((.ap 24 (.ap 23 (.c 0) (.c 0) (.c 0) (.ap 3 (.v 0) (.v 28) (.c 0) (.c 0) (.c 0) (.c 0)) (.ap 3 (.v 0) (.v 28) (.c 1) (.c 0) (.c 0) (.c 0)) (.ap 3 (.v 0) (.v 28) (.c 2) (.c 0) (.c 0) (.c 0))) (.c 1) (.ap 3 (.v 0) (.v 28) (.c 0) (.c 0) (.c 0) (.c 0)) (.ap 3 (.v 0) (.v 28) (.c 1) (.c 0) (.c 0) (.c 0)) (.c 0) (.c 0)), .true), ((.ap 20 (.ap 23 (.c 0) (.c 0) (.c 0) (.ap 3 (.v 0) (.v 28) (.c 0) (.c 0) (.c 0) (.c 0)) (.ap 3 (.v 0) (.v 28) (.c 1) (.c 0) (.c 0) (.c 0)) (.ap 3 (.v 0) (.v 28) (.c 2) (.c 0) (.c 0) (.c 0))) (.c 1) (.c 0) (.c 0) (.c 0) (.c 0)), .true), ((.ap 23 (.ap 3 (.v 0) (.v 28) (.c 0) (.c 0) (.c 0) (.c 0)) (.ap 3 (.v 0) (.v 28) (.c 1) (.c 0) (.c 0) (.c 0)) (.ap 3 (.v 0) (.v 28) (.c 2) (.c 0) (.c 0) (.c 0)) (.c 0) (.c 0) (.c 0)), .true), ((.eq (.op .tmod (.ap 3 (.v 0) (.v 28) (.c 1) (.c 0) (.c 0) (.c 0)) (.c 2)) (.c 0)), .true), ((.lt (.v 28) (.v 1)), .true), ((.lt (.c 60) (.v 1)), .false), ((.le (.v 1) (.v 3)), .true), ((.le (.c 0) (.v 3)), .true), ((.le (.v 45) (.v 29)), .true), ((.le (.v 69) (.v 70)), .true)] 0 ⟨⟨[], []⟩, [], [], []⟩ [(.eb (.c .true) (.c .false))] []), (.cut [((.eq (.ap 27 (.v 71) (.v 69) (.ap 3 (.v 0) (.v 61) (.c 0) (.c 0) (.c 0) (.c 0)) (.ap 3 (.v 0) (.v 61) (.c 1) (.c 0) (.c 0) (.c 0)) (.ap 3 (.v 0) (.v 61) (.c 2) (.c 0) (.c 0) (.c 0)) (.c 0)) (.c 0)), .false), ((.eq (.ap 27 (.v 71) (.v 69) (.ap 3 (.v 0) (.v 61) (.c 0) (.c 0) (.c 0) (.c 0)) (.ap 3 (.v 0) (.v 61) (.c 1) (.c 0) (.c 0) (.c 0)) (.ap 3 (.v 0) (.v 61) (.c 2) (.c 0) (.c 0) (.c 0)) (.c 0)) (.c 0)), .false), ((.eq (.op .tmod (.ap 3 (.v 0) (.v 61) (.c 1) (.c 0) (.c 0) (.c 0)) (.c 2)) (.c 0)), .true), ((.lt (.v 61) (.v 1)), .true), ((.lt (.v 37) (.v 45)), .false), ((.lt (.c 0) (.c 1)), .true), ((.ap 24 (.ap 23 (.c 0) (.c 0) (.c 0) (.ap 3 (.v 0) (.v 28) (.c 0) (.c 0) (.c 0) (.c 0)) (.ap 3 (.v 0) (.v 28) (.c 1) (.c 0) (.c 0) (.c 0)) (.ap 3 (.v 0) (.v 28) (.c 2) (.c 0) (.c 0) (.c 0))) (.c 1) (.ap 3 (.v 0) (.v 28) (.c 0) (.c 0) (.c 0) (.c 0)) (.ap 3 (.v 0) (.v 28) (.c 1) (.c 0) (.c 0) (.c 0)) (.c 0) (.c 0)), .true), ((.ap 20 (.ap 23 (.c 0) (.c 0) (.c 0) (.ap 3 (.v 0) (.v 28) (.c 0) (.c 0) (.c 0) (.c 0)) (.ap 3 (.v 0) (.v 28) (.c 1) (.c 0) (.c 0) (.c 0)) (.ap 3 (.v 0) (.v 28) (.c 2) (.c 0) (.c 0) (.c 0))) (.c 1) (.c 0) (.c 0) (.c 0) (.c 0)), .true), ((.ap 23 (.ap 3 (.v 0) (.v 28) (.c 0) (.c 0) (.c 0) (.c 0)) (.ap 3 (.v 0) (.v 28) (.c 1) (.c 0) (.c 0) (.c 0)) (.ap 3 (.v 0) (.v 28) (.c 2) (.c 0) (.c 0) (.c 0)) (.c 0) (.c 0) (.c 0)), .true), ((.eq (.op .tmod (.ap 3 (.v 0) (.v 28) (.c 1) (.c 0) (.c 0) (.c 0)) (.c 2)) (.c 0)), .true), ((.lt (.v 28) (.v 1)), .true), ((.lt (.c 60) (.v 1)), .false), ((.le (.v 1) (.v 3)), .true), ((.le (.c 0) (.v 3)), .true), ((.le (.v 45) (.v 29)), .true), ((.le (.v 69) (.v 70)), .true)] 4 ⟨⟨[(71, (.v 71)), (70, (.v 70)), (69, (.v 69)), (61, (.op .add (.v 61) (.c 1)))], []⟩, [(1, 1)], [], []⟩ [] (shT lHoldsH_T4 ⟨⟨[(71, (.v 71)), (70, (.v 70)), (69, (.v 69)), (61, (.op .add (.v 61) (.c 1)))], []⟩, [(1, 1)], [], []⟩)), (.cut [((.le (.op .add (.v 69) (.c (-1))) (.d 0)), .true), ((.lt (.c 0) (.v 69)), .true), ((.ap 24 (.v 71) (.v 69) (.ap 3 (.v 0) (.v 61) (.c 0) (.c 0) (.c 0) (.c 0)) (.ap 3 (.v 0) (.v 61) (.c 1) (.c 0) (.c 0) (.c 0)) (.c 0) (.c 0)), .true), ((.ap 20 (.v 71) (.v 69) (.c 0) (.c 0) (.c 0) (.c 0)), .true), ((.eq (.op .tmod (.ap 3 (.v 0) (.v 61) (.c 1) (.c 0) (.c 0) (.c 0)) (.c 2)) (.c 0)), .false), ((.lt (.v 61) (.v 1)), .true), ((.lt (.v 37) (.v 45)), .false), ((.lt (.c 0) (.c 1)), .true), ((.ap 24 (.ap 23 (.c 0) (.c 0) (.c 0) (.ap 3 (.v 0) (.v 28) (.c 0) (.c 0) (.c 0) (.c 0)) (.ap 3 (.v 0) (.v 28) (.c 1) (.c 0) (.c 0) (.c 0)) (.ap 3 (.v 0) (.v 28) (.c 2) (.c 0) (.c 0) (.c 0))) (.c 1) (.ap 3 (.v 0) (.v 28) (.c 0) (.c 0) (.c 0) (.c 0)) (.ap 3 (.v 0) (.v 28) (.c 1) (.c 0) (.c 0) (.c 0)) (.c 0) (.c 0)), .true), ((.ap 20 (.ap 23 (.c 0) (.c 0) (.c 0) (.ap 3 (.v 0) (.v 28) (.c 0) (.c 0) (.c 0) (.c 0)) (.ap 3 (.v 0) (.v 28) (.c 1) (.c 0) (.c 0) (.c 0)) (.ap 3 (.v 0) (.v 28) (.c 2) (.c 0) (.c 0) (.c 0))) (.c 1) (.c 0) (.c 0) (.c 0) (.c 0)), .true), ((.ap 23 (.ap 3 (.v 0) (.v 28) (.c 0) (.c 0) (.c 0) (.c 0)) (.ap 3 (.v 0) (.v 28) (.c 1) (.c 0) (.c 0) (.c 0)) (.ap 3 (.v 0) (.v 28) (.c 2) (.c 0) (.c 0) (.c 0)) (.c 0) (.c 0) (.c 0)), .true), ((.eq (.op .tmod (.ap 3 (.v 0) (.v 28) (.c 1) (.c 0) (.c 0) (.c 0)) (.c 2)) (.c 0)), .true), ((.lt (.v 28) (.v 1)), .true), ((.lt (.c 60) (.v 1)), .false), ((.le (.v 1) (.v 3)), .true), ((.le (.c 0) (.v 3)), .true), ((.le (.v 45) (.v 29)), .true), ((.le (.v 69) (.v 70)), .true)] 4 ⟨⟨[(71, (.ap 22 (.v 71) (.v 69) (.ap 21 (.v 71) (.v 69) (.ap 3 (.v 0) (.v 61) (.c 0) (.c 0) (.c 0) (.c 0)) (.c 0) (.c 0) (.c 0)) (.c 0) (.c 0) (.c 0))), (70, (.d 0)), (69, (.op .add (.v 69) (.c (-1)))), (61, (.op .add (.v 61) (.c 1)))], []⟩, [(1, 3)], [], []⟩ [] (shT lHoldsH_T4 ⟨⟨[(71, (.ap 22 (.v 71) (.v 69) (.ap 21 (.v 71) (.v 69) (.ap 3 (.v 0) (.v 61) (.c 0) (.c 0) (.c 0) (.c 0)) (.c 0) (.c 0) (.c 0)) (.c 0) (.c 0) (.c 0))), (70, (.d 0)), (69, (.op .add (.v 69) (.c (-1)))), (61, (.op .add (.v 61) (.c 1)))], []⟩, [(1, 3)], [], []⟩)), (.cut [((.ap 24 (.v 71) (.v 69) (.ap 3 (.v 0) (.v 61) (.c 0) (.c 0) (.c 0) (.c 0)) (.ap 3 (.v 0) (.v 61) (.c 1) (.c 0) (.c 0) (.c 0)) (.c 0) (.c 0)), .false), ((.ap 20 (.v 71) (.v 69) (.c 0) (.c 0) (.c 0) (.c 0)), .true), ((.eq (.op .tmod (.ap 3 (.v 0) (.v 61) (.c 1) (.c 0) (.c 0) (.c 0)) (.c 2)) (.c 0)), .false), ((.lt (.v 61) (.v 1)), .true), ((.lt (.v 37) (.v 45)), .false), ((.lt (.c 0) (.c 1)), .true), ((.ap 24 (.ap 23 (.c 0) (.c 0) (.c 0) (.ap 3 (.v 0) (.v 28) (.c 0) (.c 0) (.c 0) (.c 0)) (.ap 3 (.v 0) (.v 28) (.c 1) (.c 0) (.c 0) (.c 0)) (.ap 3 (.v 0) (.v 28) (.c 2) (.c 0) (.c 0) (.c 0))) (.c 1) (.ap 3 (.v 0) (.v 28) (.c 0) (.c 0) (.c 0) (.c 0)) (.ap 3 (.v 0) (.v 28) (.c 1) (.c 0) (.c 0) (.c 0)) (.c 0) (.c 0)), .true), ((.ap 20 (.ap 23 (.c 0) (.c 0) (.c 0) (.ap 3 (.v 0) (.v 28) (.c 0) (.c 0) (.c 0) (.c 0)) (.ap 3 (.v 0) (.v 28) (.c 1) (.c 0) (.c 0) (.c 0)) (.ap 3 (.v 0) (.v 28) (.c 2) (.c 0) (.c 0) (.c 0))) (.c 1) (.c 0) (.c 0) (.c 0) (.c 0)), .true), ((.ap 23 (.ap 3 (.v 0) (.v 28) (.c 0) (.c 0) (.c 0) (.c 0)) (.ap 3 (.v 0) (.v 28) (.c 1) (.c 0) (.c 0) (.c 0)) (.ap 3 (.v 0) (.v 28) (.c 2) (.c 0) (.c 0) (.c 0)) (.c 0) (.c 0) (.c 0)), .true), ((.eq (.op .tmod (.ap 3 (.v 0) (.v 28) (.c 1) (.c 0) (.c 0) (.c 0)) (.c 2)) (.c 0)), .true), ((.lt (.v 28) (.v 1)), .true), ((.lt (.c 60) (.v 1)), .false), ((.le (.v 1) (.v 3)), .true), ((.le (.c 0) (.v 3)), .true), ((.le (.v 45) (.v 29)), .true), ((.le (.v 69) (.v 70)), .true)] 4 ⟨⟨[(71, (.v 71)), (70, (.v 70)), (69, (.v 69)), (61, (.op .add (.v 61) (.c 1)))], []⟩, [(1, 1)], [], []⟩ [] (shT lHoldsH_T4 ⟨⟨[(71, (.v 71)), (70, (.v 70)), (69, (.v 69)), (61, (.op .add (.v 61) (.c 1)))], []⟩, [(1, 1)], [], []⟩)), (.cut [((.ap 20 (.v 71) (.v 69) (.c 0) (.c 0) (.c 0) (.c 0)), .false), ((.eq (.op .tmod (.ap 3 (.v 0) (.v 61) (.c 1) (.c 0) (.c 0) (.c 0)) (.c 2)) (.c 0)), .false), ((.lt (.v 61) (.v 1)), .true), ((.lt (.v 37) (.v 45)), .false), ((.lt (.c 0) (.c 1)), .true), ((.ap 24 (.ap 23 (.c 0) (.c 0) (.c 0) (.ap 3 (.v 0) (.v 28) (.c 0) (.c 0) (.c 0) (.c 0)) (.ap 3 (.v 0) (.v 28) (.c 1) (.c 0) (.c 0) (.c 0)) (.ap 3 (.v 0) (.v 28) (.c 2) (.c 0) (.c 0) (.c 0))) (.c 1) (.ap 3 (.v 0) (.v 28) (.c 0) (.c 0) (.c 0) (.c 0)) (.ap 3 (.v 0) (.v 28) (.c 1) (.c 0) (.c 0) (.c 0)) (.c 0) (.c 0)), .true), ((.ap 20 (.ap 23 (.c 0) (.c 0) (.c 0) (.ap 3 (.v 0) (.v 28) (.c 0) (.c 0) (.c 0) (.c 0)) (.ap 3 (.v 0) (.v 28) (.c 1) (.c 0) (.c 0) (.c 0)) (.ap 3 (.v 0) (.v 28) (.c 2) (.c 0) (.c 0) (.c 0))) (.c 1) (.c 0) (.c 0) (.c 0) (.c 0)), .true), ((.ap 23 (.ap 3 (.v 0) (.v 28) (.c 0) (.c 0) (.c 0) (.c 0)) (.ap 3 (.v 0) (.v 28) (.c 1) (.c 0) (.c 0) (.c 0)) (.ap 3 (.v 0) (.v 28) (.c 2) (.c 0) (.c 0) (.c 0)) (.c 0) (.c 0) (.c 0)), .true), ((.eq (.op .tmod (.ap 3 (.v 0) (.v 28) (.c 1) (.c 0) (.c 0) (.c 0)) (.c 2)) (.c 0)), .true), ((.lt (.v 28) (.v 1)), .true), ((.lt (.c 60) (.v 1)), .false), ((.le (.v 1) (.v 3)), .true), ((.le (.c 0) (.v 3)), .true), ((.le (.v 45) (.v 29)), .true), ((.le (.v 69) (.v 70)), .true)] 4 ⟨⟨[(71, (.v 71)), (70, (.v 70)), (69, (.v 69)), (61, (.op .add (.v 61) (.c 1)))], []⟩, [(1, 1)], [], []⟩ [] (shT lHoldsH_T4 ⟨⟨[(71, (.v 71)), (70, (.v 70)), (69, (.v 69)), (61, (.op .add (.v 61) (.c 1)))], []⟩, [(1, 1)], [], []⟩)), (.fin [((.lt (.v 61) (.v 1)), .false), ((.lt (.v 37) (.v 45)), .false), ((.lt (.c 0) (.c 1)), .true), ((.ap 24 (.ap 23 (.c 0) (.c 0) (.c 0) (.ap 3 (.v 0) (.v 28) (.c 0) (.c 0) (.c 0) (.c 0)) (.ap 3 (.v 0) (.v 28) (.c 1) (.c 0) (.c 0) (.c 0)) (.ap 3 (.v 0) (.v 28) (.c 2) (.c 0) (.c 0) (.c 0))) (.c 1) (.ap 3 (.v 0) (.v 28) (.c 0) (.c 0) (.c 0) (.c 0)) (.ap 3 (.v 0) (.v 28) (.c 1) (.c 0) (.c 0) (.c 0)) (.c 0) (.c 0)), .true), ((.ap 20 (.ap 23 (.c 0) (.c 0) (.c 0) (.ap 3 (.v 0) (.v 28) (.c 0) (.c 0) (.c 0) (.c 0)) (.ap 3 (.v 0) (.v 28) (.c 1) (.c 0) (.c 0) (.c 0)) (.ap 3 (.v 0) (.v 28) (.c 2) (.c 0) (.c 0) (.c 0))) (.c 1) (.c 0) (.c 0) (.c 0) (.c 0)), .true), ((.ap 23 (.ap 3 (.v 0) (.v 28) (.c 0) (.c 0) (.c 0) (.c 0)) (.ap 3 (.v 0) (.v 28) (.c 1) (.c 0) (.c 0) (.c 0)) (.ap 3 (.v 0) (.v 28) (.c 2) (.c 0) (.c 0) (.c 0)) (.c 0) (.c 0) (.c 0)), .true), ((.eq (.op .tmod (.ap 3 (.v 0) (.v 28) (.c 1) (.c 0) (.c 0) (.c 0)) (.c 2)) (.c 0)), .true), ((.lt (.v 28) (.v 1)), .true), ((.lt (.c 60) (.v 1)), .false), ((.le (.v 1) (.v 3)), .true), ((.le (.c 0) (.v 3)), .true), ((.le (.v 45) (.v 29)), .true), ((.le (.v 69) (.v 70)), .true)] 0 ⟨⟨[], []⟩, [], [], []⟩ [] [])]
set_option maxRecDepth 100000 in
theorem lHoldsH_h0 : (ex (ccOf Try.prog BF [58, 84] lHoldsH) ((fun cc => [hEnd0.ent cc, hAdd0.ent cc, hEnd.ent cc, hAdd.ent cc, rSame.ent cc, rSame1.ent cc, hWriter.ent cc, hCheck.ent cc, rFits.ent cc, cWorks.ent cc]) (ccOf Try.prog BF [58, 84] lHoldsH)) (dw (ccOf Try.prog BF [58, 84] lHoldsH) ((fun cc => [hEnd0.ent cc, hAdd0.ent cc, hEnd.ent cc, hAdd.ent cc, rSame.ent cc, rSame1.ent cc, hWriter.ent cc, hCheck.ent cc, rFits.ent cc, cWorks.ent cc]) (ccOf Try.prog BF [58, 84] lHoldsH)) 1000 4) (stopX []) 4000 (tm0 lHoldsH Try.f11 (Try.f11.body.getD .skip)).f (tm0 lHoldsH Try.f11 (Try.f11.body.getD .skip)).fs (tm0 lHoldsH Try.f11 (Try.f11.body.getD .skip)).H).lfs (ccOf Try.prog BF [58, 84] lHoldsH) ((tm0 lHoldsH Try.f11 (Try.f11.body.getD .skip)) :: [lHoldsH_T1, lHoldsH_T2, lHoldsH_T3, lHoldsH_T4]) lHoldsH.os = some lHoldsH_L0 := by kernel_rfl
set_option maxRecDepth 100000 in
theorem lHoldsH_h1 : (ex (ccOf Try.prog BF [58, 84] lHoldsH) ((fun cc => [hEnd0.ent cc, hAdd0.ent cc, hEnd.ent cc, hAdd.ent cc, rSame.ent cc, rSame1.ent cc, hWriter.ent cc, hCheck.ent cc, rFits.ent cc, cWorks.ent cc]) (ccOf Try.prog BF [58, 84] lHoldsH)) (dw (ccOf Try.prog BF [58, 84] lHoldsH) ((fun cc => [hEnd0.ent cc, hAdd0.ent cc, hEnd.ent cc, hAdd.ent cc, rSame.ent cc, rSame1.ent cc, hWriter.ent cc, hCheck.ent cc, rFits.ent cc, cWorks.ent cc]) (ccOf Try.prog BF [58, 84] lHoldsH)) 1000 4) (stopX []) 4000 lHoldsH_T1.f lHoldsH_T1.fs lHoldsH_T1.H).lfs (ccOf Try.prog BF [58, 84] lHoldsH) ((tm0 lHoldsH Try.f11 (Try.f11.body.getD .skip)) :: [lHoldsH_T1, lHoldsH_T2, lHoldsH_T3, lHoldsH_T4]) lHoldsH.os = some lHoldsH_L1 := by kernel_rfl
set_option maxRecDepth 100000 in
theorem lHoldsH_h2 : (ex (ccOf Try.prog BF [58, 84] lHoldsH) ((fun cc => [hEnd0.ent cc, hAdd0.ent cc, hEnd.ent cc, hAdd.ent cc, rSame.ent cc, rSame1.ent cc, hWriter.ent cc, hCheck.ent cc, rFits.ent cc, cWorks.ent cc]) (ccOf Try.prog BF [58, 84] lHoldsH)) (dw (ccOf Try.prog BF [58, 84] lHoldsH) ((fun cc => [hEnd0.ent cc, hAdd0.ent cc, hEnd.ent cc, hAdd.ent cc, rSame.ent cc, rSame1.ent cc, hWriter.ent cc, hCheck.ent cc, rFits.ent cc, cWorks.ent cc]) (ccOf Try.prog BF [58, 84] lHoldsH)) 1000 4) (stopX []) 4000 lHoldsH_T2.f lHoldsH_T2.fs lHoldsH_T2.H).lfs (ccOf Try.prog BF [58, 84] lHoldsH) ((tm0 lHoldsH Try.f11 (Try.f11.body.getD .skip)) :: [lHoldsH_T1, lHoldsH_T2, lHoldsH_T3, lHoldsH_T4]) lHoldsH.os = some lHoldsH_L2 := by kernel_rfl
set_option maxRecDepth 100000 in
theorem lHoldsH_h3 : (ex (ccOf Try.prog BF [58, 84] lHoldsH) ((fun cc => [hEnd0.ent cc, hAdd0.ent cc, hEnd.ent cc, hAdd.ent cc, rSame.ent cc, rSame1.ent cc, hWriter.ent cc, hCheck.ent cc, rFits.ent cc, cWorks.ent cc]) (ccOf Try.prog BF [58, 84] lHoldsH)) (dw (ccOf Try.prog BF [58, 84] lHoldsH) ((fun cc => [hEnd0.ent cc, hAdd0.ent cc, hEnd.ent cc, hAdd.ent cc, rSame.ent cc, rSame1.ent cc, hWriter.ent cc, hCheck.ent cc, rFits.ent cc, cWorks.ent cc]) (ccOf Try.prog BF [58, 84] lHoldsH)) 1000 4) (stopX []) 4000 lHoldsH_T3.f lHoldsH_T3.fs lHoldsH_T3.H).lfs (ccOf Try.prog BF [58, 84] lHoldsH) ((tm0 lHoldsH Try.f11 (Try.f11.body.getD .skip)) :: [lHoldsH_T1, lHoldsH_T2, lHoldsH_T3, lHoldsH_T4]) lHoldsH.os = some lHoldsH_L3 := by kernel_rfl
set_option maxRecDepth 100000 in
theorem lHoldsH_h4 : (ex (ccOf Try.prog BF [58, 84] lHoldsH) ((fun cc => [hEnd0.ent cc, hAdd0.ent cc, hEnd.ent cc, hAdd.ent cc, rSame.ent cc, rSame1.ent cc, hWriter.ent cc, hCheck.ent cc, rFits.ent cc, cWorks.ent cc]) (ccOf Try.prog BF [58, 84] lHoldsH)) (dw (ccOf Try.prog BF [58, 84] lHoldsH) ((fun cc => [hEnd0.ent cc, hAdd0.ent cc, hEnd.ent cc, hAdd.ent cc, rSame.ent cc, rSame1.ent cc, hWriter.ent cc, hCheck.ent cc, rFits.ent cc, cWorks.ent cc]) (ccOf Try.prog BF [58, 84] lHoldsH)) 1000 4) (stopX []) 4000 lHoldsH_T4.f lHoldsH_T4.fs lHoldsH_T4.H).lfs (ccOf Try.prog BF [58, 84] lHoldsH) ((tm0 lHoldsH Try.f11 (Try.f11.body.getD .skip)) :: [lHoldsH_T1, lHoldsH_T2, lHoldsH_T3, lHoldsH_T4]) lHoldsH.os = some lHoldsH_L4 := by kernel_rfl
def lHoldsH_inv : (Nat → Int) → (Nat → Bool) → Nat → (Nat → Int) → (Nat → Bool) → Prop := fun iv0 _ k iv _ => match k with
  | 0 => True
  | 1 => 0 ≤ iv 28 ∧ iv 28 ≤ iv0 1 ∧ iv0 1 ≤ 60
  | 2 => rgtP (iv 47) (iv 45) ∧ 0 ≤ iv 37 ∧ iv 37 ≤ iv 45 ∧ 0 ≤ iv 45 ∧ iv 45 ≤ iv 46 + 1 ∧ 0 ≤ iv 46 ∧ iv 46 < iv0 1 ∧ iv0 1 ≤ 60 ∧ iv 45 ≤ iv 29
  | 3 => rgtP (iv 47) (iv 45) ∧ 0 ≤ iv 37 ∧ iv 37 < iv 45 ∧ 0 ≤ iv 45 ∧ iv 45 ≤ iv 46 + 1 ∧ 0 ≤ iv 46 ∧ iv 46 < iv0 1 ∧ iv0 1 ≤ 60 ∧ iv 45 ≤ iv 29 ∧ 0 ≤ iv 54 ∧ iv 54 ≤ iv 37
  | _ => rgtP (iv 71) (iv 69) ∧ 0 ≤ iv 69 ∧ iv 69 ≤ iv 61 ∧ 0 ≤ iv 61 ∧ iv 61 ≤ iv0 1 ∧ iv0 1 ≤ 60 ∧ iv 69 ≤ iv 70
def lHoldsH_mu : (Nat → Int) → (Nat → Bool) → Nat → (Nat → Int) → (Nat → Bool) → Nat := fun iv0 _ k iv _ => match k with
  | 0 => 2 ^ 200
  | 1 => 2 ^ 150 + (iv0 1 - iv 28).toNat
  | 2 => (iv0 1 - iv 46).toNat * 2 ^ 100 + (iv 45 - iv 37).toNat * 2 ^ 40 + 2 ^ 39
  | 3 => (iv0 1 - iv 46).toNat * 2 ^ 100 + (iv 45 - iv 37).toNat * 2 ^ 40 + (iv 37 - iv 54).toNat
  | _ => (iv0 1 - iv 61).toNat * 2 ^ 100 + 2 ^ 95
set_option maxHeartbeats 0 in
theorem lHoldsH_o0 (kv : Kv) (iv0 : Nat → Int) (bv0 : Nat → Bool) (hin : InB lHoldsH.B iv0) (hF : FT (sta FI FB kv iv0 bv0) (dlt dyn0) lHoldsH.F) (iv : Nat → Int) (bv : Nat → Bool) (ha : Agr 4 iv0 bv0 iv bv) (hi : lHoldsH_inv iv0 bv0 0 iv bv) :
    ∀ lf ∈ lHoldsH_L0, LfT (sta FI FB kv) lHoldsH.os (lHoldsH_inv iv0 bv0) (lHoldsH_mu iv0 bv0) 0 iv bv lf := by
  unfold lHoldsH_L0
  refine List.forall_mem_cons.2 ⟨?_, List.forall_mem_cons.2 ⟨?_, List.forall_mem_nil _⟩⟩
  all_goals
    intro δ hf
  all_goals
    simp only [FT, TP, SB.tp, SI.tv, sta, IB.eval, and_true, true_and, ObsT, Ob.Tv, rowT, kix, In.tiv, ↓tbvT, In.tbv, get_cons, get_nil, reduceIte, Nat.reduceEqDiff, Int.reduceToNat, Int.reduceAdd, Int.reduceSub, Int.reduceLE, Int.reduceLT, Int.reduceEq, ne_eq, Bool.false_eq_true, not_true_eq_false, not_false_eq_true, true_iff, false_iff, iff_true, iff_false, false_implies, implies_true, decT, decide_true, decide_false, Bool.decide_eq_true, ap2, pb2, FI_3, FI_8, FI_9, FI_10, FI_11, FI_12, FI_13, FB_10, FB_11, FB_12, FB_13, FB_14, FB_15, FB_16, FI_20, FI_21, FI_22, FI_23, FI_24, FI_25, FI_26, FB_20, FB_21, FB_22, FB_23, FB_24, FB_25, FB_26, FB_27, FI_27, Int.toNat_natCast, Int.toNat_zero] at hf
  all_goals
    have a0 := ha.1 0 (by omega)
    have a1 := ha.1 1 (by omega)
    have a2 := ha.1 2 (by omega)
    have a3 := ha.1 3 (by omega)
  all_goals
    have b1 := hin 1 0 9223372036854775807 (by simp [lHoldsH, bH, gH, fM, lH, nw, ap3, i64b, kH, ap3, pb3, pb4, i64l, bL4, hV, pMay])
    simp only [Int.reduceLE, reduceIte, Int.reduceNeg] at b1
  all_goals
    simp only [FT, TP, SB.tp, SI.tv, sta, IB.eval, and_true, true_and, ObsT, Ob.Tv, rowT, kix, In.tiv, ↓tbvT, In.tbv, get_cons, get_nil, reduceIte, Nat.reduceEqDiff, Int.reduceToNat, Int.reduceAdd, Int.reduceSub, Int.reduceLE, Int.reduceLT, Int.reduceEq, ne_eq, Bool.false_eq_true, not_true_eq_false, not_false_eq_true, true_iff, false_iff, iff_true, iff_false, false_implies, implies_true, decT, decide_true, decide_false, Bool.decide_eq_true, ap2, pb2, FI_3, FI_8, FI_9, FI_10, FI_11, FI_12, FI_13, FB_10, FB_11, FB_12, FB_13, FB_14, FB_15, FB_16, FI_20, FI_21, FI_22, FI_23, FI_24, FI_25, FI_26, FB_20, FB_21, FB_22, FB_23, FB_24, FB_25, FB_26, FB_27, FI_27, Int.toNat_natCast, Int.toNat_zero, lHoldsH_inv, lHoldsH_mu, lHoldsH, o1, othT, bH, gH, fM, lH, nw, ap3, i64b, kH, ap3, pb3, pb4, i64l, bL4, hV, pMay, a0, a1, a2, a3] at hf hi ⊢
  all_goals
    (repeat' (with_reducible apply And.intro)) <;> first
    | omega
    | assumption
    | (unfold inM; omega)
    | (clear hin hF ha; grind)
set_option maxHeartbeats 0 in
theorem lHoldsH_o1 (kv : Kv) (iv0 : Nat → Int) (bv0 : Nat → Bool) (hin : InB lHoldsH.B iv0) (hF : FT (sta FI FB kv iv0 bv0) (dlt dyn0) lHoldsH.F) (iv : Nat → Int) (bv : Nat → Bool) (ha : Agr 4 iv0 bv0 iv bv) (hi : lHoldsH_inv iv0 bv0 1 iv bv) :
    ∀ lf ∈ lHoldsH_L1, LfT (sta FI FB kv) lHoldsH.os (lHoldsH_inv iv0 bv0) (lHoldsH_mu iv0 bv0) 1 iv bv lf := by
  unfold lHoldsH_L1
  refine List.forall_mem_cons.2 ⟨?_, List.forall_mem_cons.2 ⟨?_, List.forall_mem_cons.2 ⟨?_, List.forall_mem_cons.2 ⟨?_, List.forall_mem_cons.2 ⟨?_, List.forall_mem_cons.2 ⟨?_, List.forall_mem_cons.2 ⟨?_, List.forall_mem_nil _⟩⟩⟩⟩⟩⟩⟩
  all_goals
    intro δ hf
  all_goals
    simp only [FT, TP, SB.tp, SI.tv, sta, IB.eval, and_true, true_and, ObsT, Ob.Tv, rowT, kix, In.tiv, ↓tbvT, In.tbv, get_cons, get_nil, reduceIte, Nat.reduceEqDiff, Int.reduceToNat, Int.reduceAdd, Int.reduceSub, Int.reduceLE, Int.reduceLT, Int.reduceEq, ne_eq, Bool.false_eq_true, not_true_eq_false, not_false_eq_true, true_iff, false_iff, iff_true, iff_false, false_implies, implies_true, decT, decide_true, decide_false, Bool.decide_eq_true, ap2, pb2, FI_3, FI_8, FI_9, FI_10, FI_11, FI_12, FI_13, FB_10, FB_11, FB_12, FB_13, FB_14, FB_15, FB_16, FI_20, FI_21, FI_22, FI_23, FI_24, FI_25, FI_26, FB_20, FB_21, FB_22, FB_23, FB_24, FB_25, FB_26, FB_27, FI_27, Int.toNat_natCast, Int.toNat_zero] at hf
  all_goals
    have a0 := ha.1 0 (by omega)
    have a1 := ha.1 1 (by omega)
    have a2 := ha.1 2 (by omega)
    have a3 := ha.1 3 (by omega)
  all_goals
    have b1 := hin 1 0 9223372036854775807 (by simp [lHoldsH, bH, gH, fM, lH, nw, ap3, i64b, kH, ap3, pb3, pb4, i64l, bL4, hV, pMay])
    simp only [Int.reduceLE, reduceIte, Int.reduceNeg] at b1
  all_goals
    simp only [FT, TP, SB.tp, SI.tv, sta, IB.eval, and_true, true_and, ObsT, Ob.Tv, rowT, kix, In.tiv, ↓tbvT, In.tbv, get_cons, get_nil, reduceIte, Nat.reduceEqDiff, Int.reduceToNat, Int.reduceAdd, Int.reduceSub, Int.reduceLE, Int.reduceLT, Int.reduceEq, ne_eq, Bool.false_eq_true, not_true_eq_false, not_false_eq_true, true_iff, false_iff, iff_true, iff_false, false_implies, implies_true, decT, decide_true, decide_false, Bool.decide_eq_true, ap2, pb2, FI_3, FI_8, FI_9, FI_10, FI_11, FI_12, FI_13, FB_10, FB_11, FB_12, FB_13, FB_14, FB_15, FB_16, FI_20, FI_21, FI_22, FI_23, FI_24, FI_25, FI_26, FB_20, FB_21, FB_22, FB_23, FB_24, FB_25, FB_26, FB_27, FI_27, Int.toNat_natCast, Int.toNat_zero, lHoldsH_inv, lHoldsH_mu, lHoldsH, o1, othT, bH, gH, fM, lH, nw, ap3, i64b, kH, ap3, pb3, pb4, i64l, bL4, hV, pMay, a0, a1, a2, a3] at hf hi ⊢
  all_goals
    have r0 := fl_rng (iv0 0) (iv 28).toNat 0
    have r1 := fl_rng (iv0 0) (iv 28).toNat 1
    have r2 := fl_rng (iv0 0) (iv 28).toNat 2
    have hA := fun h => @add_all0 (fl (iv0 0) (iv 28).toNat 0) (fl (iv0 0) (iv 28).toNat 1) (fl (iv0 0) (iv 28).toNat 2) h r0 r1 r2
  all_goals
    (repeat' (with_reducible apply And.intro)) <;> first
    | omega
    | assumption
    | (unfold inM; omega)
    | exact trivial
    | (clear hin hF ha; grind)
set_option maxHeartbeats 0 in
theorem lHoldsH_o2 (kv : Kv) (iv0 : Nat → Int) (bv0 : Nat → Bool) (hin : InB lHoldsH.B iv0) (hF : FT (sta FI FB kv iv0 bv0) (dlt dyn0) lHoldsH.F) (iv : Nat → Int) (bv : Nat → Bool) (ha : Agr 4 iv0 bv0 iv bv) (hi : lHoldsH_inv iv0 bv0 2 iv bv) :
    ∀ lf ∈ lHoldsH_L2, LfT (sta FI FB kv) lHoldsH.os (lHoldsH_inv iv0 bv0) (lHoldsH_mu iv0 bv0) 2 iv bv lf := by
  unfold lHoldsH_L2
  refine List.forall_mem_cons.2 ⟨?_, List.forall_mem_cons.2 ⟨?_, List.forall_mem_nil _⟩⟩
  all_goals
    intro δ hf
  all_goals
    simp only [FT, TP, SB.tp, SI.tv, sta, IB.eval, and_true, true_and, ObsT, Ob.Tv, rowT, kix, In.tiv, ↓tbvT, In.tbv, get_cons, get_nil, reduceIte, Nat.reduceEqDiff, Int.reduceToNat, Int.reduceAdd, Int.reduceSub, Int.reduceLE, Int.reduceLT, Int.reduceEq, ne_eq, Bool.false_eq_true, not_true_eq_false, not_false_eq_true, true_iff, false_iff, iff_true, iff_false, false_implies, implies_true, decT, decide_true, decide_false, Bool.decide_eq_true, ap2, pb2, FI_3, FI_8, FI_9, FI_10, FI_11, FI_12, FI_13, FB_10, FB_11, FB_12, FB_13, FB_14, FB_15, FB_16, FI_20, FI_21, FI_22, FI_23, FI_24, FI_25, FI_26, FB_20, FB_21, FB_22, FB_23, FB_24, FB_25, FB_26, FB_27, FI_27, Int.toNat_natCast, Int.toNat_zero] at hf
  all_goals
    have a0 := ha.1 0 (by omega)
    have a1 := ha.1 1 (by omega)
    have a2 := ha.1 2 (by omega)
    have a3 := ha.1 3 (by omega)
  all_goals
    have b1 := hin 1 0 9223372036854775807 (by simp [lHoldsH, bH, gH, fM, lH, nw, ap3, i64b, kH, ap3, pb3, pb4, i64l, bL4, hV, pMay])
    simp only [Int.reduceLE, reduceIte, Int.reduceNeg] at b1
  all_goals
    simp only [FT, TP, SB.tp, SI.tv, sta, IB.eval, and_true, true_and, ObsT, Ob.Tv, rowT, kix, In.tiv, ↓tbvT, In.tbv, get_cons, get_nil, reduceIte, Nat.reduceEqDiff, Int.reduceToNat, Int.reduceAdd, Int.reduceSub, Int.reduceLE, Int.reduceLT, Int.reduceEq, ne_eq, Bool.false_eq_true, not_true_eq_false, not_false_eq_true, true_iff, false_iff, iff_true, iff_false, false_implies, implies_true, decT, decide_true, decide_false, Bool.decide_eq_true, ap2, pb2, FI_3, FI_8, FI_9, FI_10, FI_11, FI_12, FI_13, FB_10, FB_11, FB_12, FB_13, FB_14, FB_15, FB_16, FI_20, FI_21, FI_22, FI_23, FI_24, FI_25, FI_26, FB_20, FB_21, FB_22, FB_23, FB_24, FB_25, FB_26, FB_27, FI_27, Int.toNat_natCast, Int.toNat_zero, lHoldsH_inv, lHoldsH_mu, lHoldsH, o1, othT, bH, gH, fM, lH, nw, ap3, i64b, kH, ap3, pb3, pb4, i64l, bL4, hV, pMay, a0, a1, a2, a3] at hf hi ⊢
  all_goals
    (repeat' (with_reducible apply And.intro)) <;> first
    | omega
    | assumption
    | (unfold inM; omega)
    | exact trivial
    | (clear hin hF ha; grind)
set_option maxHeartbeats 0 in
theorem lHoldsH_o3 (kv : Kv) (iv0 : Nat → Int) (bv0 : Nat → Bool) (hin : InB lHoldsH.B iv0) (hF : FT (sta FI FB kv iv0 bv0) (dlt dyn0) lHoldsH.F) (iv : Nat → Int) (bv : Nat → Bool) (ha : Agr 4 iv0 bv0 iv bv) (hi : lHoldsH_inv iv0 bv0 3 iv bv) :
    ∀ lf ∈ lHoldsH_L3, LfT (sta FI FB kv) lHoldsH.os (lHoldsH_inv iv0 bv0) (lHoldsH_mu iv0 bv0) 3 iv bv lf := by
  unfold lHoldsH_L3
  refine List.forall_mem_cons.2 ⟨?_, List.forall_mem_cons.2 ⟨?_, List.forall_mem_cons.2 ⟨?_, List.forall_mem_nil _⟩⟩⟩
  all_goals
    intro δ hf
  all_goals
    simp only [FT, TP, SB.tp, SI.tv, sta, IB.eval, and_true, true_and, ObsT, Ob.Tv, rowT, kix, In.tiv, ↓tbvT, In.tbv, get_cons, get_nil, reduceIte, Nat.reduceEqDiff, Int.reduceToNat, Int.reduceAdd, Int.reduceSub, Int.reduceLE, Int.reduceLT, Int.reduceEq, ne_eq, Bool.false_eq_true, not_true_eq_false, not_false_eq_true, true_iff, false_iff, iff_true, iff_false, false_implies, implies_true, decT, decide_true, decide_false, Bool.decide_eq_true, ap2, pb2, FI_3, FI_8, FI_9, FI_10, FI_11, FI_12, FI_13, FB_10, FB_11, FB_12, FB_13, FB_14, FB_15, FB_16, FI_20, FI_21, FI_22, FI_23, FI_24, FI_25, FI_26, FB_20, FB_21, FB_22, FB_23, FB_24, FB_25, FB_26, FB_27, FI_27, Int.toNat_natCast, Int.toNat_zero] at hf
  all_goals
    have a0 := ha.1 0 (by omega)
    have a1 := ha.1 1 (by omega)
    have a2 := ha.1 2 (by omega)
    have a3 := ha.1 3 (by omega)
  all_goals
    have b1 := hin 1 0 9223372036854775807 (by simp [lHoldsH, bH, gH, fM, lH, nw, ap3, i64b, kH, ap3, pb3, pb4, i64l, bL4, hV, pMay])
    simp only [Int.reduceLE, reduceIte, Int.reduceNeg] at b1
  all_goals
    simp only [FT, TP, SB.tp, SI.tv, sta, IB.eval, and_true, true_and, ObsT, Ob.Tv, rowT, kix, In.tiv, ↓tbvT, In.tbv, get_cons, get_nil, reduceIte, Nat.reduceEqDiff, Int.reduceToNat, Int.reduceAdd, Int.reduceSub, Int.reduceLE, Int.reduceLT, Int.reduceEq, ne_eq, Bool.false_eq_true, not_true_eq_false, not_false_eq_true, true_iff, false_iff, iff_true, iff_false, false_implies, implies_true, decT, decide_true, decide_false, Bool.decide_eq_true, ap2, pb2, FI_3, FI_8, FI_9, FI_10, FI_11, FI_12, FI_13, FB_10, FB_11, FB_12, FB_13, FB_14, FB_15, FB_16, FI_20, FI_21, FI_22, FI_23, FI_24, FI_25, FI_26, FB_20, FB_21, FB_22, FB_23, FB_24, FB_25, FB_26, FB_27, FI_27, Int.toNat_natCast, Int.toNat_zero, lHoldsH_inv, lHoldsH_mu, lHoldsH, o1, othT, bH, gH, fM, lH, nw, ap3, i64b, kH, ap3, pb3, pb4, i64l, bL4, hV, pMay, a0, a1, a2, a3] at hf hi ⊢
  all_goals
    have hp := fun hb hab ha => @rgt_pair (iv 47) (iv 45) hi.1 (iv 37) (iv 54) hb hab ha
  all_goals
    (repeat' (with_reducible apply And.intro)) <;> first
    | omega
    | assumption
    | (unfold inM; omega)
    | exact trivial
    | (clear hin hF ha; grind)
set_option maxHeartbeats 0 in
theorem lHoldsH_o4 (kv : Kv) (iv0 : Nat → Int) (bv0 : Nat → Bool) (hin : InB lHoldsH.B iv0) (hF : FT (sta FI FB kv iv0 bv0) (dlt dyn0) lHoldsH.F) (iv : Nat → Int) (bv : Nat → Bool) (ha : Agr 4 iv0 bv0 iv bv) (hi : lHoldsH_inv iv0 bv0 4 iv bv) :
    ∀ lf ∈ lHoldsH_L4, LfT (sta FI FB kv) lHoldsH.os (lHoldsH_inv iv0 bv0) (lHoldsH_mu iv0 bv0) 4 iv bv lf := by
  unfold lHoldsH_L4
  refine List.forall_mem_cons.2 ⟨?_, List.forall_mem_cons.2 ⟨?_, List.forall_mem_cons.2 ⟨?_, List.forall_mem_cons.2 ⟨?_, List.forall_mem_cons.2 ⟨?_, List.forall_mem_cons.2 ⟨?_, List.forall_mem_cons.2 ⟨?_, List.forall_mem_cons.2 ⟨?_, List.forall_mem_cons.2 ⟨?_, List.forall_mem_cons.2 ⟨?_, List.forall_mem_cons.2 ⟨?_, List.forall_mem_nil _⟩⟩⟩⟩⟩⟩⟩⟩⟩⟩⟩
  all_goals
    intro δ hf
  all_goals
    simp only [FT, TP, SB.tp, SI.tv, sta, IB.eval, and_true, true_and, ObsT, Ob.Tv, rowT, kix, In.tiv, ↓tbvT, In.tbv, get_cons, get_nil, reduceIte, Nat.reduceEqDiff, Int.reduceToNat, Int.reduceAdd, Int.reduceSub, Int.reduceLE, Int.reduceLT, Int.reduceEq, ne_eq, Bool.false_eq_true, not_true_eq_false, not_false_eq_true, true_iff, false_iff, iff_true, iff_false, false_implies, implies_true, decT, decide_true, decide_false, Bool.decide_eq_true, ap2, pb2, FI_3, FI_8, FI_9, FI_10, FI_11, FI_12, FI_13, FB_10, FB_11, FB_12, FB_13, FB_14, FB_15, FB_16, FI_20, FI_21, FI_22, FI_23, FI_24, FI_25, FI_26, FB_20, FB_21, FB_22, FB_23, FB_24, FB_25, FB_26, FB_27, FI_27, Int.toNat_natCast, Int.toNat_zero] at hf
  all_goals
    have a0 := ha.1 0 (by omega)
    have a1 := ha.1 1 (by omega)
    have a2 := ha.1 2 (by omega)
    have a3 := ha.1 3 (by omega)
  all_goals
    have b1 := hin 1 0 9223372036854775807 (by simp [lHoldsH, bH, gH, fM, lH, nw, ap3, i64b, kH, ap3, pb3, pb4, i64l, bL4, hV, pMay])
    simp only [Int.reduceLE, reduceIte, Int.reduceNeg] at b1
  all_goals
    simp only [FT, TP, SB.tp, SI.tv, sta, IB.eval, and_true, true_and, ObsT, Ob.Tv, rowT, kix, In.tiv, ↓tbvT, In.tbv, get_cons, get_nil, reduceIte, Nat.reduceEqDiff, Int.reduceToNat, Int.reduceAdd, Int.reduceSub, Int.reduceLE, Int.reduceLT, Int.reduceEq, ne_eq, Bool.false_eq_true, not_true_eq_false, not_false_eq_true, true_iff, false_iff, iff_true, iff_false, false_implies, implies_true, decT, decide_true, decide_false, Bool.decide_eq_true, ap2, pb2, FI_3, FI_8, FI_9, FI_10, FI_11, FI_12, FI_13, FB_10, FB_11, FB_12, FB_13, FB_14, FB_15, FB_16, FI_20, FI_21, FI_22, FI_23, FI_24, FI_25, FI_26, FB_20, FB_21, FB_22, FB_23, FB_24, FB_25, FB_26, FB_27, FI_27, Int.toNat_natCast, Int.toNat_zero, lHoldsH_inv, lHoldsH_mu, lHoldsH, o1, othT, bH, gH, fM, lH, nw, ap3, i64b, kH, ap3, pb3, pb4, i64l, bL4, hV, pMay, a0, a1, a2, a3] at hf hi ⊢
  all_goals
    have r0 := fl_rng (iv0 0) (iv 61).toNat 0
    have r1 := fl_rng (iv0 0) (iv 61).toNat 1
    have r2 := fl_rng (iv0 0) (iv 61).toNat 2
    have hA := fun h => @add_all (iv 71) (iv 69) (fl (iv0 0) (iv 61).toNat 0) (fl (iv0 0) (iv 61).toNat 1) (fl (iv0 0) (iv 61).toNat 2) h (by omega) (by omega) r0 r1 r2
    have hE := fun (h : endP (iv 71) (iv 69) (fl (iv0 0) (iv 61).toNat 0) (fl (iv0 0) (iv 61).toNat 1)) => @del_rgt (iv 71) (iv 69) (fndC (iv 71) (iv 69) (fl (iv0 0) (iv 61).toNat 0)) hi.1 h.1 (fnd_lt h.1)
    have hW := fun (h : rgtP (insC (iv 71) (iv 69) (posC (iv 71) (iv 69) (fl (iv0 0) (iv 61).toNat 0)) (fl (iv0 0) (iv 61).toNat 0) (fl (iv0 0) (iv 61).toNat 1) (fl (iv0 0) (iv 61).toNat 2)) (iv 69 + 1)) (hw : wrP (insC (iv 71) (iv 69) (posC (iv 71) (iv 69) (fl (iv0 0) (iv 61).toNat 0)) (fl (iv0 0) (iv 61).toNat 0) (fl (iv0 0) (iv 61).toNat 1) (fl (iv0 0) (iv 61).toNat 2)) (iv 69 + 1)) => wr_one h hw.2
  all_goals
    (repeat' (with_reducible apply And.intro)) <;> first
    | omega
    | assumption
    | (unfold inM; omega)
    | exact trivial
    | (clear hin hF ha; grind)
set_option maxRecDepth 100000 in
theorem lHoldsH_c : LsC ((tm0 lHoldsH Try.f11 (Try.f11.body.getD .skip)) :: [lHoldsH_T1, lHoldsH_T2, lHoldsH_T3, lHoldsH_T4]) lHoldsH.os [lHoldsH_L0, lHoldsH_L1, lHoldsH_L2, lHoldsH_L3, lHoldsH_L4] := by
  unfold lHoldsH_L0 lHoldsH_L1 lHoldsH_L2 lHoldsH_L3 lHoldsH_L4
  exact ⟨List.forall_mem_cons.2 ⟨⟨⟨_, rfl, rfl⟩, by kernel_rfl⟩, List.forall_mem_cons.2 ⟨⟨⟨_, rfl, rfl⟩, by kernel_rfl⟩, List.forall_mem_nil _⟩⟩, List.forall_mem_cons.2 ⟨⟨⟨_, rfl, rfl⟩, by kernel_rfl⟩, List.forall_mem_cons.2 ⟨⟨⟨_, rfl, rfl⟩, by kernel_rfl⟩, List.forall_mem_cons.2 ⟨⟨⟨_, rfl, rfl⟩, by kernel_rfl⟩, List.forall_mem_cons.2 ⟨⟨⟨_, rfl, rfl⟩, by kernel_rfl⟩, List.forall_mem_cons.2 ⟨⟨⟨_, rfl, rfl⟩, by kernel_rfl⟩, List.forall_mem_cons.2 ⟨⟨⟨_, rfl, rfl⟩, by kernel_rfl⟩, List.forall_mem_cons.2 ⟨⟨⟨_, rfl, rfl⟩, by kernel_rfl⟩, List.forall_mem_nil _⟩⟩⟩⟩⟩⟩⟩, List.forall_mem_cons.2 ⟨⟨⟨_, rfl, rfl⟩, by kernel_rfl⟩, List.forall_mem_cons.2 ⟨⟨⟨_, rfl, rfl⟩, by kernel_rfl⟩, List.forall_mem_nil _⟩⟩, List.forall_mem_cons.2 ⟨⟨⟨_, rfl, rfl⟩, by kernel_rfl⟩, List.forall_mem_cons.2 ⟨⟨⟨_, rfl, rfl⟩, by kernel_rfl⟩, List.forall_mem_cons.2 ⟨⟨⟨_, rfl, rfl⟩, by kernel_rfl⟩, List.forall_mem_nil _⟩⟩⟩, List.forall_mem_cons.2 ⟨⟨⟨_, rfl, rfl⟩, by kernel_rfl⟩, List.forall_mem_cons.2 ⟨⟨⟨_, rfl, rfl⟩, by kernel_rfl⟩, List.forall_mem_cons.2 ⟨⟨⟨_, rfl, rfl⟩, by kernel_rfl⟩, List.forall_mem_cons.2 ⟨⟨⟨_, rfl, rfl⟩, by kernel_rfl⟩, List.forall_mem_cons.2 ⟨⟨⟨_, rfl, rfl⟩, by kernel_rfl⟩, List.forall_mem_cons.2 ⟨⟨⟨_, rfl, rfl⟩, by kernel_rfl⟩, List.forall_mem_cons.2 ⟨⟨⟨_, rfl, rfl⟩, by kernel_rfl⟩, List.forall_mem_cons.2 ⟨⟨⟨_, rfl, rfl⟩, by kernel_rfl⟩, List.forall_mem_cons.2 ⟨⟨⟨_, rfl, rfl⟩, by kernel_rfl⟩, List.forall_mem_cons.2 ⟨⟨⟨_, rfl, rfl⟩, by kernel_rfl⟩, List.forall_mem_cons.2 ⟨⟨⟨_, rfl, rfl⟩, by kernel_rfl⟩, List.forall_mem_nil _⟩⟩⟩⟩⟩⟩⟩⟩⟩⟩⟩, trivial⟩
theorem lHoldsH_ok : lHoldsH.Ok Try.prog FI FB :=
  Con.of_plain (body := Try.f11.body.getD .skip) pok fiok (EntsFor.cons hEnd0_ok (EntsFor.cons hAdd0_ok (EntsFor.cons hEnd_ok (EntsFor.cons hAdd_ok (EntsFor.cons rSame_ok (EntsFor.cons rSame1_ok (EntsFor.cons hWriter_ok (EntsFor.cons hCheck_ok (EntsFor.cons rFits_ok (EntsFor.cons cWorks_ok EntsFor.nil)))))))))) lHoldsH Try.func11 (by kernel_rfl) 4 [lHoldsH_T1, lHoldsH_T2, lHoldsH_T3, lHoldsH_T4] (by kernel_rfl) [lHoldsH_L0, lHoldsH_L1, lHoldsH_L2, lHoldsH_L3, lHoldsH_L4] ⟨lHoldsH_h0, lHoldsH_h1, lHoldsH_h2, lHoldsH_h3, lHoldsH_h4, trivial⟩ lHoldsH_c
    lHoldsH_inv lHoldsH_mu (fun _ _ _ => trivial) fun kv iv0 bv0 hin hF k l iv bv hk ha hi => match k, hk, hi with
    | 0, hk, hi => by
      cases hk
      exact lHoldsH_o0 kv iv0 bv0 hin hF iv bv ha hi
    | 1, hk, hi => by
      cases hk
      exact lHoldsH_o1 kv iv0 bv0 hin hF iv bv ha hi
    | 2, hk, hi => by
      cases hk
      exact lHoldsH_o2 kv iv0 bv0 hin hF iv bv ha hi
    | 3, hk, hi => by
      cases hk
      exact lHoldsH_o3 kv iv0 bv0 hin hF iv bv ha hi
    | 4, hk, hi => by
      cases hk
      exact lHoldsH_o4 kv iv0 bv0 hin hF iv bv ha hi
    | k + 5, hk, _ => by simp at hk
end Go.Sx.Mhw
