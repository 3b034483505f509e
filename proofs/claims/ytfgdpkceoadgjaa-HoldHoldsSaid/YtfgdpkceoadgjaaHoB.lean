/- Holds: the functions, by contract (5): Add. -/
import Derived.Test.YtfgdpkceoadgjaaHoG
namespace Go.Sx.Mhw
set_option linter.unusedVariables false
set_option linter.unusedSimpArgs false
open Go Go.Sx Go.Proofs
noncomputable def bA : List (Nat × Int × Int) := i64b 4 :: i64b 5 :: i64b 6 :: bH
noncomputable def ap6 (f : Nat) (x : SI) : SI := .ap f (.v 0) (.v 1) x (.v 4) (.v 5) (.v 6)
noncomputable def apA : SI := .ap 27 (.v 0) (.v 1) (.v 4) (.v 5) (.v 6) (.c 0)
noncomputable def hV : SV := .ag [.it .i64 (.v 4), .it .i64 (.v 5), .it .i64 (.v 6)]
noncomputable def oAdd : List Out := [⟨[(.eq apA (.c 0), true)], .tp [.sl (.n 0) (.c 0) (.op .add (.v 1) (.c 1)) (.d 0), .it .i64 (.c 0)], [(0, .arr kH (ap6 23 (ap3 24 (.v 4))) (.op .add (.v 1) (.c 1)) 58 (.d 0))], 1, 1, [(.le (.op .add (.v 1) (.c 1)) (.d 0), true)]⟩,
  ⟨[(.eq apA (.c 0), false)], .tp [.sn, .it .i64 apA], [], 0, 0, [(.eq apA (.c 0), false)]⟩]
noncomputable def hAdd : Con := ⟨56, [0, 1, 2, 3, 4, 5, 6], [lH, hV], gH, bA, fM, oAdd⟩
noncomputable def rAdd : Con := ⟨57, [0, 1, 2, 3, 4, 5, 6], [lH, hV], gH, bA, fM, oAdd⟩
theorem pos_at {c n s k : Int} (h0 : 0 ≤ k) (hk : k ≤ n) (hn : n ≤ 4096) (h : ∀ j : Nat, (j : Int) < k → fl c j 0 < s) (hp : k < n → s ≤ fl c k.toNat 0) : posC c n s = k := by
  rw [posC_eq (by omega) hn]
  by_cases e : k < n
  · have : fstI (fun j => s ≤ fl c j 0) n = k := fstI_some h0 e (hp e) fun j hj hh => by have := h j hj; omega
    rw [this, if_neg (by omega)]
  · have : fstI (fun j => s ≤ fl c j 0) n = -1 := fstI_none fun j hj hh => by have := h j (by omega); omega
    rw [this, if_pos rfl]; omega
theorem rgt_mono {c n : Int} (h : rgtP c n) {j i : Nat} (hi : (i : Int) < n) (hj : j ≤ i) : fl c j 0 ≤ fl c i 0 := by
  induction i with
  | zero => have : j = 0 := by omega
            subst this; exact Int.le_refl _
  | succ i ih =>
    by_cases e : j = i + 1
    · subst e; exact Int.le_refl _
    · have h1 := ih (by omega) (by omega)
      have h2 := (h.1 (i + 1) (by omega)).2 (by omega)
      have e2 : i + 1 - 1 = i := by omega
      rw [e2] at h2; omega
theorem lo_step {c n s k : Int} (h : rgtP c n) (h0 : 0 ≤ k) (hk : k < n) (hl : fl c k.toNat 0 < s) : ∀ j : Nat, (j : Int) < k + 1 → fl c j 0 < s := fun j hj => by
  have := rgt_mono h (j := j) (i := k.toNat) (by omega) (by omega); omega
theorem fl_ins0 {c n a s u m : Int} {j : Nat} (hj : (j : Int) < n + 1) (hs : -9223372036854775808 ≤ s ∧ s ≤ 9223372036854775807) (hu : -9223372036854775808 ≤ u ∧ u ≤ 9223372036854775807) (hm : -9223372036854775808 ≤ m ∧ m ≤ 9223372036854775807) :
    (fl (insC c n a s u m) j 0 = if (j : Int) < a then fl c j 0 else if (j : Int) = a then s else fl c (j - 1) 0) ∧ (fl (insC c n a s u m) j 1 = if (j : Int) < a then fl c j 1 else if (j : Int) = a then u else fl c (j - 1) 1) ∧ (fl (insC c n a s u m) j 2 = if (j : Int) < a then fl c j 2 else if (j : Int) = a then m else fl c (j - 1) 2) := by
  have h : ∀ x, x = s ∨ x = u ∨ x = m → kmin .i64 ≤ x ∧ x ≤ kmax .i64 := fun x hx => by
    rcases hx with rfl | rfl | rfl
    · exact hs
    · exact hu
    · exact hm
  exact ⟨fl_insC hj (by decide) h, fl_insC hj (by decide) h, fl_insC hj (by decide) h⟩
theorem i64_eq' (x : Int) (h : -9223372036854775808 ≤ x ∧ x ≤ 9223372036854775807) : IntKind.i64.wrap x = x := wrap_in .i64 x h.1 h.2
theorem shr1 (x : Int) (h : 0 ≤ x) : x.fdiv (2 ^ min 1 IntKind.u64.bits) = x / 2 := by
  have e : (2 : Int) ^ min 1 IntKind.u64.bits = 2 := rfl
  rw [e]; exact Int.fdiv_eq_ediv_of_nonneg _ (by omega)
theorem addP_2 {c n s u m : Int} (h : ¬ (rgtP c n ∧ mayP s u m)) : addP c n s u m = 2 := by unfold addP; rw [if_pos h]
theorem addP_230 {c n s u m : Int} (h1 : rgtP c n) (h2 : mayP s u m) (h3 : 0 ≤ fndC c n s) : addP c n s u m = 230 := by unfold addP; rw [if_neg (fun h => h ⟨h1, h2⟩), if_pos h3]
theorem addP_231 {c n s u m : Int} (h1 : rgtP c n) (h2 : mayP s u m) (h3 : ¬ 0 ≤ fndC c n s) (h4 : ¬ fitsP c n m) : addP c n s u m = 231 := by unfold addP; rw [if_neg (fun h => h ⟨h1, h2⟩), if_neg h3, if_pos h4]
theorem addP_0 {c n s u m : Int} (h1 : rgtP c n) (h2 : mayP s u m) (h3 : ¬ 0 ≤ fndC c n s) (h4 : fitsP c n m) : addP c n s u m = 0 := by unfold addP; rw [if_neg (fun h => h ⟨h1, h2⟩), if_neg h3, if_neg (fun h => h h4)]
noncomputable def rAdd_T1 : Tm := ⟨⟨57, 53, [(6, (.it .i64 (.v 27))), (3, (.pt (.n 0) (.c 0))), (0, (.sl (.k 0) (.v 2) (.v 1) (.v 3)))], [(.code (atC Try.f57 [1, 1, 1, 1, 1, 0, 0, 0])), (.inLoop (atC Try.f57 [1, 1, 1, 1, 1, 0, 0, 0])), (.inBlock 0), (.code (atC Try.f57 [1, 1, 1, 1, 1, 1]))], [], .none⟩, [],
    ⟨[(0, (.cells [(.it .i64 (.v 4)), (.it .i64 (.v 5)), (.it .i64 (.v 6))] 58))], 1, 0, 0, [((.ap 22 (.v 0) (.v 1) (.v 6) (.c 0) (.c 0) (.c 0)), .true), ((.le (.c 0) (.ap 21 (.v 0) (.v 1) (.v 4) (.c 0) (.c 0) (.c 0))), .false), ((.lt (.ap 21 (.v 0) (.v 1) (.v 4) (.c 0) (.c 0) (.c 0)) (.v 1)), .true), ((.le (.c (-1)) (.ap 21 (.v 0) (.v 1) (.v 4) (.c 0) (.c 0) (.c 0))), .true), ((.ap 23 (.v 4) (.v 5) (.v 6) (.c 0) (.c 0) (.c 0)), .true), ((.ap 20 (.v 0) (.v 1) (.c 0) (.c 0) (.c 0) (.c 0)), .true), ((.le (.v 1) (.v 3)), .true), ((.le (.c 0) (.v 3)), .true), ((.le (.v 27) (.v 1)), .true)], [1, 0], [(1, (0, 1000)), (4, ((-9223372036854775808), 9223372036854775807)), (5, ((-9223372036854775808), 9223372036854775807)), (6, ((-9223372036854775808), 9223372036854775807)), (2, (0, (-1))), (27, (0, (-1)))]⟩, [27]⟩
noncomputable def rAdd_L0 : List Lf :=
  [(.fin [((.le (.c 0) (.ap 21 (.v 0) (.v 1) (.v 4) (.c 0) (.c 0) (.c 0))), .true), ((.lt (.ap 21 (.v 0) (.v 1) (.v 4) (.c 0) (.c 0) (.c 0)) (.v 1)), .true), ((.le (.c (-1)) (.ap 21 (.v 0) (.v 1) (.v 4) (.c 0) (.c 0) (.c 0))), .true), ((.ap 23 (.v 4) (.v 5) (.v 6) (.c 0) (.c 0) (.c 0)), .true), ((.ap 20 (.v 0) (.v 1) (.c 0) (.c 0) (.c 0) (.c 0)), .true), ((.le (.v 1) (.v 3)), .true), ((.le (.c 0) (.v 3)), .true)] 1 ⟨⟨[], []⟩, [], [], []⟩ [(.ei (.ap 27 (.v 0) (.v 1) (.v 4) (.v 5) (.v 6) (.c 0)) (.c 230)), (.fa (.eq (.ap 27 (.v 0) (.v 1) (.v 4) (.v 5) (.v 6) (.c 0)) (.c 0)) .false)] []), (.cut [((.ap 22 (.v 0) (.v 1) (.v 6) (.c 0) (.c 0) (.c 0)), .true), ((.le (.c 0) (.ap 21 (.v 0) (.v 1) (.v 4) (.c 0) (.c 0) (.c 0))), .false), ((.lt (.ap 21 (.v 0) (.v 1) (.v 4) (.c 0) (.c 0) (.c 0)) (.v 1)), .true), ((.le (.c (-1)) (.ap 21 (.v 0) (.v 1) (.v 4) (.c 0) (.c 0) (.c 0))), .true), ((.ap 23 (.v 4) (.v 5) (.v 6) (.c 0) (.c 0) (.c 0)), .true), ((.ap 20 (.v 0) (.v 1) (.c 0) (.c 0) (.c 0) (.c 0)), .true), ((.le (.v 1) (.v 3)), .true), ((.le (.c 0) (.v 3)), .true)] 1 ⟨⟨[(27, (.c 0))], []⟩, [(0, 0)], [], []⟩ [] (shT rAdd_T1 ⟨⟨[(27, (.c 0))], []⟩, [(0, 0)], [], []⟩)), (.fin [((.ap 22 (.v 0) (.v 1) (.v 6) (.c 0) (.c 0) (.c 0)), .false), ((.le (.c 0) (.ap 21 (.v 0) (.v 1) (.v 4) (.c 0) (.c 0) (.c 0))), .false), ((.lt (.ap 21 (.v 0) (.v 1) (.v 4) (.c 0) (.c 0) (.c 0)) (.v 1)), .true), ((.le (.c (-1)) (.ap 21 (.v 0) (.v 1) (.v 4) (.c 0) (.c 0) (.c 0))), .true), ((.ap 23 (.v 4) (.v 5) (.v 6) (.c 0) (.c 0) (.c 0)), .true), ((.ap 20 (.v 0) (.v 1) (.c 0) (.c 0) (.c 0) (.c 0)), .true), ((.le (.v 1) (.v 3)), .true), ((.le (.c 0) (.v 3)), .true)] 1 ⟨⟨[], []⟩, [], [], []⟩ [(.ei (.ap 27 (.v 0) (.v 1) (.v 4) (.v 5) (.v 6) (.c 0)) (.c 231)), (.fa (.eq (.ap 27 (.v 0) (.v 1) (.v 4) (.v 5) (.v 6) (.c 0)) (.c 0)) .false)] []), (.fin [((.ap 23 (.v 4) (.v 5) (.v 6) (.c 0) (.c 0) (.c 0)), .false), ((.ap 20 (.v 0) (.v 1) (.c 0) (.c 0) (.c 0) (.c 0)), .true), ((.le (.v 1) (.v 3)), .true), ((.le (.c 0) (.v 3)), .true)] 1 ⟨⟨[], []⟩, [], [], []⟩ [(.ei (.ap 27 (.v 0) (.v 1) (.v 4) (.v 5) (.v 6) (.c 0)) (.c 2)), (.fa (.eq (.ap 27 (.v 0) (.v 1) (.v 4) (.v 5) (.v 6) (.c 0)) (.c 0)) .false)] []), (.fin [((.ap 20 (.v 0) (.v 1) (.c 0) (.c 0) (.c 0) (.c 0)), .false), ((.le (.v 1) (.v 3)), .true), ((.le (.c 0) (.v 3)), .true)] 1 ⟨⟨[], []⟩, [], [], []⟩ [(.ei (.ap 27 (.v 0) (.v 1) (.v 4) (.v 5) (.v 6) (.c 0)) (.c 2)), (.fa (.eq (.ap 27 (.v 0) (.v 1) (.v 4) (.v 5) (.v 6) (.c 0)) (.c 0)) .false)] [])]
noncomputable def rAdd_L1 : List Lf :=
  [(.cut [((.lt (.ap 3 (.v 0) (.v 27) (.c 0) (.c 0) (.c 0) (.c 0)) (.v 4)), .true), ((.lt (.v 27) (.v 1)), .true), ((.ap 22 (.v 0) (.v 1) (.v 6) (.c 0) (.c 0) (.c 0)), .true), ((.le (.c 0) (.ap 21 (.v 0) (.v 1) (.v 4) (.c 0) (.c 0) (.c 0))), .false), ((.lt (.ap 21 (.v 0) (.v 1) (.v 4) (.c 0) (.c 0) (.c 0)) (.v 1)), .true), ((.le (.c (-1)) (.ap 21 (.v 0) (.v 1) (.v 4) (.c 0) (.c 0) (.c 0))), .true), ((.ap 23 (.v 4) (.v 5) (.v 6) (.c 0) (.c 0) (.c 0)), .true), ((.ap 20 (.v 0) (.v 1) (.c 0) (.c 0) (.c 0) (.c 0)), .true), ((.le (.v 1) (.v 3)), .true), ((.le (.c 0) (.v 3)), .true), ((.le (.v 27) (.v 1)), .true)] 1 ⟨⟨[(27, (.op .add (.v 27) (.c 1)))], []⟩, [(0, 0)], [], []⟩ [] (shT rAdd_T1 ⟨⟨[(27, (.op .add (.v 27) (.c 1)))], []⟩, [(0, 0)], [], []⟩)), (.fin [((.le (.op .add (.v 1) (.c 1)) (.d 2)), .true), ((.le (.op .add (.v 27) (.c 1)) (.d 1)), .true), ((.le (.v 27) (.d 0)), .true), ((.lt (.ap 3 (.v 0) (.v 27) (.c 0) (.c 0) (.c 0) (.c 0)) (.v 4)), .false), ((.lt (.v 27) (.v 1)), .true), ((.ap 22 (.v 0) (.v 1) (.v 6) (.c 0) (.c 0) (.c 0)), .true), ((.le (.c 0) (.ap 21 (.v 0) (.v 1) (.v 4) (.c 0) (.c 0) (.c 0))), .false), ((.lt (.ap 21 (.v 0) (.v 1) (.v 4) (.c 0) (.c 0) (.c 0)) (.v 1)), .true), ((.le (.c (-1)) (.ap 21 (.v 0) (.v 1) (.v 4) (.c 0) (.c 0) (.c 0))), .true), ((.ap 23 (.v 4) (.v 5) (.v 6) (.c 0) (.c 0) (.c 0)), .true), ((.ap 20 (.v 0) (.v 1) (.c 0) (.c 0) (.c 0) (.c 0)), .true), ((.le (.v 1) (.v 3)), .true), ((.le (.c 0) (.v 3)), .true), ((.le (.v 27) (.v 1)), .true)] 0 ⟨⟨[], []⟩, [(0, 5)], [(0, (.d 2))], []⟩ [(.ar [(.nt .i64), (.nt .i64), (.nt .i64)] (.ap 23 (.v 0) (.v 1) (.ap 24 (.v 0) (.v 1) (.v 4) (.c 0) (.c 0) (.c 0)) (.v 4) (.v 5) (.v 6)) (.ap 9 (.ap 8 (.ap 8 (.ap 8 (.v 0) (.v 27) (.c 0) (.v 4) (.c 0) (.c 0)) (.v 27) (.c 1) (.v 5) (.c 0) (.c 0)) (.v 27) (.c 2) (.v 6) (.c 0) (.c 0)) (.op .add (.v 27) (.c 1)) (.v 0) (.v 27) (.op .sub (.v 1) (.v 27)) (.c 0)) (.op .add (.v 1) (.c 1)))] [.none]), (.fin [((.le (.op .add (.v 27) (.c 1)) (.d 1)), .true), ((.le (.v 27) (.d 0)), .true), ((.lt (.v 27) (.v 1)), .false), ((.ap 22 (.v 0) (.v 1) (.v 6) (.c 0) (.c 0) (.c 0)), .true), ((.le (.c 0) (.ap 21 (.v 0) (.v 1) (.v 4) (.c 0) (.c 0) (.c 0))), .false), ((.lt (.ap 21 (.v 0) (.v 1) (.v 4) (.c 0) (.c 0) (.c 0)) (.v 1)), .true), ((.le (.c (-1)) (.ap 21 (.v 0) (.v 1) (.v 4) (.c 0) (.c 0) (.c 0))), .true), ((.ap 23 (.v 4) (.v 5) (.v 6) (.c 0) (.c 0) (.c 0)), .true), ((.ap 20 (.v 0) (.v 1) (.c 0) (.c 0) (.c 0) (.c 0)), .true), ((.le (.v 1) (.v 3)), .true), ((.le (.c 0) (.v 3)), .true), ((.le (.v 27) (.v 1)), .true)] 0 ⟨⟨[], []⟩, [(0, 4)], [(0, (.d 1))], []⟩ [(.ei (.op .add (.v 1) (.c 1)) (.op .add (.v 27) (.c 1))), (.ar [(.nt .i64), (.nt .i64), (.nt .i64)] (.ap 23 (.v 0) (.v 1) (.ap 24 (.v 0) (.v 1) (.v 4) (.c 0) (.c 0) (.c 0)) (.v 4) (.v 5) (.v 6)) (.ap 8 (.ap 8 (.ap 8 (.v 0) (.v 27) (.c 0) (.v 4) (.c 0) (.c 0)) (.v 27) (.c 1) (.v 5) (.c 0) (.c 0)) (.v 27) (.c 2) (.v 6) (.c 0) (.c 0)) (.op .add (.v 1) (.c 1))), (.fa (.le (.op .add (.v 1) (.c 1)) (.op .add (.v 27) (.c 1))) .true)] [.none])]
set_option maxRecDepth 100000 in
theorem rAdd_h0 : (ex (ccOf Try.prog BF [58, 84] rAdd) ((fun cc => [rRight.ent cc, rMay.ent cc, rFind.ent cc, rFits2.ent cc]) (ccOf Try.prog BF [58, 84] rAdd)) (dw (ccOf Try.prog BF [58, 84] rAdd) ((fun cc => [rRight.ent cc, rMay.ent cc, rFind.ent cc, rFits2.ent cc]) (ccOf Try.prog BF [58, 84] rAdd)) 1000 4) (stopX []) 4000 (tm0 rAdd Try.f57 (Try.f57.body.getD .skip)).f (tm0 rAdd Try.f57 (Try.f57.body.getD .skip)).fs (tm0 rAdd Try.f57 (Try.f57.body.getD .skip)).H).lfs (ccOf Try.prog BF [58, 84] rAdd) ((tm0 rAdd Try.f57 (Try.f57.body.getD .skip)) :: [rAdd_T1]) rAdd.os = some rAdd_L0 := by kernel_rfl
set_option maxRecDepth 100000 in
theorem rAdd_h1 : (ex (ccOf Try.prog BF [58, 84] rAdd) ((fun cc => [rRight.ent cc, rMay.ent cc, rFind.ent cc, rFits2.ent cc]) (ccOf Try.prog BF [58, 84] rAdd)) (dw (ccOf Try.prog BF [58, 84] rAdd) ((fun cc => [rRight.ent cc, rMay.ent cc, rFind.ent cc, rFits2.ent cc]) (ccOf Try.prog BF [58, 84] rAdd)) 1000 4) (stopX []) 4000 rAdd_T1.f rAdd_T1.fs rAdd_T1.H).lfs (ccOf Try.prog BF [58, 84] rAdd) ((tm0 rAdd Try.f57 (Try.f57.body.getD .skip)) :: [rAdd_T1]) rAdd.os = some rAdd_L1 := by kernel_rfl
def rAdd_inv : (Nat → Int) → (Nat → Bool) → Nat → (Nat → Int) → (Nat → Bool) → Prop := fun iv0 _ k iv _ => match k with
  | 0 => True
  | _ => rgtP (iv0 0) (iv0 1) ∧ addP (iv0 0) (iv0 1) (iv0 4) (iv0 5) (iv0 6) = 0 ∧ 0 ≤ iv 27 ∧ iv 27 ≤ iv0 1 ∧ ∀ j : Nat, (j : Int) < iv 27 → fl (iv0 0) j 0 < iv0 4
def rAdd_mu : (Nat → Int) → (Nat → Bool) → Nat → (Nat → Int) → (Nat → Bool) → Nat := fun iv0 _ k iv _ => match k with | 0 => 2 ^ 80 | _ => (iv0 1 - iv 27).toNat
set_option maxHeartbeats 0 in
theorem rAdd_o0 (kv : Kv) (iv0 : Nat → Int) (bv0 : Nat → Bool) (hin : InB rAdd.B iv0) (hF : FT (sta FI FB kv iv0 bv0) (dlt dyn0) rAdd.F) (iv : Nat → Int) (bv : Nat → Bool) (ha : Agr 7 iv0 bv0 iv bv) (hi : rAdd_inv iv0 bv0 0 iv bv) :
    ∀ lf ∈ rAdd_L0, LfT (sta FI FB kv) rAdd.os (rAdd_inv iv0 bv0) (rAdd_mu iv0 bv0) 0 iv bv lf := by
  unfold rAdd_L0
  refine List.forall_mem_cons.2 ⟨?_, List.forall_mem_cons.2 ⟨?_, List.forall_mem_cons.2 ⟨?_, List.forall_mem_cons.2 ⟨?_, List.forall_mem_cons.2 ⟨?_, List.forall_mem_nil _⟩⟩⟩⟩⟩
  all_goals
    intro δ hf
  all_goals
    simp only [FT, TP, SB.tp, SI.tv, sta, IB.eval, and_true, true_and, ObsT, Ob.Tv, rowT, kix, In.tiv, ↓tbvT, In.tbv, get_cons, get_nil, reduceIte, Nat.reduceEqDiff, Int.reduceToNat, Int.reduceAdd, Int.reduceSub, Int.reduceLE, Int.reduceLT, Int.reduceEq, ne_eq, Bool.false_eq_true, not_true_eq_false, not_false_eq_true, true_iff, false_iff, iff_true, iff_false, false_implies, implies_true, decT, decide_true, decide_false, Bool.decide_eq_true, ap2, pb2, FI_3, FI_8, FI_9, FI_10, FI_11, FI_12, FI_13, FB_10, FB_11, FB_12, FB_13, FB_14, FB_15, FB_16, FI_20, FI_21, FI_22, FI_23, FI_24, FI_25, FI_26, FB_20, FB_21, FB_22, FB_23, FB_24, FB_25, FB_26, FB_27, FI_27, Int.toNat_natCast, Int.toNat_zero] at hf
  all_goals
    have a0 := ha.1 0 (by omega)
    have a1 := ha.1 1 (by omega)
    have a2 := ha.1 2 (by omega)
    have a3 := ha.1 3 (by omega)
    have a4 := ha.1 4 (by omega)
    have a5 := ha.1 5 (by omega)
    have a6 := ha.1 6 (by omega)
  all_goals
    have b1 := hin 1 0 1000 (by simp [rAdd, bH, gH, fM, lH, nw, ap3, i64b, kH, ap3, pb3, pb4, i64l, lH2, gH2, bH2, fM2, bE, oEnd, ap3, pb3, pb4, i64l, bA, ap6, apA, hV, oAdd])
    simp only [Int.reduceLE, reduceIte, Int.reduceNeg] at b1
  all_goals
    have b4 := hin 4 (-9223372036854775808) 9223372036854775807 (by simp [rAdd, bH, gH, fM, lH, nw, ap3, i64b, kH, ap3, pb3, pb4, i64l, lH2, gH2, bH2, fM2, bE, oEnd, ap3, pb3, pb4, i64l, bA, ap6, apA, hV, oAdd])
    simp only [Int.reduceLE, reduceIte, Int.reduceNeg] at b4
  all_goals
    have b5 := hin 5 (-9223372036854775808) 9223372036854775807 (by simp [rAdd, bH, gH, fM, lH, nw, ap3, i64b, kH, ap3, pb3, pb4, i64l, lH2, gH2, bH2, fM2, bE, oEnd, ap3, pb3, pb4, i64l, bA, ap6, apA, hV, oAdd])
    simp only [Int.reduceLE, reduceIte, Int.reduceNeg] at b5
  all_goals
    have b6 := hin 6 (-9223372036854775808) 9223372036854775807 (by simp [rAdd, bH, gH, fM, lH, nw, ap3, i64b, kH, ap3, pb3, pb4, i64l, lH2, gH2, bH2, fM2, bE, oEnd, ap3, pb3, pb4, i64l, bA, ap6, apA, hV, oAdd])
    simp only [Int.reduceLE, reduceIte, Int.reduceNeg] at b6
  all_goals
    simp only [FT, TP, SB.tp, SI.tv, sta, IB.eval, and_true, true_and, ObsT, Ob.Tv, rowT, kix, In.tiv, ↓tbvT, In.tbv, get_cons, get_nil, reduceIte, Nat.reduceEqDiff, Int.reduceToNat, Int.reduceAdd, Int.reduceSub, Int.reduceLE, Int.reduceLT, Int.reduceEq, ne_eq, Bool.false_eq_true, not_true_eq_false, not_false_eq_true, true_iff, false_iff, iff_true, iff_false, false_implies, implies_true, decT, decide_true, decide_false, Bool.decide_eq_true, ap2, pb2, FI_3, FI_8, FI_9, FI_10, FI_11, FI_12, FI_13, FB_10, FB_11, FB_12, FB_13, FB_14, FB_15, FB_16, FI_20, FI_21, FI_22, FI_23, FI_24, FI_25, FI_26, FB_20, FB_21, FB_22, FB_23, FB_24, FB_25, FB_26, FB_27, FI_27, Int.toNat_natCast, Int.toNat_zero, rAdd_inv, rAdd_mu, rAdd, o1, othT, bH, gH, fM, lH, nw, ap3, i64b, kH, ap3, pb3, pb4, i64l, lH2, gH2, bH2, fM2, bE, oEnd, ap3, pb3, pb4, i64l, bA, ap6, apA, hV, oAdd, a0, a1, a2, a3, a4, a5, a6] at hf hi ⊢
  all_goals
    have ad2 := @addP_2 (iv0 0) (iv0 1) (iv0 4) (iv0 5) (iv0 6)
    have ad230 := @addP_230 (iv0 0) (iv0 1) (iv0 4) (iv0 5) (iv0 6)
    have ad231 := @addP_231 (iv0 0) (iv0 1) (iv0 4) (iv0 5) (iv0 6)
    have ad0 := @addP_0 (iv0 0) (iv0 1) (iv0 4) (iv0 5) (iv0 6)
    have w4 := i64_eq' (iv0 4) b4
    have w5 := i64_eq' (iv0 5) b5
    have w6 := i64_eq' (iv0 6) b6
  all_goals
    (repeat' (with_reducible apply And.intro)) <;> first
    | omega
    | assumption
    | (unfold inM; omega)
    | exact fun j hj => by omega
    | (clear hin hF ha; grind)
set_option maxHeartbeats 0 in
theorem rAdd_o1 (kv : Kv) (iv0 : Nat → Int) (bv0 : Nat → Bool) (hin : InB rAdd.B iv0) (hF : FT (sta FI FB kv iv0 bv0) (dlt dyn0) rAdd.F) (iv : Nat → Int) (bv : Nat → Bool) (ha : Agr 7 iv0 bv0 iv bv) (hi : rAdd_inv iv0 bv0 1 iv bv) :
    ∀ lf ∈ rAdd_L1, LfT (sta FI FB kv) rAdd.os (rAdd_inv iv0 bv0) (rAdd_mu iv0 bv0) 1 iv bv lf := by
  unfold rAdd_L1
  refine List.forall_mem_cons.2 ⟨?_, List.forall_mem_cons.2 ⟨?_, List.forall_mem_cons.2 ⟨?_, List.forall_mem_nil _⟩⟩⟩
  all_goals
    intro δ hf
  all_goals
    simp only [FT, TP, SB.tp, SI.tv, sta, IB.eval, and_true, true_and, ObsT, Ob.Tv, rowT, kix, In.tiv, ↓tbvT, In.tbv, get_cons, get_nil, reduceIte, Nat.reduceEqDiff, Int.reduceToNat, Int.reduceAdd, Int.reduceSub, Int.reduceLE, Int.reduceLT, Int.reduceEq, ne_eq, Bool.false_eq_true, not_true_eq_false, not_false_eq_true, true_iff, false_iff, iff_true, iff_false, false_implies, implies_true, decT, decide_true, decide_false, Bool.decide_eq_true, ap2, pb2, FI_3, FI_8, FI_9, FI_10, FI_11, FI_12, FI_13, FB_10, FB_11, FB_12, FB_13, FB_14, FB_15, FB_16, FI_20, FI_21, FI_22, FI_23, FI_24, FI_25, FI_26, FB_20, FB_21, FB_22, FB_23, FB_24, FB_25, FB_26, FB_27, FI_27, Int.toNat_natCast, Int.toNat_zero] at hf
  all_goals
    have a0 := ha.1 0 (by omega)
    have a1 := ha.1 1 (by omega)
    have a2 := ha.1 2 (by omega)
    have a3 := ha.1 3 (by omega)
    have a4 := ha.1 4 (by omega)
    have a5 := ha.1 5 (by omega)
    have a6 := ha.1 6 (by omega)
  all_goals
    have b1 := hin 1 0 1000 (by simp [rAdd, bH, gH, fM, lH, nw, ap3, i64b, kH, ap3, pb3, pb4, i64l, lH2, gH2, bH2, fM2, bE, oEnd, ap3, pb3, pb4, i64l, bA, ap6, apA, hV, oAdd])
    simp only [Int.reduceLE, reduceIte, Int.reduceNeg] at b1
  all_goals
    have b4 := hin 4 (-9223372036854775808) 9223372036854775807 (by simp [rAdd, bH, gH, fM, lH, nw, ap3, i64b, kH, ap3, pb3, pb4, i64l, lH2, gH2, bH2, fM2, bE, oEnd, ap3, pb3, pb4, i64l, bA, ap6, apA, hV, oAdd])
    simp only [Int.reduceLE, reduceIte, Int.reduceNeg] at b4
  all_goals
    have b5 := hin 5 (-9223372036854775808) 9223372036854775807 (by simp [rAdd, bH, gH, fM, lH, nw, ap3, i64b, kH, ap3, pb3, pb4, i64l, lH2, gH2, bH2, fM2, bE, oEnd, ap3, pb3, pb4, i64l, bA, ap6, apA, hV, oAdd])
    simp only [Int.reduceLE, reduceIte, Int.reduceNeg] at b5
  all_goals
    have b6 := hin 6 (-9223372036854775808) 9223372036854775807 (by simp [rAdd, bH, gH, fM, lH, nw, ap3, i64b, kH, ap3, pb3, pb4, i64l, lH2, gH2, bH2, fM2, bE, oEnd, ap3, pb3, pb4, i64l, bA, ap6, apA, hV, oAdd])
    simp only [Int.reduceLE, reduceIte, Int.reduceNeg] at b6
  all_goals
    simp only [FT, TP, SB.tp, SI.tv, sta, IB.eval, and_true, true_and, ObsT, Ob.Tv, rowT, kix, In.tiv, ↓tbvT, In.tbv, get_cons, get_nil, reduceIte, Nat.reduceEqDiff, Int.reduceToNat, Int.reduceAdd, Int.reduceSub, Int.reduceLE, Int.reduceLT, Int.reduceEq, ne_eq, Bool.false_eq_true, not_true_eq_false, not_false_eq_true, true_iff, false_iff, iff_true, iff_false, false_implies, implies_true, decT, decide_true, decide_false, Bool.decide_eq_true, ap2, pb2, FI_3, FI_8, FI_9, FI_10, FI_11, FI_12, FI_13, FB_10, FB_11, FB_12, FB_13, FB_14, FB_15, FB_16, FI_20, FI_21, FI_22, FI_23, FI_24, FI_25, FI_26, FB_20, FB_21, FB_22, FB_23, FB_24, FB_25, FB_26, FB_27, FI_27, Int.toNat_natCast, Int.toNat_zero, rAdd_inv, rAdd_mu, rAdd, o1, othT, bH, gH, fM, lH, nw, ap3, i64b, kH, ap3, pb3, pb4, i64l, lH2, gH2, bH2, fM2, bE, oEnd, ap3, pb3, pb4, i64l, bA, ap6, apA, hV, oAdd, a0, a1, a2, a3, a4, a5, a6] at hf hi ⊢
  all_goals
    have ad2 := @addP_2 (iv0 0) (iv0 1) (iv0 4) (iv0 5) (iv0 6)
    have ad230 := @addP_230 (iv0 0) (iv0 1) (iv0 4) (iv0 5) (iv0 6)
    have ad231 := @addP_231 (iv0 0) (iv0 1) (iv0 4) (iv0 5) (iv0 6)
    have ad0 := @addP_0 (iv0 0) (iv0 1) (iv0 4) (iv0 5) (iv0 6)
    have w4 := i64_eq' (iv0 4) b4
    have w5 := i64_eq' (iv0 5) b5
    have w6 := i64_eq' (iv0 6) b6
  all_goals
    have hls := fun h1 h2 => @lo_step (iv0 0) (iv0 1) (iv0 4) (iv 27) hi.1 hi.2.2.1 h1 h2
    have hps := fun h => @pos_at (iv0 0) (iv0 1) (iv0 4) (iv 27) hi.2.2.1 hi.2.2.2.1 (by omega) hi.2.2.2.2 h
  all_goals
    (repeat' (with_reducible apply And.intro)) <;> first
    | omega
    | assumption
    | (unfold inM; omega)
    | exact hi.1
    | exact hi.2.1
    | (exact hls (by omega) (by omega))
    | (exact fun h => absurd hi.2.1 h)
    | ((have hpos := hps (by omega)); (intro j hj; (have hins := @fl_ins0 (iv0 0) (iv0 1) (posC (iv0 0) (iv0 1) (iv0 4)) (iv0 4) (iv0 5) (iv0 6) j (by omega) b4 b5 b6); rw [hins.1, hins.2.1, hins.2.2]; clear hins; simp only [fl_blit, fl_set, fl_zero, w4, w5, w6, hpos]; refine ⟨?_, ?_, ?_⟩ <;> ((repeat' split) <;> first | rfl | (exfalso; omega) | (congr 1; omega) | (exfalso; simp_all; done))))
    | (clear hin hF ha; grind)
set_option maxRecDepth 100000 in
theorem rAdd_c : LsC ((tm0 rAdd Try.f57 (Try.f57.body.getD .skip)) :: [rAdd_T1]) rAdd.os [rAdd_L0, rAdd_L1] := by
  unfold rAdd_L0 rAdd_L1
  exact ⟨List.forall_mem_cons.2 ⟨⟨⟨_, rfl, rfl⟩, by kernel_rfl⟩, List.forall_mem_cons.2 ⟨⟨⟨_, rfl, rfl⟩, by kernel_rfl⟩, List.forall_mem_cons.2 ⟨⟨⟨_, rfl, rfl⟩, by kernel_rfl⟩, List.forall_mem_cons.2 ⟨⟨⟨_, rfl, rfl⟩, by kernel_rfl⟩, List.forall_mem_cons.2 ⟨⟨⟨_, rfl, rfl⟩, by kernel_rfl⟩, List.forall_mem_nil _⟩⟩⟩⟩⟩, List.forall_mem_cons.2 ⟨⟨⟨_, rfl, rfl⟩, by kernel_rfl⟩, List.forall_mem_cons.2 ⟨⟨⟨_, rfl, rfl⟩, by kernel_rfl⟩, List.forall_mem_cons.2 ⟨⟨⟨_, rfl, rfl⟩, by kernel_rfl⟩, List.forall_mem_nil _⟩⟩⟩, trivial⟩
theorem rAdd_ok : rAdd.Ok Try.prog FI FB :=
  Con.of_plain (body := Try.f57.body.getD .skip) pok fiok (EntsFor.cons rRight_ok (EntsFor.cons rMay_ok (EntsFor.cons rFind_ok (EntsFor.cons rFits2_ok EntsFor.nil)))) rAdd Try.func57 (by kernel_rfl) 7 [rAdd_T1] (by kernel_rfl) [rAdd_L0, rAdd_L1] ⟨rAdd_h0, rAdd_h1, trivial⟩ rAdd_c
    rAdd_inv rAdd_mu (fun _ _ _ => trivial) fun kv iv0 bv0 hin hF k l iv bv hk ha hi => match k, hk, hi with
    | 0, hk, hi => by
      cases hk
      exact rAdd_o0 kv iv0 bv0 hin hF iv bv ha hi
    | 1, hk, hi => by
      cases hk
      exact rAdd_o1 kv iv0 bv0 hin hF iv bv ha hi
    | k + 2, hk, _ => by simp at hk
noncomputable def hAdd_T1 : Tm := ⟨⟨142, 19, [(8, (.it .i64 (.v 27))), (7, (.it .i64 (.v 1))), (0, (.sl (.k 0) (.v 2) (.v 1) (.v 3))), (1, (.fn 140 [] [(.pt (.n 3) (.c 0))]))], [(.code (atC Try.f142 [1, 0, 1, 0, 0])), (.inLoop (atC Try.f142 [1, 0, 1, 0, 0])), (.inBlock 0), (.code (atC Try.f142 [1, 1]))], [], .none⟩, [⟨102, 18, [(8, (.fn 140 [] [(.pt (.n 3) (.c 0))])), (7, (.sl (.k 0) (.v 2) (.v 1) (.v 3))), (4, (.pt (.n 5) (.c 0))), (0, (.sl (.k 0) (.v 2) (.v 1) (.v 3)))], [(.inRegion (opsC (atC Try.f102 [1, 0, 0])) [2, 3]), (.code (atC Try.f102 [1, 0, 1])), (.code (atC Try.f102 [1, 1]))], [], .none⟩, ⟨98, 15, [(10, (.fn 140 [] [(.pt (.n 3) (.c 0))])), (9, (.sl (.k 0) (.v 2) (.v 1) (.v 3))), (4, (.pt (.n 4) (.c 0)))], [(.inRegion (opsC (atC Try.f98 [1, 0])) [4, 5, 6, 7, 8, 9, 10]), (.code Code.ret)], [], .none⟩, ⟨56, 48, [(16, (.it .i64 (.v 4))), (15, (.pt (.n 0) (.c 0))), (14, (.ag [(.sl (.k 0) (.v 2) (.v 1) (.v 3)), (.bo (.c .true))])), (6, (.pt (.n 1) (.c 0))), (12, (.ag [(.sl (.k 0) (.v 2) (.v 1) (.v 3)), (.bo (.c .true))])), (11, (.sl (.k 0) (.v 2) (.v 1) (.v 3))), (4, .sn), (3, (.pt (.n 0) (.c 0))), (0, (.sl (.k 0) (.v 2) (.v 1) (.v 3))), (1, (.ag [(.it .i64 (.v 4)), (.it .i64 (.v 5)), (.it .i64 (.v 6))]))], [(.inRegion (opsC (atC Try.f56 [1, 0, 1, 0])) [3, 4, 5, 6, 7, 8, 9, 10, 11]), (.code (atC Try.f56 [1, 0, 1, 1])), (.inScope (atC Try.f56 [1, 0]))], [], .none⟩],
    ⟨[(0, (.cells [(.it .i64 (.v 4)), (.it .i64 (.v 5)), (.it .i64 (.v 6))] 58)), (1, (.cells [(.sl (.k 0) (.v 2) (.v 1) (.v 3)), (.bo (.c .true))] 137)), (3, (.cells [(.it .i64 (.v 4))] 3)), (4, (.cells [(.it .i64 (.c 0)), (.it .i64 (.c 0)), (.it .i64 (.c 0))] 58)), (5, (.cells [(.it .i64 (.c 0)), (.it .i64 (.c 0)), (.it .i64 (.c 0))] 58))], 6, 0, 0, [((.ap 20 (.v 0) (.v 1) (.c 0) (.c 0) (.c 0) (.c 0)), .true), ((.le (.v 1) (.v 3)), .true), ((.le (.c 0) (.v 3)), .true)], [1, 0], [(4, ((-9223372036854775808), 9223372036854775807)), (5, ((-9223372036854775808), 9223372036854775807)), (6, ((-9223372036854775808), 9223372036854775807)), (1, (0, 1000)), (2, (0, (-1))), (27, (0, (-1)))]⟩, [27]⟩
noncomputable def hAdd_T2 : Tm := ⟨⟨142, 19, [(8, (.it .i64 (.c 0))), (7, (.it .i64 (.c 0))), (0, .sn), (1, (.fn 140 [] [(.pt (.n 3) (.c 0))]))], [(.code (atC Try.f142 [1, 0, 1, 0, 0])), (.inLoop (atC Try.f142 [1, 0, 1, 0, 0])), (.inBlock 0), (.code (atC Try.f142 [1, 1]))], [], .none⟩, [⟨102, 18, [(8, (.fn 140 [] [(.pt (.n 3) (.c 0))])), (7, .sn), (4, (.pt (.n 5) (.c 0))), (0, .sn)], [(.inRegion (opsC (atC Try.f102 [1, 0, 0])) [2, 3]), (.code (atC Try.f102 [1, 0, 1])), (.code (atC Try.f102 [1, 1]))], [], .none⟩, ⟨98, 15, [(10, (.fn 140 [] [(.pt (.n 3) (.c 0))])), (9, .sn), (4, (.pt (.n 4) (.c 0)))], [(.inRegion (opsC (atC Try.f98 [1, 0])) [4, 5, 6, 7, 8, 9, 10]), (.code Code.ret)], [], .none⟩, ⟨56, 48, [(16, (.it .i64 (.v 4))), (15, (.pt (.n 0) (.c 0))), (14, (.ag [.sn, (.bo (.c .false))])), (6, (.pt (.n 1) (.c 0))), (12, (.ag [.sn, (.bo (.c .false))])), (11, (.sl (.k 0) (.v 2) (.v 1) (.v 3))), (4, .sn), (3, (.pt (.n 0) (.c 0))), (0, (.sl (.k 0) (.v 2) (.v 1) (.v 3))), (1, (.ag [(.it .i64 (.v 4)), (.it .i64 (.v 5)), (.it .i64 (.v 6))]))], [(.inRegion (opsC (atC Try.f56 [1, 0, 1, 0])) [3, 4, 5, 6, 7, 8, 9, 10, 11]), (.code (atC Try.f56 [1, 0, 1, 1])), (.inScope (atC Try.f56 [1, 0]))], [], .none⟩],
    ⟨[(0, (.cells [(.it .i64 (.v 4)), (.it .i64 (.v 5)), (.it .i64 (.v 6))] 58)), (1, (.cells [.sn, (.bo (.c .false))] 137)), (3, (.cells [(.it .i64 (.v 4))] 3)), (4, (.cells [(.it .i64 (.c 0)), (.it .i64 (.c 0)), (.it .i64 (.c 0))] 58)), (5, (.cells [(.it .i64 (.c 0)), (.it .i64 (.c 0)), (.it .i64 (.c 0))] 58))], 6, 0, 0, [((.ap 20 (.v 0) (.v 1) (.c 0) (.c 0) (.c 0) (.c 0)), .false), ((.le (.v 1) (.v 3)), .true), ((.le (.c 0) (.v 3)), .true)], [1, 0], [(4, ((-9223372036854775808), 9223372036854775807)), (5, ((-9223372036854775808), 9223372036854775807)), (6, ((-9223372036854775808), 9223372036854775807)), (1, (0, 1000)), (2, (0, (-1)))]⟩, []⟩
noncomputable def hAdd_T3 : Tm := ⟨⟨142, 19, [(8, (.it .i64 (.v 28))), (7, (.it .i64 (.v 1))), (0, (.sl (.k 0) (.v 2) (.v 1) (.v 3))), (1, (.fn 141 [] [(.pt (.n 8) (.c 0))]))], [(.code (atC Try.f142 [1, 0, 1, 0, 0])), (.inLoop (atC Try.f142 [1, 0, 1, 0, 0])), (.inBlock 0), (.code (atC Try.f142 [1, 1]))], [], .none⟩, [⟨102, 18, [(8, (.fn 141 [] [(.pt (.n 8) (.c 0))])), (7, (.sl (.k 0) (.v 2) (.v 1) (.v 3))), (4, (.pt (.n 9) (.c 0))), (0, (.sl (.k 0) (.v 2) (.v 1) (.v 3)))], [(.inRegion (opsC (atC Try.f102 [1, 0, 0])) [2, 3]), (.code (atC Try.f102 [1, 0, 1])), (.code (atC Try.f102 [1, 1]))], [], .none⟩, ⟨101, 19, [(12, (.fn 141 [] [(.pt (.n 8) (.c 0))])), (11, (.sl (.k 0) (.v 2) (.v 1) (.v 3)))], [(.inRegion (opsC (atC Try.f101 [1, 0])) [4, 5, 6, 7, 8, 9, 10, 11, 12]), (.code (atC Try.f101 [1, 1]))], [], .none⟩, ⟨56, 48, [(32, (.it .i64 (.v 6))), (31, (.pt (.n 0) (.c 2))), (30, (.ag [(.sl (.k 0) (.v 2) (.v 1) (.v 3)), (.bo (.c .true))])), (5, (.it .i64 (.c 231))), (29, (.bo (.c .false))), (28, (.bo (.not (.ap 23 (.v 4) (.v 5) (.v 6) (.c 0) (.c 0) (.c 0))))), (27, (.bo (.not (.ap 23 (.v 4) (.v 5) (.v 6) (.c 0) (.c 0) (.c 0))))), (26, (.bo (.ap 23 (.v 4) (.v 5) (.v 6) (.c 0) (.c 0) (.c 0)))), (25, (.ag [(.it .i64 (.v 4)), (.it .i64 (.v 5)), (.it .i64 (.v 6))])), (24, (.bo (.c .false))), (23, (.bo (.c .false))), (22, (.bo (.c .true))), (21, (.pt (.n 1) (.c 1))), (10, (.it .i64 (.c 0))), (9, (.bo (.c .false))), (7, (.pt (.n 6) (.c 0))), (20, (.bo (.c .false))), (19, (.it .i64 (.c 0))), (18, (.ag [(.it .i64 (.c 0)), (.it .i64 (.c 0)), (.it .i64 (.c 0))])), (13, (.tp [(.ag [(.it .i64 (.c 0)), (.it .i64 (.c 0)), (.it .i64 (.c 0))]), (.it .i64 (.c 0)), (.bo (.c .false))])), (17, (.tp [(.ag [(.it .i64 (.c 0)), (.it .i64 (.c 0)), (.it .i64 (.c 0))]), (.it .i64 (.c 0)), (.bo (.c .false))])), (16, (.it .i64 (.v 4))), (15, (.pt (.n 0) (.c 0))), (14, (.ag [(.sl (.k 0) (.v 2) (.v 1) (.v 3)), (.bo (.c .true))])), (6, (.pt (.n 1) (.c 0))), (12, (.ag [(.sl (.k 0) (.v 2) (.v 1) (.v 3)), (.bo (.c .true))])), (11, (.sl (.k 0) (.v 2) (.v 1) (.v 3))), (4, .sn), (3, (.pt (.n 0) (.c 0))), (0, (.sl (.k 0) (.v 2) (.v 1) (.v 3))), (1, (.ag [(.it .i64 (.v 4)), (.it .i64 (.v 5)), (.it .i64 (.v 6))]))], [(.inRegion (opsC (atC Try.f56 [1, 0, 1, 1, 1, 1, 1, 0, 1, 0])) [3, 4]), (.code (atC Try.f56 [1, 0, 1, 1, 1, 1, 1, 0, 1, 1])), (.code (atC Try.f56 [1, 0, 1, 1, 1, 1, 1, 1])), (.inScope (atC Try.f56 [1, 0]))], [], .none⟩],
    ⟨[(0, (.cells [(.it .i64 (.v 4)), (.it .i64 (.v 5)), (.it .i64 (.v 6))] 58)), (1, (.cells [(.sl (.k 0) (.v 2) (.v 1) (.v 3)), (.bo (.c .true))] 137)), (6, (.cells [(.it .i64 (.c 0)), (.it .i64 (.c 0)), (.it .i64 (.c 0))] 58)), (8, (.cells [(.it .i64 (.v 6))] 22)), (9, (.cells [(.it .i64 (.c 0)), (.it .i64 (.c 0)), (.it .i64 (.c 0))] 58))], 10, 0, 0, [((.ap 23 (.v 4) (.v 5) (.v 6) (.c 0) (.c 0) (.c 0)), .true), ((.lt (.v 27) (.v 1)), .false), ((.ap 20 (.v 0) (.v 1) (.c 0) (.c 0) (.c 0) (.c 0)), .true), ((.le (.v 1) (.v 3)), .true), ((.le (.c 0) (.v 3)), .true)], [1, 0], [(1, (0, 1000)), (4, ((-9223372036854775808), 9223372036854775807)), (5, ((-9223372036854775808), 9223372036854775807)), (6, ((-9223372036854775808), 9223372036854775807)), (2, (0, (-1))), (28, (0, (-1)))]⟩, [28]⟩
noncomputable def hAdd_T4 : Tm := ⟨⟨107, 49, [(10, (.it .i64 (.v 30))), (9, (.it .i64 (.v 29))), (8, (.it .i64 (.v 1))), (4, (.pt (.n 11) (.c 0))), (0, (.sl (.k 0) (.v 2) (.v 1) (.v 3))), (2, (.fn 108 [] []))], [(.code (atC Try.f107 [1, 1, 1, 0, 0, 0])), (.inLoop (atC Try.f107 [1, 1, 1, 0, 0, 0])), (.inBlock 0), (.code (atC Try.f107 [1, 1, 1, 1]))], [], .none⟩, [⟨56, 48, [(37, (.ag [(.it .i64 (.v 4)), (.it .i64 (.v 5)), (.it .i64 (.v 6))])), (36, (.sl (.k 0) (.v 2) (.v 1) (.v 3))), (3, (.pt (.n 0) (.c 0))), (0, (.sl (.k 0) (.v 2) (.v 1) (.v 3)))], [(.inRegion (opsC (atC Try.f56 [1, 0, 1, 1, 1, 1, 1, 1, 0])) [2, 3, 4, 5, 6]), (.code (atC Try.f56 [1, 0, 1, 1, 1, 1, 1, 1, 1])), (.inScope (atC Try.f56 [1, 0]))], [], .none⟩],
    ⟨[(0, (.cells [(.it .i64 (.v 4)), (.it .i64 (.v 5)), (.it .i64 (.v 6))] 58)), (11, (.cells [(.it .i64 (.v 4)), (.it .i64 (.v 5)), (.it .i64 (.v 6))] 58))], 12, 0, 0, [((.lt (.v 28) (.v 1)), .false), ((.ap 23 (.v 4) (.v 5) (.v 6) (.c 0) (.c 0) (.c 0)), .true), ((.lt (.v 27) (.v 1)), .false), ((.ap 20 (.v 0) (.v 1) (.c 0) (.c 0) (.c 0) (.c 0)), .true), ((.le (.v 1) (.v 3)), .true), ((.le (.c 0) (.v 3)), .true), ((.le (.v 29) (.v 30)), .true), ((.le (.v 30) (.v 1)), .true)], [1, 0], [(30, (0, 1000)), (29, (0, 1000)), (1, (0, 1000)), (4, ((-9223372036854775808), 9223372036854775807)), (5, ((-9223372036854775808), 9223372036854775807)), (6, ((-9223372036854775808), 9223372036854775807)), (2, (0, (-1)))]⟩, [30, 29]⟩
noncomputable def hAdd_L0 : List Lf :=
  [(.cut [((.ap 20 (.v 0) (.v 1) (.c 0) (.c 0) (.c 0) (.c 0)), .true), ((.le (.v 1) (.v 3)), .true), ((.le (.c 0) (.v 3)), .true)] 1 ⟨⟨[(27, (.c 0))], []⟩, [(1, 1), (0, 0), (4, 4), (5, 5), (3, 3)], [], []⟩ [] (shT hAdd_T1 ⟨⟨[(27, (.c 0))], []⟩, [(1, 1), (0, 0), (4, 4), (5, 5), (3, 3)], [], []⟩)), (.cut [((.ap 20 (.v 0) (.v 1) (.c 0) (.c 0) (.c 0) (.c 0)), .false), ((.le (.v 1) (.v 3)), .true), ((.le (.c 0) (.v 3)), .true)] 2 ⟨⟨[], []⟩, [(1, 1), (0, 0), (4, 4), (5, 5), (3, 3)], [], []⟩ [] (shT hAdd_T2 ⟨⟨[], []⟩, [(1, 1), (0, 0), (4, 4), (5, 5), (3, 3)], [], []⟩))]
noncomputable def hAdd_L1 : List Lf :=
  [(.fin [((.ap 23 (.v 4) (.v 5) (.v 6) (.c 0) (.c 0) (.c 0)), .true), ((.eq (.ap 3 (.v 0) (.v 27) (.c 0) (.c 0) (.c 0) (.c 0)) (.v 4)), .true), ((.lt (.v 27) (.v 1)), .true), ((.ap 20 (.v 0) (.v 1) (.c 0) (.c 0) (.c 0) (.c 0)), .true), ((.le (.v 1) (.v 3)), .true), ((.le (.c 0) (.v 3)), .true)] 1 ⟨⟨[], []⟩, [], [], []⟩ [(.ei (.ap 27 (.v 0) (.v 1) (.v 4) (.v 5) (.v 6) (.c 0)) (.c 230)), (.fa (.eq (.ap 27 (.v 0) (.v 1) (.v 4) (.v 5) (.v 6) (.c 0)) (.c 0)) .false)] []), (.fin [((.ap 23 (.v 4) (.v 5) (.v 6) (.c 0) (.c 0) (.c 0)), .false), ((.eq (.ap 3 (.v 0) (.v 27) (.c 0) (.c 0) (.c 0) (.c 0)) (.v 4)), .true), ((.lt (.v 27) (.v 1)), .true), ((.ap 20 (.v 0) (.v 1) (.c 0) (.c 0) (.c 0) (.c 0)), .true), ((.le (.v 1) (.v 3)), .true), ((.le (.c 0) (.v 3)), .true)] 1 ⟨⟨[], []⟩, [], [], []⟩ [(.ei (.ap 27 (.v 0) (.v 1) (.v 4) (.v 5) (.v 6) (.c 0)) (.c 2)), (.fa (.eq (.ap 27 (.v 0) (.v 1) (.v 4) (.v 5) (.v 6) (.c 0)) (.c 0)) .false)] []), (.cut [((.eq (.ap 3 (.v 0) (.v 27) (.c 0) (.c 0) (.c 0) (.c 0)) (.v 4)), .false), ((.lt (.v 27) (.v 1)), .true), ((.ap 20 (.v 0) (.v 1) (.c 0) (.c 0) (.c 0) (.c 0)), .true), ((.le (.v 1) (.v 3)), .true), ((.le (.c 0) (.v 3)), .true)] 1 ⟨⟨[(27, (.op .add (.v 27) (.c 1)))], []⟩, [(1, 1), (0, 0), (4, 4), (5, 5), (3, 3)], [], []⟩ [] (shT hAdd_T1 ⟨⟨[(27, (.op .add (.v 27) (.c 1)))], []⟩, [(1, 1), (0, 0), (4, 4), (5, 5), (3, 3)], [], []⟩)), (.cut [((.ap 23 (.v 4) (.v 5) (.v 6) (.c 0) (.c 0) (.c 0)), .true), ((.lt (.v 27) (.v 1)), .false), ((.ap 20 (.v 0) (.v 1) (.c 0) (.c 0) (.c 0) (.c 0)), .true), ((.le (.v 1) (.v 3)), .true), ((.le (.c 0) (.v 3)), .true)] 3 ⟨⟨[(28, (.c 0))], []⟩, [(6, 6), (1, 1), (0, 0), (9, 9), (8, 8)], [], []⟩ [] (shT hAdd_T3 ⟨⟨[(28, (.c 0))], []⟩, [(6, 6), (1, 1), (0, 0), (9, 9), (8, 8)], [], []⟩)), (.fin [((.ap 23 (.v 4) (.v 5) (.v 6) (.c 0) (.c 0) (.c 0)), .false), ((.lt (.v 27) (.v 1)), .false), ((.ap 20 (.v 0) (.v 1) (.c 0) (.c 0) (.c 0) (.c 0)), .true), ((.le (.v 1) (.v 3)), .true), ((.le (.c 0) (.v 3)), .true)] 1 ⟨⟨[], []⟩, [], [], []⟩ [(.ei (.ap 27 (.v 0) (.v 1) (.v 4) (.v 5) (.v 6) (.c 0)) (.c 2)), (.fa (.eq (.ap 27 (.v 0) (.v 1) (.v 4) (.v 5) (.v 6) (.c 0)) (.c 0)) .false)] [])]
noncomputable def hAdd_L2 : List Lf :=
  [(.fin [((.ap 20 (.v 0) (.v 1) (.c 0) (.c 0) (.c 0) (.c 0)), .false), ((.le (.v 1) (.v 3)), .true), ((.le (.c 0) (.v 3)), .true)] 1 ⟨⟨[], []⟩, [], [], []⟩ [(.ei (.ap 27 (.v 0) (.v 1) (.v 4) (.v 5) (.v 6) (.c 0)) (.c 2)), (.fa (.eq (.ap 27 (.v 0) (.v 1) (.v 4) (.v 5) (.v 6) (.c 0)) (.c 0)) .false)] [])]
noncomputable def hAdd_L3 : List Lf :=
  [(.cut [((.ap 10 (.ap 3 (.v 0) (.v 28) (.c 2) (.c 0) (.c 0) (.c 0)) (.v 6) (.c 0) (.c 0) (.c 0) (.c 0)), .true), ((.lt (.v 28) (.v 1)), .true), ((.ap 23 (.v 4) (.v 5) (.v 6) (.c 0) (.c 0) (.c 0)), .true), ((.lt (.v 27) (.v 1)), .false), ((.ap 20 (.v 0) (.v 1) (.c 0) (.c 0) (.c 0) (.c 0)), .true), ((.le (.v 1) (.v 3)), .true), ((.le (.c 0) (.v 3)), .true)] 3 ⟨⟨[(28, (.op .add (.v 28) (.c 1)))], []⟩, [(6, 6), (1, 1), (0, 0), (9, 9), (8, 8)], [], []⟩ [] (shT hAdd_T3 ⟨⟨[(28, (.op .add (.v 28) (.c 1)))], []⟩, [(6, 6), (1, 1), (0, 0), (9, 9), (8, 8)], [], []⟩)), (.fin [((.ap 10 (.ap 3 (.v 0) (.v 28) (.c 2) (.c 0) (.c 0) (.c 0)) (.v 6) (.c 0) (.c 0) (.c 0) (.c 0)), .false), ((.lt (.v 28) (.v 1)), .true), ((.ap 23 (.v 4) (.v 5) (.v 6) (.c 0) (.c 0) (.c 0)), .true), ((.lt (.v 27) (.v 1)), .false), ((.ap 20 (.v 0) (.v 1) (.c 0) (.c 0) (.c 0) (.c 0)), .true), ((.le (.v 1) (.v 3)), .true), ((.le (.c 0) (.v 3)), .true)] 1 ⟨⟨[], []⟩, [], [], []⟩ [(.ei (.ap 27 (.v 0) (.v 1) (.v 4) (.v 5) (.v 6) (.c 0)) (.c 231)), (.fa (.eq (.ap 27 (.v 0) (.v 1) (.v 4) (.v 5) (.v 6) (.c 0)) (.c 0)) .false)] []), (.cut [((.lt (.v 28) (.v 1)), .false), ((.ap 23 (.v 4) (.v 5) (.v 6) (.c 0) (.c 0) (.c 0)), .true), ((.lt (.v 27) (.v 1)), .false), ((.ap 20 (.v 0) (.v 1) (.c 0) (.c 0) (.c 0) (.c 0)), .true), ((.le (.v 1) (.v 3)), .true), ((.le (.c 0) (.v 3)), .true)] 4 ⟨⟨[(29, (.c 0)), (30, (.v 1))], []⟩, [(0, 0), (11, 11)], [], []⟩ [] (shT hAdd_T4 ⟨⟨[(29, (.c 0)), (30, (.v 1))], []⟩, [(0, 0), (11, 11)], [], []⟩))]
noncomputable def hAdd_L4 : List Lf :=
  [(.cut [((.lt (.ap 3 (.v 0) (.op (.shr .u64) (.op .add (.v 29) (.v 30)) (.c 1)) (.c 0) (.c 0) (.c 0) (.c 0)) (.v 4)), .true), ((.lt (.op (.shr .u64) (.op .add (.v 29) (.v 30)) (.c 1)) (.v 1)), .true), ((.lt (.v 29) (.v 30)), .true), ((.lt (.v 28) (.v 1)), .false), ((.ap 23 (.v 4) (.v 5) (.v 6) (.c 0) (.c 0) (.c 0)), .true), ((.lt (.v 27) (.v 1)), .false), ((.ap 20 (.v 0) (.v 1) (.c 0) (.c 0) (.c 0) (.c 0)), .true), ((.le (.v 1) (.v 3)), .true), ((.le (.c 0) (.v 3)), .true), ((.le (.v 29) (.v 30)), .true), ((.le (.v 30) (.v 1)), .true)] 4 ⟨⟨[(29, (.op .add (.op (.shr .u64) (.op .add (.v 29) (.v 30)) (.c 1)) (.c 1))), (30, (.v 30))], []⟩, [(0, 0), (11, 11)], [], []⟩ [(.fa (.le (.op .add (.op (.shr .u64) (.op .add (.v 29) (.v 30)) (.c 1)) (.c 1)) (.v 30)) .true), (.rn (.op .add (.op (.shr .u64) (.op .add (.v 29) (.v 30)) (.c 1)) (.c 1)) 0 1000)] (shT hAdd_T4 ⟨⟨[(29, (.op .add (.op (.shr .u64) (.op .add (.v 29) (.v 30)) (.c 1)) (.c 1))), (30, (.v 30))], []⟩, [(0, 0), (11, 11)], [], []⟩)), (.cut [((.lt (.v 4) (.ap 3 (.v 0) (.op (.shr .u64) (.op .add (.v 29) (.v 30)) (.c 1)) (.c 0) (.c 0) (.c 0) (.c 0))), .true), ((.lt (.ap 3 (.v 0) (.op (.shr .u64) (.op .add (.v 29) (.v 30)) (.c 1)) (.c 0) (.c 0) (.c 0) (.c 0)) (.v 4)), .false), ((.lt (.op (.shr .u64) (.op .add (.v 29) (.v 30)) (.c 1)) (.v 1)), .true), ((.lt (.v 29) (.v 30)), .true), ((.lt (.v 28) (.v 1)), .false), ((.ap 23 (.v 4) (.v 5) (.v 6) (.c 0) (.c 0) (.c 0)), .true), ((.lt (.v 27) (.v 1)), .false), ((.ap 20 (.v 0) (.v 1) (.c 0) (.c 0) (.c 0) (.c 0)), .true), ((.le (.v 1) (.v 3)), .true), ((.le (.c 0) (.v 3)), .true), ((.le (.v 29) (.v 30)), .true), ((.le (.v 30) (.v 1)), .true)] 4 ⟨⟨[(29, (.v 29)), (30, (.op (.shr .u64) (.op .add (.v 29) (.v 30)) (.c 1)))], []⟩, [(0, 0), (11, 11)], [], []⟩ [(.fa (.le (.v 29) (.op (.shr .u64) (.op .add (.v 29) (.v 30)) (.c 1))) .true), (.rn (.op (.shr .u64) (.op .add (.v 29) (.v 30)) (.c 1)) 0 1000)] (shT hAdd_T4 ⟨⟨[(29, (.v 29)), (30, (.op (.shr .u64) (.op .add (.v 29) (.v 30)) (.c 1)))], []⟩, [(0, 0), (11, 11)], [], []⟩)), (.cut [((.lt (.v 4) (.ap 3 (.v 0) (.op (.shr .u64) (.op .add (.v 29) (.v 30)) (.c 1)) (.c 0) (.c 0) (.c 0) (.c 0))), .false), ((.lt (.ap 3 (.v 0) (.op (.shr .u64) (.op .add (.v 29) (.v 30)) (.c 1)) (.c 0) (.c 0) (.c 0) (.c 0)) (.v 4)), .false), ((.lt (.op (.shr .u64) (.op .add (.v 29) (.v 30)) (.c 1)) (.v 1)), .true), ((.lt (.v 29) (.v 30)), .true), ((.lt (.v 28) (.v 1)), .false), ((.ap 23 (.v 4) (.v 5) (.v 6) (.c 0) (.c 0) (.c 0)), .true), ((.lt (.v 27) (.v 1)), .false), ((.ap 20 (.v 0) (.v 1) (.c 0) (.c 0) (.c 0) (.c 0)), .true), ((.le (.v 1) (.v 3)), .true), ((.le (.c 0) (.v 3)), .true), ((.le (.v 29) (.v 30)), .true), ((.le (.v 30) (.v 1)), .true)] 4 ⟨⟨[(29, (.v 29)), (30, (.op (.shr .u64) (.op .add (.v 29) (.v 30)) (.c 1)))], []⟩, [(0, 0), (11, 11)], [], []⟩ [(.fa (.le (.v 29) (.op (.shr .u64) (.op .add (.v 29) (.v 30)) (.c 1))) .true), (.rn (.op (.shr .u64) (.op .add (.v 29) (.v 30)) (.c 1)) 0 1000)] (shT hAdd_T4 ⟨⟨[(29, (.v 29)), (30, (.op (.shr .u64) (.op .add (.v 29) (.v 30)) (.c 1)))], []⟩, [(0, 0), (11, 11)], [], []⟩)), (.bad [((.lt (.op (.shr .u64) (.op .add (.v 29) (.v 30)) (.c 1)) (.v 1)), .false), ((.lt (.v 29) (.v 30)), .true), ((.lt (.v 28) (.v 1)), .false), ((.ap 23 (.v 4) (.v 5) (.v 6) (.c 0) (.c 0) (.c 0)), .true), ((.lt (.v 27) (.v 1)), .false), ((.ap 20 (.v 0) (.v 1) (.c 0) (.c 0) (.c 0) (.c 0)), .true), ((.le (.v 1) (.v 3)), .true), ((.le (.c 0) (.v 3)), .true), ((.le (.v 29) (.v 30)), .true), ((.le (.v 30) (.v 1)), .true)]), (.fin [((.lt (.d 0) (.op .add (.v 1) (.c 1))), .false), ((.le (.v 1) (.d 0)), .true), ((.lt (.ap 3 (.v 0) (.v 29) (.c 0) (.c 0) (.c 0) (.c 0)) (.v 4)), .true), ((.lt (.v 29) (.v 1)), .true), ((.lt (.v 29) (.v 30)), .false), ((.lt (.v 28) (.v 1)), .false), ((.ap 23 (.v 4) (.v 5) (.v 6) (.c 0) (.c 0) (.c 0)), .true), ((.lt (.v 27) (.v 1)), .false), ((.ap 20 (.v 0) (.v 1) (.c 0) (.c 0) (.c 0) (.c 0)), .true), ((.le (.v 1) (.v 3)), .true), ((.le (.c 0) (.v 3)), .true), ((.le (.v 29) (.v 30)), .true), ((.le (.v 30) (.v 1)), .true)] 0 ⟨⟨[], []⟩, [(0, 17)], [(0, (.d 0))], []⟩ [(.ar [(.nt .i64), (.nt .i64), (.nt .i64)] (.ap 23 (.v 0) (.v 1) (.ap 24 (.v 0) (.v 1) (.v 4) (.c 0) (.c 0) (.c 0)) (.v 4) (.v 5) (.v 6)) (.ap 9 (.ap 9 (.v 0) (.op .add (.v 29) (.c 1)) (.v 0) (.v 29) (.op .sub (.op .add (.v 1) (.c 1)) (.op .add (.v 29) (.c 1))) (.c 0)) (.v 29) (.ap 8 (.ap 8 (.ap 8 (.c 0) (.c 0) (.c 0) (.v 4) (.c 0) (.c 0)) (.c 0) (.c 1) (.v 5) (.c 0) (.c 0)) (.c 0) (.c 2) (.v 6) (.c 0) (.c 0)) (.c 0) (.c 1) (.c 0)) (.op .add (.v 1) (.c 1)))] [.none]), (.fin [((.le (.op .add (.v 1) (.c 1)) (.d 1)), .true), ((.lt (.d 0) (.op .add (.v 1) (.c 1))), .true), ((.le (.v 1) (.d 0)), .true), ((.lt (.ap 3 (.v 0) (.v 29) (.c 0) (.c 0) (.c 0) (.c 0)) (.v 4)), .true), ((.lt (.v 29) (.v 1)), .true), ((.lt (.v 29) (.v 30)), .false), ((.lt (.v 28) (.v 1)), .false), ((.ap 23 (.v 4) (.v 5) (.v 6) (.c 0) (.c 0) (.c 0)), .true), ((.lt (.v 27) (.v 1)), .false), ((.ap 20 (.v 0) (.v 1) (.c 0) (.c 0) (.c 0) (.c 0)), .true), ((.le (.v 1) (.v 3)), .true), ((.le (.c 0) (.v 3)), .true), ((.le (.v 29) (.v 30)), .true), ((.le (.v 30) (.v 1)), .true)] 0 ⟨⟨[], []⟩, [(0, 19)], [(0, (.d 1))], []⟩ [(.ar [(.nt .i64), (.nt .i64), (.nt .i64)] (.ap 23 (.v 0) (.v 1) (.ap 24 (.v 0) (.v 1) (.v 4) (.c 0) (.c 0) (.c 0)) (.v 4) (.v 5) (.v 6)) (.ap 9 (.ap 9 (.ap 9 (.v 0) (.v 29) (.c 0) (.c 0) (.op .sub (.op .add (.v 1) (.c 1)) (.v 29)) (.c 0)) (.v 29) (.ap 8 (.ap 8 (.ap 8 (.c 0) (.c 0) (.c 0) (.v 4) (.c 0) (.c 0)) (.c 0) (.c 1) (.v 5) (.c 0) (.c 0)) (.c 0) (.c 2) (.v 6) (.c 0) (.c 0)) (.c 0) (.c 1) (.c 0)) (.op .add (.v 29) (.c 1)) (.v 0) (.v 29) (.op .sub (.v 1) (.v 29)) (.c 0)) (.op .add (.v 1) (.c 1)))] [.none]), (.fin [((.lt (.d 0) (.op .add (.v 1) (.c 1))), .false), ((.le (.v 1) (.d 0)), .true), ((.lt (.v 4) (.ap 3 (.v 0) (.v 29) (.c 0) (.c 0) (.c 0) (.c 0))), .true), ((.lt (.ap 3 (.v 0) (.v 29) (.c 0) (.c 0) (.c 0) (.c 0)) (.v 4)), .false), ((.lt (.v 29) (.v 1)), .true), ((.lt (.v 29) (.v 30)), .false), ((.lt (.v 28) (.v 1)), .false), ((.ap 23 (.v 4) (.v 5) (.v 6) (.c 0) (.c 0) (.c 0)), .true), ((.lt (.v 27) (.v 1)), .false), ((.ap 20 (.v 0) (.v 1) (.c 0) (.c 0) (.c 0) (.c 0)), .true), ((.le (.v 1) (.v 3)), .true), ((.le (.c 0) (.v 3)), .true), ((.le (.v 29) (.v 30)), .true), ((.le (.v 30) (.v 1)), .true)] 0 ⟨⟨[], []⟩, [(0, 17)], [(0, (.d 0))], []⟩ [(.ar [(.nt .i64), (.nt .i64), (.nt .i64)] (.ap 23 (.v 0) (.v 1) (.ap 24 (.v 0) (.v 1) (.v 4) (.c 0) (.c 0) (.c 0)) (.v 4) (.v 5) (.v 6)) (.ap 9 (.ap 9 (.v 0) (.op .add (.v 29) (.c 1)) (.v 0) (.v 29) (.op .sub (.op .add (.v 1) (.c 1)) (.op .add (.v 29) (.c 1))) (.c 0)) (.v 29) (.ap 8 (.ap 8 (.ap 8 (.c 0) (.c 0) (.c 0) (.v 4) (.c 0) (.c 0)) (.c 0) (.c 1) (.v 5) (.c 0) (.c 0)) (.c 0) (.c 2) (.v 6) (.c 0) (.c 0)) (.c 0) (.c 1) (.c 0)) (.op .add (.v 1) (.c 1)))] [.none]), (.fin [((.le (.op .add (.v 1) (.c 1)) (.d 1)), .true), ((.lt (.d 0) (.op .add (.v 1) (.c 1))), .true), ((.le (.v 1) (.d 0)), .true), ((.lt (.v 4) (.ap 3 (.v 0) (.v 29) (.c 0) (.c 0) (.c 0) (.c 0))), .true), ((.lt (.ap 3 (.v 0) (.v 29) (.c 0) (.c 0) (.c 0) (.c 0)) (.v 4)), .false), ((.lt (.v 29) (.v 1)), .true), ((.lt (.v 29) (.v 30)), .false), ((.lt (.v 28) (.v 1)), .false), ((.ap 23 (.v 4) (.v 5) (.v 6) (.c 0) (.c 0) (.c 0)), .true), ((.lt (.v 27) (.v 1)), .false), ((.ap 20 (.v 0) (.v 1) (.c 0) (.c 0) (.c 0) (.c 0)), .true), ((.le (.v 1) (.v 3)), .true), ((.le (.c 0) (.v 3)), .true), ((.le (.v 29) (.v 30)), .true), ((.le (.v 30) (.v 1)), .true)] 0 ⟨⟨[], []⟩, [(0, 19)], [(0, (.d 1))], []⟩ [(.ar [(.nt .i64), (.nt .i64), (.nt .i64)] (.ap 23 (.v 0) (.v 1) (.ap 24 (.v 0) (.v 1) (.v 4) (.c 0) (.c 0) (.c 0)) (.v 4) (.v 5) (.v 6)) (.ap 9 (.ap 9 (.ap 9 (.v 0) (.v 29) (.c 0) (.c 0) (.op .sub (.op .add (.v 1) (.c 1)) (.v 29)) (.c 0)) (.v 29) (.ap 8 (.ap 8 (.ap 8 (.c 0) (.c 0) (.c 0) (.v 4) (.c 0) (.c 0)) (.c 0) (.c 1) (.v 5) (.c 0) (.c 0)) (.c 0) (.c 2) (.v 6) (.c 0) (.c 0)) (.c 0) (.c 1) (.c 0)) (.op .add (.v 29) (.c 1)) (.v 0) (.v 29) (.op .sub (.v 1) (.v 29)) (.c 0)) (.op .add (.v 1) (.c 1)))] [.none]), (.fin [((.lt (.d 0) (.op .add (.v 1) (.c 1))), .false), ((.le (.v 1) (.d 0)), .true), ((.lt (.v 4) (.ap 3 (.v 0) (.v 29) (.c 0) (.c 0) (.c 0) (.c 0))), .false), ((.lt (.ap 3 (.v 0) (.v 29) (.c 0) (.c 0) (.c 0) (.c 0)) (.v 4)), .false), ((.lt (.v 29) (.v 1)), .true), ((.lt (.v 29) (.v 30)), .false), ((.lt (.v 28) (.v 1)), .false), ((.ap 23 (.v 4) (.v 5) (.v 6) (.c 0) (.c 0) (.c 0)), .true), ((.lt (.v 27) (.v 1)), .false), ((.ap 20 (.v 0) (.v 1) (.c 0) (.c 0) (.c 0) (.c 0)), .true), ((.le (.v 1) (.v 3)), .true), ((.le (.c 0) (.v 3)), .true), ((.le (.v 29) (.v 30)), .true), ((.le (.v 30) (.v 1)), .true)] 0 ⟨⟨[], []⟩, [(0, 17)], [(0, (.d 0))], []⟩ [(.ar [(.nt .i64), (.nt .i64), (.nt .i64)] (.ap 23 (.v 0) (.v 1) (.ap 24 (.v 0) (.v 1) (.v 4) (.c 0) (.c 0) (.c 0)) (.v 4) (.v 5) (.v 6)) (.ap 9 (.ap 9 (.v 0) (.op .add (.v 29) (.c 1)) (.v 0) (.v 29) (.op .sub (.op .add (.v 1) (.c 1)) (.op .add (.v 29) (.c 1))) (.c 0)) (.v 29) (.ap 8 (.ap 8 (.ap 8 (.c 0) (.c 0) (.c 0) (.v 4) (.c 0) (.c 0)) (.c 0) (.c 1) (.v 5) (.c 0) (.c 0)) (.c 0) (.c 2) (.v 6) (.c 0) (.c 0)) (.c 0) (.c 1) (.c 0)) (.op .add (.v 1) (.c 1)))] [.none]), (.fin [((.le (.op .add (.v 1) (.c 1)) (.d 1)), .true), ((.lt (.d 0) (.op .add (.v 1) (.c 1))), .true), ((.le (.v 1) (.d 0)), .true), ((.lt (.v 4) (.ap 3 (.v 0) (.v 29) (.c 0) (.c 0) (.c 0) (.c 0))), .false), ((.lt (.ap 3 (.v 0) (.v 29) (.c 0) (.c 0) (.c 0) (.c 0)) (.v 4)), .false), ((.lt (.v 29) (.v 1)), .true), ((.lt (.v 29) (.v 30)), .false), ((.lt (.v 28) (.v 1)), .false), ((.ap 23 (.v 4) (.v 5) (.v 6) (.c 0) (.c 0) (.c 0)), .true), ((.lt (.v 27) (.v 1)), .false), ((.ap 20 (.v 0) (.v 1) (.c 0) (.c 0) (.c 0) (.c 0)), .true), ((.le (.v 1) (.v 3)), .true), ((.le (.c 0) (.v 3)), .true), ((.le (.v 29) (.v 30)), .true), ((.le (.v 30) (.v 1)), .true)] 0 ⟨⟨[], []⟩, [(0, 19)], [(0, (.d 1))], []⟩ [(.ar [(.nt .i64), (.nt .i64), (.nt .i64)] (.ap 23 (.v 0) (.v 1) (.ap 24 (.v 0) (.v 1) (.v 4) (.c 0) (.c 0) (.c 0)) (.v 4) (.v 5) (.v 6)) (.ap 9 (.ap 9 (.ap 9 (.v 0) (.v 29) (.c 0) (.c 0) (.op .sub (.op .add (.v 1) (.c 1)) (.v 29)) (.c 0)) (.v 29) (.ap 8 (.ap 8 (.ap 8 (.c 0) (.c 0) (.c 0) (.v 4) (.c 0) (.c 0)) (.c 0) (.c 1) (.v 5) (.c 0) (.c 0)) (.c 0) (.c 2) (.v 6) (.c 0) (.c 0)) (.c 0) (.c 1) (.c 0)) (.op .add (.v 29) (.c 1)) (.v 0) (.v 29) (.op .sub (.v 1) (.v 29)) (.c 0)) (.op .add (.v 1) (.c 1)))] [.none]), (.fin [((.le (.op .add (.v 1) (.c 1)) (.d 1)), .true), ((.le (.v 1) (.d 0)), .true), ((.lt (.v 29) (.v 1)), .false), ((.lt (.v 29) (.v 30)), .false), ((.lt (.v 28) (.v 1)), .false), ((.ap 23 (.v 4) (.v 5) (.v 6) (.c 0) (.c 0) (.c 0)), .true), ((.lt (.v 27) (.v 1)), .false), ((.ap 20 (.v 0) (.v 1) (.c 0) (.c 0) (.c 0) (.c 0)), .true), ((.le (.v 1) (.v 3)), .true), ((.le (.c 0) (.v 3)), .true), ((.le (.v 29) (.v 30)), .true), ((.le (.v 30) (.v 1)), .true)] 0 ⟨⟨[], []⟩, [(0, 15)], [(0, (.d 1))], []⟩ [(.ar [(.nt .i64), (.nt .i64), (.nt .i64)] (.ap 23 (.v 0) (.v 1) (.ap 24 (.v 0) (.v 1) (.v 4) (.c 0) (.c 0) (.c 0)) (.v 4) (.v 5) (.v 6)) (.ap 8 (.ap 8 (.ap 8 (.v 0) (.v 1) (.c 0) (.v 4) (.c 0) (.c 0)) (.v 1) (.c 1) (.v 5) (.c 0) (.c 0)) (.v 1) (.c 2) (.v 6) (.c 0) (.c 0)) (.op .add (.v 1) (.c 1)))] [.none])]
set_option maxRecDepth 100000 in
theorem hAdd_h0 : (ex (ccOf Try.prog BF [58, 84] hAdd) ((fun cc => [hOf.ent cc, hMay.ent cc, eFits.ent cc]) (ccOf Try.prog BF [58, 84] hAdd)) (dw (ccOf Try.prog BF [58, 84] hAdd) ((fun cc => [hOf.ent cc, hMay.ent cc, eFits.ent cc]) (ccOf Try.prog BF [58, 84] hAdd)) 1000 4) (stopX []) 4000 (tm0 hAdd Try.f56 (Try.f56.body.getD .skip)).f (tm0 hAdd Try.f56 (Try.f56.body.getD .skip)).fs (tm0 hAdd Try.f56 (Try.f56.body.getD .skip)).H).lfs (ccOf Try.prog BF [58, 84] hAdd) ((tm0 hAdd Try.f56 (Try.f56.body.getD .skip)) :: [hAdd_T1, hAdd_T2, hAdd_T3, hAdd_T4]) hAdd.os = some hAdd_L0 := by kernel_rfl
set_option maxRecDepth 100000 in
theorem hAdd_h1 : (ex (ccOf Try.prog BF [58, 84] hAdd) ((fun cc => [hOf.ent cc, hMay.ent cc, eFits.ent cc]) (ccOf Try.prog BF [58, 84] hAdd)) (dw (ccOf Try.prog BF [58, 84] hAdd) ((fun cc => [hOf.ent cc, hMay.ent cc, eFits.ent cc]) (ccOf Try.prog BF [58, 84] hAdd)) 1000 4) (stopX []) 4000 hAdd_T1.f hAdd_T1.fs hAdd_T1.H).lfs (ccOf Try.prog BF [58, 84] hAdd) ((tm0 hAdd Try.f56 (Try.f56.body.getD .skip)) :: [hAdd_T1, hAdd_T2, hAdd_T3, hAdd_T4]) hAdd.os = some hAdd_L1 := by kernel_rfl
set_option maxRecDepth 100000 in
theorem hAdd_h2 : (ex (ccOf Try.prog BF [58, 84] hAdd) ((fun cc => [hOf.ent cc, hMay.ent cc, eFits.ent cc]) (ccOf Try.prog BF [58, 84] hAdd)) (dw (ccOf Try.prog BF [58, 84] hAdd) ((fun cc => [hOf.ent cc, hMay.ent cc, eFits.ent cc]) (ccOf Try.prog BF [58, 84] hAdd)) 1000 4) (stopX []) 4000 hAdd_T2.f hAdd_T2.fs hAdd_T2.H).lfs (ccOf Try.prog BF [58, 84] hAdd) ((tm0 hAdd Try.f56 (Try.f56.body.getD .skip)) :: [hAdd_T1, hAdd_T2, hAdd_T3, hAdd_T4]) hAdd.os = some hAdd_L2 := by kernel_rfl
set_option maxRecDepth 100000 in
theorem hAdd_h3 : (ex (ccOf Try.prog BF [58, 84] hAdd) ((fun cc => [hOf.ent cc, hMay.ent cc, eFits.ent cc]) (ccOf Try.prog BF [58, 84] hAdd)) (dw (ccOf Try.prog BF [58, 84] hAdd) ((fun cc => [hOf.ent cc, hMay.ent cc, eFits.ent cc]) (ccOf Try.prog BF [58, 84] hAdd)) 1000 4) (stopX []) 4000 hAdd_T3.f hAdd_T3.fs hAdd_T3.H).lfs (ccOf Try.prog BF [58, 84] hAdd) ((tm0 hAdd Try.f56 (Try.f56.body.getD .skip)) :: [hAdd_T1, hAdd_T2, hAdd_T3, hAdd_T4]) hAdd.os = some hAdd_L3 := by kernel_rfl
set_option maxRecDepth 100000 in
theorem hAdd_h4 : (ex (ccOf Try.prog BF [58, 84] hAdd) ((fun cc => [hOf.ent cc, hMay.ent cc, eFits.ent cc]) (ccOf Try.prog BF [58, 84] hAdd)) (dw (ccOf Try.prog BF [58, 84] hAdd) ((fun cc => [hOf.ent cc, hMay.ent cc, eFits.ent cc]) (ccOf Try.prog BF [58, 84] hAdd)) 1000 4) (stopX []) 4000 hAdd_T4.f hAdd_T4.fs hAdd_T4.H).lfs (ccOf Try.prog BF [58, 84] hAdd) ((tm0 hAdd Try.f56 (Try.f56.body.getD .skip)) :: [hAdd_T1, hAdd_T2, hAdd_T3, hAdd_T4]) hAdd.os = some hAdd_L4 := by kernel_rfl
def hAdd_inv : (Nat → Int) → (Nat → Bool) → Nat → (Nat → Int) → (Nat → Bool) → Prop := fun iv0 _ k iv _ => match k with
  | 0 => True
  | 1 => rgtP (iv0 0) (iv0 1) ∧ 0 ≤ iv 27 ∧ iv 27 ≤ iv0 1 ∧ ∀ j : Nat, (j : Int) < iv 27 → fl (iv0 0) j 0 ≠ iv0 4
  | 2 => ¬ rgtP (iv0 0) (iv0 1)
  | 3 => rgtP (iv0 0) (iv0 1) ∧ mayP (iv0 4) (iv0 5) (iv0 6) ∧ ¬ 0 ≤ fndC (iv0 0) (iv0 1) (iv0 4) ∧ 0 ≤ iv 28 ∧ iv 28 ≤ iv0 1 ∧ ∀ j : Nat, (j : Int) < iv 28 → fitP (fl (iv0 0) j 2) (iv0 6)
  | _ => rgtP (iv0 0) (iv0 1) ∧ addP (iv0 0) (iv0 1) (iv0 4) (iv0 5) (iv0 6) = 0 ∧ 0 ≤ iv 29 ∧ iv 29 ≤ iv 30 ∧ iv 30 ≤ iv0 1 ∧ (∀ j : Nat, (j : Int) < iv 29 → fl (iv0 0) j 0 < iv0 4) ∧ (iv 30 < iv0 1 → iv0 4 ≤ fl (iv0 0) (iv 30).toNat 0)
def hAdd_mu : (Nat → Int) → (Nat → Bool) → Nat → (Nat → Int) → (Nat → Bool) → Nat := fun iv0 _ k iv _ => match k with | 0 => 2 ^ 80 | 1 => 2 ^ 78 + (iv0 1 - iv 27).toNat | 2 => 0 | 3 => 2 ^ 77 + (iv0 1 - iv 28).toNat | _ => (iv 30 - iv 29).toNat
set_option maxHeartbeats 0 in
theorem hAdd_o0 (kv : Kv) (iv0 : Nat → Int) (bv0 : Nat → Bool) (hin : InB hAdd.B iv0) (hF : FT (sta FI FB kv iv0 bv0) (dlt dyn0) hAdd.F) (iv : Nat → Int) (bv : Nat → Bool) (ha : Agr 7 iv0 bv0 iv bv) (hi : hAdd_inv iv0 bv0 0 iv bv) :
    ∀ lf ∈ hAdd_L0, LfT (sta FI FB kv) hAdd.os (hAdd_inv iv0 bv0) (hAdd_mu iv0 bv0) 0 iv bv lf := by
  unfold hAdd_L0
  refine List.forall_mem_cons.2 ⟨?_, List.forall_mem_cons.2 ⟨?_, List.forall_mem_nil _⟩⟩
  all_goals
    intro δ hf
  all_goals
    simp only [FT, TP, SB.tp, SI.tv, sta, IB.eval, and_true, true_and, ObsT, Ob.Tv, rowT, kix, In.tiv, ↓tbvT, In.tbv, get_cons, get_nil, reduceIte, Nat.reduceEqDiff, Int.reduceToNat, Int.reduceAdd, Int.reduceSub, Int.reduceLE, Int.reduceLT, Int.reduceEq, ne_eq, Bool.false_eq_true, not_true_eq_false, not_false_eq_true, true_iff, false_iff, iff_true, iff_false, false_implies, implies_true, decT, decide_true, decide_false, Bool.decide_eq_true, ap2, pb2, FI_3, FI_8, FI_9, FI_10, FI_11, FI_12, FI_13, FB_10, FB_11, FB_12, FB_13, FB_14, FB_15, FB_16, FI_20, FI_21, FI_22, FI_23, FI_24, FI_25, FI_26, FB_20, FB_21, FB_22, FB_23, FB_24, FB_25, FB_26, FB_27, FI_27, Int.toNat_natCast, Int.toNat_zero] at hf
  all_goals
    have a0 := ha.1 0 (by omega)
    have a1 := ha.1 1 (by omega)
    have a2 := ha.1 2 (by omega)
    have a3 := ha.1 3 (by omega)
    have a4 := ha.1 4 (by omega)
    have a5 := ha.1 5 (by omega)
    have a6 := ha.1 6 (by omega)
  all_goals
    have b1 := hin 1 0 1000 (by simp [hAdd, bH, gH, fM, lH, nw, ap3, i64b, kH, ap3, pb3, pb4, i64l, lH2, gH2, bH2, fM2, bE, oEnd, ap3, pb3, pb4, i64l, bA, ap6, apA, hV, oAdd])
    simp only [Int.reduceLE, reduceIte, Int.reduceNeg] at b1
  all_goals
    have b4 := hin 4 (-9223372036854775808) 9223372036854775807 (by simp [hAdd, bH, gH, fM, lH, nw, ap3, i64b, kH, ap3, pb3, pb4, i64l, lH2, gH2, bH2, fM2, bE, oEnd, ap3, pb3, pb4, i64l, bA, ap6, apA, hV, oAdd])
    simp only [Int.reduceLE, reduceIte, Int.reduceNeg] at b4
  all_goals
    have b5 := hin 5 (-9223372036854775808) 9223372036854775807 (by simp [hAdd, bH, gH, fM, lH, nw, ap3, i64b, kH, ap3, pb3, pb4, i64l, lH2, gH2, bH2, fM2, bE, oEnd, ap3, pb3, pb4, i64l, bA, ap6, apA, hV, oAdd])
    simp only [Int.reduceLE, reduceIte, Int.reduceNeg] at b5
  all_goals
    have b6 := hin 6 (-9223372036854775808) 9223372036854775807 (by simp [hAdd, bH, gH, fM, lH, nw, ap3, i64b, kH, ap3, pb3, pb4, i64l, lH2, gH2, bH2, fM2, bE, oEnd, ap3, pb3, pb4, i64l, bA, ap6, apA, hV, oAdd])
    simp only [Int.reduceLE, reduceIte, Int.reduceNeg] at b6
  all_goals
    simp only [FT, TP, SB.tp, SI.tv, sta, IB.eval, and_true, true_and, ObsT, Ob.Tv, rowT, kix, In.tiv, ↓tbvT, In.tbv, get_cons, get_nil, reduceIte, Nat.reduceEqDiff, Int.reduceToNat, Int.reduceAdd, Int.reduceSub, Int.reduceLE, Int.reduceLT, Int.reduceEq, ne_eq, Bool.false_eq_true, not_true_eq_false, not_false_eq_true, true_iff, false_iff, iff_true, iff_false, false_implies, implies_true, decT, decide_true, decide_false, Bool.decide_eq_true, ap2, pb2, FI_3, FI_8, FI_9, FI_10, FI_11, FI_12, FI_13, FB_10, FB_11, FB_12, FB_13, FB_14, FB_15, FB_16, FI_20, FI_21, FI_22, FI_23, FI_24, FI_25, FI_26, FB_20, FB_21, FB_22, FB_23, FB_24, FB_25, FB_26, FB_27, FI_27, Int.toNat_natCast, Int.toNat_zero, hAdd_inv, hAdd_mu, hAdd, o1, othT, bH, gH, fM, lH, nw, ap3, i64b, kH, ap3, pb3, pb4, i64l, lH2, gH2, bH2, fM2, bE, oEnd, ap3, pb3, pb4, i64l, bA, ap6, apA, hV, oAdd, a0, a1, a2, a3, a4, a5, a6] at hf hi ⊢
  all_goals
    have ad2 := @addP_2 (iv0 0) (iv0 1) (iv0 4) (iv0 5) (iv0 6)
    have ad230 := @addP_230 (iv0 0) (iv0 1) (iv0 4) (iv0 5) (iv0 6)
    have ad231 := @addP_231 (iv0 0) (iv0 1) (iv0 4) (iv0 5) (iv0 6)
    have ad0 := @addP_0 (iv0 0) (iv0 1) (iv0 4) (iv0 5) (iv0 6)
    have w4 := i64_eq' (iv0 4) b4
    have w5 := i64_eq' (iv0 5) b5
    have w6 := i64_eq' (iv0 6) b6
  all_goals
    (repeat' (with_reducible apply And.intro)) <;> first
    | omega
    | assumption
    | (unfold inM; omega)
    | exact hf.1
    | exact fun j hj => by omega
    | (clear hin hF ha; grind)
set_option maxHeartbeats 0 in
theorem hAdd_o1 (kv : Kv) (iv0 : Nat → Int) (bv0 : Nat → Bool) (hin : InB hAdd.B iv0) (hF : FT (sta FI FB kv iv0 bv0) (dlt dyn0) hAdd.F) (iv : Nat → Int) (bv : Nat → Bool) (ha : Agr 7 iv0 bv0 iv bv) (hi : hAdd_inv iv0 bv0 1 iv bv) :
    ∀ lf ∈ hAdd_L1, LfT (sta FI FB kv) hAdd.os (hAdd_inv iv0 bv0) (hAdd_mu iv0 bv0) 1 iv bv lf := by
  unfold hAdd_L1
  refine List.forall_mem_cons.2 ⟨?_, List.forall_mem_cons.2 ⟨?_, List.forall_mem_cons.2 ⟨?_, List.forall_mem_cons.2 ⟨?_, List.forall_mem_cons.2 ⟨?_, List.forall_mem_nil _⟩⟩⟩⟩⟩
  all_goals
    intro δ hf
  all_goals
    simp only [FT, TP, SB.tp, SI.tv, sta, IB.eval, and_true, true_and, ObsT, Ob.Tv, rowT, kix, In.tiv, ↓tbvT, In.tbv, get_cons, get_nil, reduceIte, Nat.reduceEqDiff, Int.reduceToNat, Int.reduceAdd, Int.reduceSub, Int.reduceLE, Int.reduceLT, Int.reduceEq, ne_eq, Bool.false_eq_true, not_true_eq_false, not_false_eq_true, true_iff, false_iff, iff_true, iff_false, false_implies, implies_true, decT, decide_true, decide_false, Bool.decide_eq_true, ap2, pb2, FI_3, FI_8, FI_9, FI_10, FI_11, FI_12, FI_13, FB_10, FB_11, FB_12, FB_13, FB_14, FB_15, FB_16, FI_20, FI_21, FI_22, FI_23, FI_24, FI_25, FI_26, FB_20, FB_21, FB_22, FB_23, FB_24, FB_25, FB_26, FB_27, FI_27, Int.toNat_natCast, Int.toNat_zero] at hf
  all_goals
    have a0 := ha.1 0 (by omega)
    have a1 := ha.1 1 (by omega)
    have a2 := ha.1 2 (by omega)
    have a3 := ha.1 3 (by omega)
    have a4 := ha.1 4 (by omega)
    have a5 := ha.1 5 (by omega)
    have a6 := ha.1 6 (by omega)
  all_goals
    have b1 := hin 1 0 1000 (by simp [hAdd, bH, gH, fM, lH, nw, ap3, i64b, kH, ap3, pb3, pb4, i64l, lH2, gH2, bH2, fM2, bE, oEnd, ap3, pb3, pb4, i64l, bA, ap6, apA, hV, oAdd])
    simp only [Int.reduceLE, reduceIte, Int.reduceNeg] at b1
  all_goals
    have b4 := hin 4 (-9223372036854775808) 9223372036854775807 (by simp [hAdd, bH, gH, fM, lH, nw, ap3, i64b, kH, ap3, pb3, pb4, i64l, lH2, gH2, bH2, fM2, bE, oEnd, ap3, pb3, pb4, i64l, bA, ap6, apA, hV, oAdd])
    simp only [Int.reduceLE, reduceIte, Int.reduceNeg] at b4
  all_goals
    have b5 := hin 5 (-9223372036854775808) 9223372036854775807 (by simp [hAdd, bH, gH, fM, lH, nw, ap3, i64b, kH, ap3, pb3, pb4, i64l, lH2, gH2, bH2, fM2, bE, oEnd, ap3, pb3, pb4, i64l, bA, ap6, apA, hV, oAdd])
    simp only [Int.reduceLE, reduceIte, Int.reduceNeg] at b5
  all_goals
    have b6 := hin 6 (-9223372036854775808) 9223372036854775807 (by simp [hAdd, bH, gH, fM, lH, nw, ap3, i64b, kH, ap3, pb3, pb4, i64l, lH2, gH2, bH2, fM2, bE, oEnd, ap3, pb3, pb4, i64l, bA, ap6, apA, hV, oAdd])
    simp only [Int.reduceLE, reduceIte, Int.reduceNeg] at b6
  all_goals
    simp only [FT, TP, SB.tp, SI.tv, sta, IB.eval, and_true, true_and, ObsT, Ob.Tv, rowT, kix, In.tiv, ↓tbvT, In.tbv, get_cons, get_nil, reduceIte, Nat.reduceEqDiff, Int.reduceToNat, Int.reduceAdd, Int.reduceSub, Int.reduceLE, Int.reduceLT, Int.reduceEq, ne_eq, Bool.false_eq_true, not_true_eq_false, not_false_eq_true, true_iff, false_iff, iff_true, iff_false, false_implies, implies_true, decT, decide_true, decide_false, Bool.decide_eq_true, ap2, pb2, FI_3, FI_8, FI_9, FI_10, FI_11, FI_12, FI_13, FB_10, FB_11, FB_12, FB_13, FB_14, FB_15, FB_16, FI_20, FI_21, FI_22, FI_23, FI_24, FI_25, FI_26, FB_20, FB_21, FB_22, FB_23, FB_24, FB_25, FB_26, FB_27, FI_27, Int.toNat_natCast, Int.toNat_zero, hAdd_inv, hAdd_mu, hAdd, o1, othT, bH, gH, fM, lH, nw, ap3, i64b, kH, ap3, pb3, pb4, i64l, lH2, gH2, bH2, fM2, bE, oEnd, ap3, pb3, pb4, i64l, bA, ap6, apA, hV, oAdd, a0, a1, a2, a3, a4, a5, a6] at hf hi ⊢
  all_goals
    have ad2 := @addP_2 (iv0 0) (iv0 1) (iv0 4) (iv0 5) (iv0 6)
    have ad230 := @addP_230 (iv0 0) (iv0 1) (iv0 4) (iv0 5) (iv0 6)
    have ad231 := @addP_231 (iv0 0) (iv0 1) (iv0 4) (iv0 5) (iv0 6)
    have ad0 := @addP_0 (iv0 0) (iv0 1) (iv0 4) (iv0 5) (iv0 6)
    have w4 := i64_eq' (iv0 4) b4
    have w5 := i64_eq' (iv0 5) b5
    have w6 := i64_eq' (iv0 6) b6
  all_goals
    have hfa := fun h1 h2 => @fnd_at (iv0 0) (iv0 1) (iv0 4) (iv 27) (by omega) hi.2.1 h1 h2 hi.2.2.2
    have hfn := fun h => @fnd_no (iv0 0) (iv0 1) (iv0 4) (iv 27) (by omega) h hi.2.2.2
  all_goals
    (repeat' (with_reducible apply And.intro)) <;> first
    | omega
    | assumption
    | (unfold inM; omega)
    | exact hi.1
    | (first | exact hf.1 | exact hf.2.1 | exact hf.2.2.1)
    | exact all_succ hi.2.1 hi.2.2.2 hf.1
    | exact fun j hj => by omega
    | (clear hin hF ha; grind)
set_option maxHeartbeats 0 in
theorem hAdd_o2 (kv : Kv) (iv0 : Nat → Int) (bv0 : Nat → Bool) (hin : InB hAdd.B iv0) (hF : FT (sta FI FB kv iv0 bv0) (dlt dyn0) hAdd.F) (iv : Nat → Int) (bv : Nat → Bool) (ha : Agr 7 iv0 bv0 iv bv) (hi : hAdd_inv iv0 bv0 2 iv bv) :
    ∀ lf ∈ hAdd_L2, LfT (sta FI FB kv) hAdd.os (hAdd_inv iv0 bv0) (hAdd_mu iv0 bv0) 2 iv bv lf := by
  unfold hAdd_L2
  refine List.forall_mem_cons.2 ⟨?_, List.forall_mem_nil _⟩
  all_goals
    intro δ hf
  all_goals
    simp only [FT, TP, SB.tp, SI.tv, sta, IB.eval, and_true, true_and, ObsT, Ob.Tv, rowT, kix, In.tiv, ↓tbvT, In.tbv, get_cons, get_nil, reduceIte, Nat.reduceEqDiff, Int.reduceToNat, Int.reduceAdd, Int.reduceSub, Int.reduceLE, Int.reduceLT, Int.reduceEq, ne_eq, Bool.false_eq_true, not_true_eq_false, not_false_eq_true, true_iff, false_iff, iff_true, iff_false, false_implies, implies_true, decT, decide_true, decide_false, Bool.decide_eq_true, ap2, pb2, FI_3, FI_8, FI_9, FI_10, FI_11, FI_12, FI_13, FB_10, FB_11, FB_12, FB_13, FB_14, FB_15, FB_16, FI_20, FI_21, FI_22, FI_23, FI_24, FI_25, FI_26, FB_20, FB_21, FB_22, FB_23, FB_24, FB_25, FB_26, FB_27, FI_27, Int.toNat_natCast, Int.toNat_zero] at hf
  all_goals
    have a0 := ha.1 0 (by omega)
    have a1 := ha.1 1 (by omega)
    have a2 := ha.1 2 (by omega)
    have a3 := ha.1 3 (by omega)
    have a4 := ha.1 4 (by omega)
    have a5 := ha.1 5 (by omega)
    have a6 := ha.1 6 (by omega)
  all_goals
    have b1 := hin 1 0 1000 (by simp [hAdd, bH, gH, fM, lH, nw, ap3, i64b, kH, ap3, pb3, pb4, i64l, lH2, gH2, bH2, fM2, bE, oEnd, ap3, pb3, pb4, i64l, bA, ap6, apA, hV, oAdd])
    simp only [Int.reduceLE, reduceIte, Int.reduceNeg] at b1
  all_goals
    have b4 := hin 4 (-9223372036854775808) 9223372036854775807 (by simp [hAdd, bH, gH, fM, lH, nw, ap3, i64b, kH, ap3, pb3, pb4, i64l, lH2, gH2, bH2, fM2, bE, oEnd, ap3, pb3, pb4, i64l, bA, ap6, apA, hV, oAdd])
    simp only [Int.reduceLE, reduceIte, Int.reduceNeg] at b4
  all_goals
    have b5 := hin 5 (-9223372036854775808) 9223372036854775807 (by simp [hAdd, bH, gH, fM, lH, nw, ap3, i64b, kH, ap3, pb3, pb4, i64l, lH2, gH2, bH2, fM2, bE, oEnd, ap3, pb3, pb4, i64l, bA, ap6, apA, hV, oAdd])
    simp only [Int.reduceLE, reduceIte, Int.reduceNeg] at b5
  all_goals
    have b6 := hin 6 (-9223372036854775808) 9223372036854775807 (by simp [hAdd, bH, gH, fM, lH, nw, ap3, i64b, kH, ap3, pb3, pb4, i64l, lH2, gH2, bH2, fM2, bE, oEnd, ap3, pb3, pb4, i64l, bA, ap6, apA, hV, oAdd])
    simp only [Int.reduceLE, reduceIte, Int.reduceNeg] at b6
  all_goals
    simp only [FT, TP, SB.tp, SI.tv, sta, IB.eval, and_true, true_and, ObsT, Ob.Tv, rowT, kix, In.tiv, ↓tbvT, In.tbv, get_cons, get_nil, reduceIte, Nat.reduceEqDiff, Int.reduceToNat, Int.reduceAdd, Int.reduceSub, Int.reduceLE, Int.reduceLT, Int.reduceEq, ne_eq, Bool.false_eq_true, not_true_eq_false, not_false_eq_true, true_iff, false_iff, iff_true, iff_false, false_implies, implies_true, decT, decide_true, decide_false, Bool.decide_eq_true, ap2, pb2, FI_3, FI_8, FI_9, FI_10, FI_11, FI_12, FI_13, FB_10, FB_11, FB_12, FB_13, FB_14, FB_15, FB_16, FI_20, FI_21, FI_22, FI_23, FI_24, FI_25, FI_26, FB_20, FB_21, FB_22, FB_23, FB_24, FB_25, FB_26, FB_27, FI_27, Int.toNat_natCast, Int.toNat_zero, hAdd_inv, hAdd_mu, hAdd, o1, othT, bH, gH, fM, lH, nw, ap3, i64b, kH, ap3, pb3, pb4, i64l, lH2, gH2, bH2, fM2, bE, oEnd, ap3, pb3, pb4, i64l, bA, ap6, apA, hV, oAdd, a0, a1, a2, a3, a4, a5, a6] at hf hi ⊢
  all_goals
    have ad2 := @addP_2 (iv0 0) (iv0 1) (iv0 4) (iv0 5) (iv0 6)
    have ad230 := @addP_230 (iv0 0) (iv0 1) (iv0 4) (iv0 5) (iv0 6)
    have ad231 := @addP_231 (iv0 0) (iv0 1) (iv0 4) (iv0 5) (iv0 6)
    have ad0 := @addP_0 (iv0 0) (iv0 1) (iv0 4) (iv0 5) (iv0 6)
    have w4 := i64_eq' (iv0 4) b4
    have w5 := i64_eq' (iv0 5) b5
    have w6 := i64_eq' (iv0 6) b6
  all_goals
    (repeat' (with_reducible apply And.intro)) <;> first
    | omega
    | assumption
    | (unfold inM; omega)
    | (clear hin hF ha; grind)
set_option maxHeartbeats 0 in
theorem hAdd_o3 (kv : Kv) (iv0 : Nat → Int) (bv0 : Nat → Bool) (hin : InB hAdd.B iv0) (hF : FT (sta FI FB kv iv0 bv0) (dlt dyn0) hAdd.F) (iv : Nat → Int) (bv : Nat → Bool) (ha : Agr 7 iv0 bv0 iv bv) (hi : hAdd_inv iv0 bv0 3 iv bv) :
    ∀ lf ∈ hAdd_L3, LfT (sta FI FB kv) hAdd.os (hAdd_inv iv0 bv0) (hAdd_mu iv0 bv0) 3 iv bv lf := by
  unfold hAdd_L3
  refine List.forall_mem_cons.2 ⟨?_, List.forall_mem_cons.2 ⟨?_, List.forall_mem_cons.2 ⟨?_, List.forall_mem_nil _⟩⟩⟩
  all_goals
    intro δ hf
  all_goals
    simp only [FT, TP, SB.tp, SI.tv, sta, IB.eval, and_true, true_and, ObsT, Ob.Tv, rowT, kix, In.tiv, ↓tbvT, In.tbv, get_cons, get_nil, reduceIte, Nat.reduceEqDiff, Int.reduceToNat, Int.reduceAdd, Int.reduceSub, Int.reduceLE, Int.reduceLT, Int.reduceEq, ne_eq, Bool.false_eq_true, not_true_eq_false, not_false_eq_true, true_iff, false_iff, iff_true, iff_false, false_implies, implies_true, decT, decide_true, decide_false, Bool.decide_eq_true, ap2, pb2, FI_3, FI_8, FI_9, FI_10, FI_11, FI_12, FI_13, FB_10, FB_11, FB_12, FB_13, FB_14, FB_15, FB_16, FI_20, FI_21, FI_22, FI_23, FI_24, FI_25, FI_26, FB_20, FB_21, FB_22, FB_23, FB_24, FB_25, FB_26, FB_27, FI_27, Int.toNat_natCast, Int.toNat_zero] at hf
  all_goals
    have a0 := ha.1 0 (by omega)
    have a1 := ha.1 1 (by omega)
    have a2 := ha.1 2 (by omega)
    have a3 := ha.1 3 (by omega)
    have a4 := ha.1 4 (by omega)
    have a5 := ha.1 5 (by omega)
    have a6 := ha.1 6 (by omega)
  all_goals
    have b1 := hin 1 0 1000 (by simp [hAdd, bH, gH, fM, lH, nw, ap3, i64b, kH, ap3, pb3, pb4, i64l, lH2, gH2, bH2, fM2, bE, oEnd, ap3, pb3, pb4, i64l, bA, ap6, apA, hV, oAdd])
    simp only [Int.reduceLE, reduceIte, Int.reduceNeg] at b1
  all_goals
    have b4 := hin 4 (-9223372036854775808) 9223372036854775807 (by simp [hAdd, bH, gH, fM, lH, nw, ap3, i64b, kH, ap3, pb3, pb4, i64l, lH2, gH2, bH2, fM2, bE, oEnd, ap3, pb3, pb4, i64l, bA, ap6, apA, hV, oAdd])
    simp only [Int.reduceLE, reduceIte, Int.reduceNeg] at b4
  all_goals
    have b5 := hin 5 (-9223372036854775808) 9223372036854775807 (by simp [hAdd, bH, gH, fM, lH, nw, ap3, i64b, kH, ap3, pb3, pb4, i64l, lH2, gH2, bH2, fM2, bE, oEnd, ap3, pb3, pb4, i64l, bA, ap6, apA, hV, oAdd])
    simp only [Int.reduceLE, reduceIte, Int.reduceNeg] at b5
  all_goals
    have b6 := hin 6 (-9223372036854775808) 9223372036854775807 (by simp [hAdd, bH, gH, fM, lH, nw, ap3, i64b, kH, ap3, pb3, pb4, i64l, lH2, gH2, bH2, fM2, bE, oEnd, ap3, pb3, pb4, i64l, bA, ap6, apA, hV, oAdd])
    simp only [Int.reduceLE, reduceIte, Int.reduceNeg] at b6
  all_goals
    simp only [FT, TP, SB.tp, SI.tv, sta, IB.eval, and_true, true_and, ObsT, Ob.Tv, rowT, kix, In.tiv, ↓tbvT, In.tbv, get_cons, get_nil, reduceIte, Nat.reduceEqDiff, Int.reduceToNat, Int.reduceAdd, Int.reduceSub, Int.reduceLE, Int.reduceLT, Int.reduceEq, ne_eq, Bool.false_eq_true, not_true_eq_false, not_false_eq_true, true_iff, false_iff, iff_true, iff_false, false_implies, implies_true, decT, decide_true, decide_false, Bool.decide_eq_true, ap2, pb2, FI_3, FI_8, FI_9, FI_10, FI_11, FI_12, FI_13, FB_10, FB_11, FB_12, FB_13, FB_14, FB_15, FB_16, FI_20, FI_21, FI_22, FI_23, FI_24, FI_25, FI_26, FB_20, FB_21, FB_22, FB_23, FB_24, FB_25, FB_26, FB_27, FI_27, Int.toNat_natCast, Int.toNat_zero, hAdd_inv, hAdd_mu, hAdd, o1, othT, bH, gH, fM, lH, nw, ap3, i64b, kH, ap3, pb3, pb4, i64l, lH2, gH2, bH2, fM2, bE, oEnd, ap3, pb3, pb4, i64l, bA, ap6, apA, hV, oAdd, a0, a1, a2, a3, a4, a5, a6] at hf hi ⊢
  all_goals
    have ad2 := @addP_2 (iv0 0) (iv0 1) (iv0 4) (iv0 5) (iv0 6)
    have ad230 := @addP_230 (iv0 0) (iv0 1) (iv0 4) (iv0 5) (iv0 6)
    have ad231 := @addP_231 (iv0 0) (iv0 1) (iv0 4) (iv0 5) (iv0 6)
    have ad0 := @addP_0 (iv0 0) (iv0 1) (iv0 4) (iv0 5) (iv0 6)
    have w4 := i64_eq' (iv0 4) b4
    have w5 := i64_eq' (iv0 5) b5
    have w6 := i64_eq' (iv0 6) b6
  all_goals
    have hmi : iv 28 < iv0 1 → inM (fl (iv0 0) (iv 28).toNat 2) := fun h1 => by have := (hi.1.1 (iv 28).toNat (by omega)).1.2.2; unfold inM; omega
    have hm6 : inM (iv0 6) := by have := hi.2.1.2.2; unfold inM; omega
    have hfs : ¬ iv 28 < iv0 1 → fitsP (iv0 0) (iv0 1) (iv0 6) := fun h j hj => hi.2.2.2.2.2 j (by omega)
    have hfno : iv 28 < iv0 1 → ¬ fitP (fl (iv0 0) (iv 28).toNat 2) (iv0 6) → ¬ fitsP (iv0 0) (iv0 1) (iv0 6) := fun h1 h2 h3 => h2 (h3 (iv 28).toNat (by omega))
    have hsu := fun h => @all_succ (fun j => fitP (fl (iv0 0) j 2) (iv0 6)) (iv 28) hi.2.2.2.1 hi.2.2.2.2.2 h
  all_goals
    (repeat' (with_reducible apply And.intro)) <;> first
    | omega
    | assumption
    | (unfold inM; omega)
    | exact hi.1
    | exact hi.2.1
    | exact hi.2.2.1
    | (exact hsu (by first | exact hf.1.2.2 | exact hf.2.1.2.2))
    | exact fun j hj => by omega
    | (exact ad0 hi.1 hi.2.1 hi.2.2.1 (hfs (by omega)))
    | (clear hin hF ha; grind)
set_option maxHeartbeats 0 in
theorem hAdd_o4 (kv : Kv) (iv0 : Nat → Int) (bv0 : Nat → Bool) (hin : InB hAdd.B iv0) (hF : FT (sta FI FB kv iv0 bv0) (dlt dyn0) hAdd.F) (iv : Nat → Int) (bv : Nat → Bool) (ha : Agr 7 iv0 bv0 iv bv) (hi : hAdd_inv iv0 bv0 4 iv bv) :
    ∀ lf ∈ hAdd_L4, LfT (sta FI FB kv) hAdd.os (hAdd_inv iv0 bv0) (hAdd_mu iv0 bv0) 4 iv bv lf := by
  unfold hAdd_L4
  refine List.forall_mem_cons.2 ⟨?_, List.forall_mem_cons.2 ⟨?_, List.forall_mem_cons.2 ⟨?_, List.forall_mem_cons.2 ⟨?_, List.forall_mem_cons.2 ⟨?_, List.forall_mem_cons.2 ⟨?_, List.forall_mem_cons.2 ⟨?_, List.forall_mem_cons.2 ⟨?_, List.forall_mem_cons.2 ⟨?_, List.forall_mem_cons.2 ⟨?_, List.forall_mem_cons.2 ⟨?_, List.forall_mem_nil _⟩⟩⟩⟩⟩⟩⟩⟩⟩⟩⟩
  all_goals
    intro δ hf
  all_goals
    simp only [FT, TP, SB.tp, SI.tv, sta, IB.eval, and_true, true_and, ObsT, Ob.Tv, rowT, kix, In.tiv, ↓tbvT, In.tbv, get_cons, get_nil, reduceIte, Nat.reduceEqDiff, Int.reduceToNat, Int.reduceAdd, Int.reduceSub, Int.reduceLE, Int.reduceLT, Int.reduceEq, ne_eq, Bool.false_eq_true, not_true_eq_false, not_false_eq_true, true_iff, false_iff, iff_true, iff_false, false_implies, implies_true, decT, decide_true, decide_false, Bool.decide_eq_true, ap2, pb2, FI_3, FI_8, FI_9, FI_10, FI_11, FI_12, FI_13, FB_10, FB_11, FB_12, FB_13, FB_14, FB_15, FB_16, FI_20, FI_21, FI_22, FI_23, FI_24, FI_25, FI_26, FB_20, FB_21, FB_22, FB_23, FB_24, FB_25, FB_26, FB_27, FI_27, Int.toNat_natCast, Int.toNat_zero] at hf
  all_goals
    have a0 := ha.1 0 (by omega)
    have a1 := ha.1 1 (by omega)
    have a2 := ha.1 2 (by omega)
    have a3 := ha.1 3 (by omega)
    have a4 := ha.1 4 (by omega)
    have a5 := ha.1 5 (by omega)
    have a6 := ha.1 6 (by omega)
  all_goals
    have b1 := hin 1 0 1000 (by simp [hAdd, bH, gH, fM, lH, nw, ap3, i64b, kH, ap3, pb3, pb4, i64l, lH2, gH2, bH2, fM2, bE, oEnd, ap3, pb3, pb4, i64l, bA, ap6, apA, hV, oAdd])
    simp only [Int.reduceLE, reduceIte, Int.reduceNeg] at b1
  all_goals
    have b4 := hin 4 (-9223372036854775808) 9223372036854775807 (by simp [hAdd, bH, gH, fM, lH, nw, ap3, i64b, kH, ap3, pb3, pb4, i64l, lH2, gH2, bH2, fM2, bE, oEnd, ap3, pb3, pb4, i64l, bA, ap6, apA, hV, oAdd])
    simp only [Int.reduceLE, reduceIte, Int.reduceNeg] at b4
  all_goals
    have b5 := hin 5 (-9223372036854775808) 9223372036854775807 (by simp [hAdd, bH, gH, fM, lH, nw, ap3, i64b, kH, ap3, pb3, pb4, i64l, lH2, gH2, bH2, fM2, bE, oEnd, ap3, pb3, pb4, i64l, bA, ap6, apA, hV, oAdd])
    simp only [Int.reduceLE, reduceIte, Int.reduceNeg] at b5
  all_goals
    have b6 := hin 6 (-9223372036854775808) 9223372036854775807 (by simp [hAdd, bH, gH, fM, lH, nw, ap3, i64b, kH, ap3, pb3, pb4, i64l, lH2, gH2, bH2, fM2, bE, oEnd, ap3, pb3, pb4, i64l, bA, ap6, apA, hV, oAdd])
    simp only [Int.reduceLE, reduceIte, Int.reduceNeg] at b6
  all_goals
    simp only [FT, TP, SB.tp, SI.tv, sta, IB.eval, and_true, true_and, ObsT, Ob.Tv, rowT, kix, In.tiv, ↓tbvT, In.tbv, get_cons, get_nil, reduceIte, Nat.reduceEqDiff, Int.reduceToNat, Int.reduceAdd, Int.reduceSub, Int.reduceLE, Int.reduceLT, Int.reduceEq, ne_eq, Bool.false_eq_true, not_true_eq_false, not_false_eq_true, true_iff, false_iff, iff_true, iff_false, false_implies, implies_true, decT, decide_true, decide_false, Bool.decide_eq_true, ap2, pb2, FI_3, FI_8, FI_9, FI_10, FI_11, FI_12, FI_13, FB_10, FB_11, FB_12, FB_13, FB_14, FB_15, FB_16, FI_20, FI_21, FI_22, FI_23, FI_24, FI_25, FI_26, FB_20, FB_21, FB_22, FB_23, FB_24, FB_25, FB_26, FB_27, FI_27, Int.toNat_natCast, Int.toNat_zero, hAdd_inv, hAdd_mu, hAdd, o1, othT, bH, gH, fM, lH, nw, ap3, i64b, kH, ap3, pb3, pb4, i64l, lH2, gH2, bH2, fM2, bE, oEnd, ap3, pb3, pb4, i64l, bA, ap6, apA, hV, oAdd, a0, a1, a2, a3, a4, a5, a6] at hf hi ⊢
  all_goals
    have ad2 := @addP_2 (iv0 0) (iv0 1) (iv0 4) (iv0 5) (iv0 6)
    have ad230 := @addP_230 (iv0 0) (iv0 1) (iv0 4) (iv0 5) (iv0 6)
    have ad231 := @addP_231 (iv0 0) (iv0 1) (iv0 4) (iv0 5) (iv0 6)
    have ad0 := @addP_0 (iv0 0) (iv0 1) (iv0 4) (iv0 5) (iv0 6)
    have w4 := i64_eq' (iv0 4) b4
    have w5 := i64_eq' (iv0 5) b5
    have w6 := i64_eq' (iv0 6) b6
  all_goals
    (try simp only [shr1 _ (show (0 : Int) ≤ iv 29 + iv 30 by omega)] at hf ⊢)
  all_goals
    have hls := fun k h0 h1 h2 => @lo_step (iv0 0) (iv0 1) (iv0 4) k hi.1 h0 h1 h2
    have hps := fun h => @pos_at (iv0 0) (iv0 1) (iv0 4) (iv 29) hi.2.2.1 (by omega) (by omega) hi.2.2.2.2.2.1 h
  all_goals
    (repeat' (with_reducible apply And.intro)) <;> first
    | omega
    | assumption
    | (unfold inM; omega)
    | exact hi.1
    | exact hi.2.1
    | (exact hls _ (by omega) (by omega) (by first | exact hf.1 | exact hf.2.1))
    | exact hi.2.2.2.2.2.1
    | exact hi.2.2.2.2.2.2
    | (exact fun h => absurd hi.2.1 h)
    | ((have e30 : iv 29 = iv 30 := by omega); (have hpos := hps (by rw [e30]; exact hi.2.2.2.2.2.2)); (intro j hj; (have hins := @fl_ins0 (iv0 0) (iv0 1) (posC (iv0 0) (iv0 1) (iv0 4)) (iv0 4) (iv0 5) (iv0 6) j (by omega) b4 b5 b6); rw [hins.1, hins.2.1, hins.2.2]; clear hins; simp only [fl_blit, fl_set, fl_zero, w4, w5, w6, hpos]; refine ⟨?_, ?_, ?_⟩ <;> ((repeat' split) <;> first | rfl | (exfalso; omega) | (congr 1; omega) | (exfalso; simp_all; done))))
    | (clear hin hF ha; grind)
set_option maxRecDepth 100000 in
theorem hAdd_c : LsC ((tm0 hAdd Try.f56 (Try.f56.body.getD .skip)) :: [hAdd_T1, hAdd_T2, hAdd_T3, hAdd_T4]) hAdd.os [hAdd_L0, hAdd_L1, hAdd_L2, hAdd_L3, hAdd_L4] := by
  unfold hAdd_L0 hAdd_L1 hAdd_L2 hAdd_L3 hAdd_L4
  exact ⟨List.forall_mem_cons.2 ⟨⟨⟨_, rfl, rfl⟩, by kernel_rfl⟩, List.forall_mem_cons.2 ⟨⟨⟨_, rfl, rfl⟩, by kernel_rfl⟩, List.forall_mem_nil _⟩⟩, List.forall_mem_cons.2 ⟨⟨⟨_, rfl, rfl⟩, by kernel_rfl⟩, List.forall_mem_cons.2 ⟨⟨⟨_, rfl, rfl⟩, by kernel_rfl⟩, List.forall_mem_cons.2 ⟨⟨⟨_, rfl, rfl⟩, by kernel_rfl⟩, List.forall_mem_cons.2 ⟨⟨⟨_, rfl, rfl⟩, by kernel_rfl⟩, List.forall_mem_cons.2 ⟨⟨⟨_, rfl, rfl⟩, by kernel_rfl⟩, List.forall_mem_nil _⟩⟩⟩⟩⟩, List.forall_mem_cons.2 ⟨⟨⟨_, rfl, rfl⟩, by kernel_rfl⟩, List.forall_mem_nil _⟩, List.forall_mem_cons.2 ⟨⟨⟨_, rfl, rfl⟩, by kernel_rfl⟩, List.forall_mem_cons.2 ⟨⟨⟨_, rfl, rfl⟩, by kernel_rfl⟩, List.forall_mem_cons.2 ⟨⟨⟨_, rfl, rfl⟩, by kernel_rfl⟩, List.forall_mem_nil _⟩⟩⟩, List.forall_mem_cons.2 ⟨⟨⟨_, rfl, rfl⟩, by kernel_rfl⟩, List.forall_mem_cons.2 ⟨⟨⟨_, rfl, rfl⟩, by kernel_rfl⟩, List.forall_mem_cons.2 ⟨⟨⟨_, rfl, rfl⟩, by kernel_rfl⟩, List.forall_mem_cons.2 ⟨trivial, List.forall_mem_cons.2 ⟨⟨⟨_, rfl, rfl⟩, by kernel_rfl⟩, List.forall_mem_cons.2 ⟨⟨⟨_, rfl, rfl⟩, by kernel_rfl⟩, List.forall_mem_cons.2 ⟨⟨⟨_, rfl, rfl⟩, by kernel_rfl⟩, List.forall_mem_cons.2 ⟨⟨⟨_, rfl, rfl⟩, by kernel_rfl⟩, List.forall_mem_cons.2 ⟨⟨⟨_, rfl, rfl⟩, by kernel_rfl⟩, List.forall_mem_cons.2 ⟨⟨⟨_, rfl, rfl⟩, by kernel_rfl⟩, List.forall_mem_cons.2 ⟨⟨⟨_, rfl, rfl⟩, by kernel_rfl⟩, List.forall_mem_nil _⟩⟩⟩⟩⟩⟩⟩⟩⟩⟩⟩, trivial⟩
theorem hAdd_ok : hAdd.Ok Try.prog FI FB :=
  Con.of_plain (body := Try.f56.body.getD .skip) pok fiok (EntsFor.cons hOf_ok (EntsFor.cons hMay_ok (EntsFor.cons eFits_ok EntsFor.nil))) hAdd Try.func56 (by kernel_rfl) 7 [hAdd_T1, hAdd_T2, hAdd_T3, hAdd_T4] (by kernel_rfl) [hAdd_L0, hAdd_L1, hAdd_L2, hAdd_L3, hAdd_L4] ⟨hAdd_h0, hAdd_h1, hAdd_h2, hAdd_h3, hAdd_h4, trivial⟩ hAdd_c
    hAdd_inv hAdd_mu (fun _ _ _ => trivial) fun kv iv0 bv0 hin hF k l iv bv hk ha hi => match k, hk, hi with
    | 0, hk, hi => by
      cases hk
      exact hAdd_o0 kv iv0 bv0 hin hF iv bv ha hi
    | 1, hk, hi => by
      cases hk
      exact hAdd_o1 kv iv0 bv0 hin hF iv bv ha hi
    | 2, hk, hi => by
      cases hk
      exact hAdd_o2 kv iv0 bv0 hin hF iv bv ha hi
    | 3, hk, hi => by
      cases hk
      exact hAdd_o3 kv iv0 bv0 hin hF iv bv ha hi
    | 4, hk, hi => by
      cases hk
      exact hAdd_o4 kv iv0 bv0 hin hF iv bv ha hi
    | k + 5, hk, _ => by simp at hk
end Go.Sx.Mhw
