/- Who waits: the functions, by contract. -/
import Derived.Test.YtfgdpkceoadgjaaWaE
namespace Go.Sx.Mhw
set_option linter.unusedVariables false
set_option linter.unusedSimpArgs false
open Go Go.Sx Go.Proofs
noncomputable def setW (c i x0 x1 x2 x3 x4 : SI) : SI := .ap 8 (.ap 8 (.ap 8 (.ap 8 (.ap 8 c i (.c 0) x0 (.c 0) (.c 0)) i (.c 1) x1 (.c 0) (.c 0)) i (.c 2) x2 (.c 0) (.c 0)) i (.c 3) x3 (.c 0) (.c 0)) i (.c 4) x4 (.c 0) (.c 0)
noncomputable def nW (c n : SI) : List (Nat × Bk) := [(0, .arr kW c n 84 (.d 0))]
noncomputable def fnd : SI := ap3 30 (.v 4)
noncomputable def wFind : Con := ⟨76, [0, 1, 2, 3, 4], [lW, .it .i64 (.v 4)], gW, i64b 4 :: bW, fM, [⟨[(pb3 33 (.v 4), true)], .tp [.it .i64 fnd, .bo (.c true)], [], 0, 0, [(.lt fnd (.v 1), true), (.le (.c 0) fnd, true), (pb2 30, true)]⟩, ⟨[(pb3 33 (.v 4), false)], .tp [.it .i64 (.c 0), .bo (.c false)], [], 0, 0, []⟩]⟩
noncomputable def wCheck : Con := ⟨73, [0, 1, 2, 3], [lW], gW, bW, fM, [⟨[(pb2 30, true)], .it .i64 (.c 0), [], 0, 0, []⟩, ⟨[(pb2 30, false)], .it .i64 (.c 2), [], 0, 0, []⟩]⟩
noncomputable def oEr (cs : List (SB × Bool)) (n : Int) : Out := ⟨cs, .tp [.sn, .it .i64 (.c n)], [], 0, 0, []⟩
noncomputable def wV : SV := .ag (ints [4, 5, 6, 7, 8])
noncomputable def oAddW : List Out := [oEr [(pb2 30, false)] 2, oEr [(pb2 30, true), (mayV 4, false)] 2, oEr [(pb2 30, true), (mayV 4, true), (.le (.c 0) fnd, true)] 220,
  ⟨[(pb2 30, true), (mayV 4, true), (.le (.c 0) fnd, false)], .tp [.sl (.n 0) (.c 0) (.op .add (.v 1) (.c 1)) (.d 0), .it .i64 (.c 0)], nW (setW (.v 0) (.v 1) (.v 4) (.v 5) (.v 6) (.v 7) (.v 8)) (.op .add (.v 1) (.c 1)), 1, 1, [(.le (.op .add (.v 1) (.c 1)) (.d 0), true), (.le (.v 1) (.c 256), true)]⟩]
noncomputable def bAddW : List (Nat × Int × Int) := lapp (i64s [4, 5, 6, 7, 8]) bW
noncomputable def wAdd : Con := ⟨74, [0, 1, 2, 3, 4, 5, 6, 7, 8], [lW, wV], gW, bAddW, fM, oAddW⟩
noncomputable def qAdd : Con := ⟨77, [0, 1, 2, 3, 4, 5, 6, 7, 8], [lW, wV], gW, bAddW, fM, oAddW⟩
noncomputable def oDropW : List Out := [oEr [(pb2 30, false)] 2, oEr [(pb2 30, true), (.le (.c 0) fnd, false)] 5,
  ⟨[(pb2 30, true), (.le (.c 0) fnd, true)], .tp [.sl (.n 0) (.c 0) (.op .add (.v 1) (.c (-1))) (.d 0), .it .i64 (.c 0)], nW (ap3 31 fnd) (.op .add (.v 1) (.c (-1))), 1, 1, [(.le (.op .add (.v 1) (.c (-1))) (.d 0), true), (.le (.v 1) (.c 256), true), (.lt (.c 0) (.v 1), true)]⟩]
noncomputable def bF : List (Nat × Int × Int) := i64b 4 :: bW
noncomputable def wDrop : Con := ⟨75, [0, 1, 2, 3, 4], [lW, .it .i64 (.v 4)], gW, bF, fM, oDropW⟩
noncomputable def qDrop : Con := ⟨78, [0, 1, 2, 3, 4], [lW, .it .i64 (.v 4)], gW, bF, fM, oDropW⟩
noncomputable def zW : SV := .ag [.it .i64 (.c 0), .it .i64 (.c 0), .it .i64 (.c 0), .it .i64 (.c 0), .it .i64 (.c 0)]
noncomputable def oEg (cs : List (SB × Bool)) (n : Int) : Out := ⟨cs, .tp [.sn, zW, .it .i64 (.c n)], [], 0, 0, []⟩
noncomputable def rowW (c i : SI) : SV := .ag [.it .i64 (.ap 3 c i (.c 0) (.c 0) (.c 0) (.c 0)), .it .i64 (.ap 3 c i (.c 1) (.c 0) (.c 0) (.c 0)), .it .i64 (.ap 3 c i (.c 2) (.c 0) (.c 0) (.c 0)), .it .i64 (.ap 3 c i (.c 3) (.c 0) (.c 0) (.c 0)), .it .i64 (.ap 3 c i (.c 4) (.c 0) (.c 0) (.c 0))]
noncomputable def oGrtW : List Out := [oEg [(pb2 30, false)] 2, oEg [(pb2 30, true), (.le (.c 0) (.v 4), false)] 4, oEg [(pb2 30, true), (.le (.c 0) (.v 4), true), (.lt (.v 4) (.v 1), false)] 4,
  ⟨[(pb2 30, true), (.le (.c 0) (.v 4), true), (.lt (.v 4) (.v 1), true)], .tp [.sl (.n 0) (.c 0) (.op .add (.v 1) (.c (-1))) (.d 0), rowW (.v 0) (.v 4), .it .i64 (.c 0)], nW (ap3 33 (.v 4)) (.op .add (.v 1) (.c (-1))), 1, 1, [(.le (.op .add (.v 1) (.c (-1))) (.d 0), true), (.le (.v 1) (.c 256), true), (.lt (.c 0) (.v 1), true)]⟩]
noncomputable def wGrant : Con := ⟨69, [0, 1, 2, 3, 4], [lW, .it .i64 (.v 4)], gW, bF, fM, oGrtW⟩
noncomputable def qGrant : Con := ⟨70, [0, 1, 2, 3, 4], [lW, .it .i64 (.v 4)], gW, bF, fM, oGrtW⟩
noncomputable def lW2 : SV := .sl (.k 1) (.v 6) (.v 5) (.v 7)
noncomputable def gW2 : List Gv := [⟨0, .v 2, kW, 0, .v 1⟩, ⟨1, .v 6, kW, 4, .v 5⟩]
noncomputable def bW2 : List (Nat × Int × Int) := [(1, 0, 1000), (2, 0, -1), (5, 0, 1000), (6, 0, -1)]
noncomputable def fM2 : List (SB × Bool) := [(.le (.v 1) (.v 3), true), (.le (.c 0) (.v 3), true), (.le (.v 5) (.v 7), true), (.le (.c 0) (.v 7), true)]
noncomputable def qSame : Con := ⟨71, [0, 1, 2, 3, 4, 5, 6, 7], [lW, lW2], gW2, bW2, fM2, o1 (.bo (pb4 31 (.v 4) (.v 5)))⟩
noncomputable def qSame0 : Con := ⟨71, [0, 1, 2, 3], [.sn, lW], gW, bW, fM, o1 (.bo (.eq (.v 1) (.c 0)))⟩
noncomputable def qSame1 : Con := ⟨71, [0, 1, 2, 3], [lW, .sn], gW, bW, fM, o1 (.bo (.eq (.v 1) (.c 0)))⟩
noncomputable def qSame2 : Con := ⟨71, [], [.sn, .sn], [], [], [], o1 (.bo (.c true))⟩
noncomputable def wLent : Con := ⟨67, [0, 1, 2, 3], [lW], gW, bW, fM, [⟨[], .sl (.n 0) (.c 0) (.v 1) (.d 0), [(0, .arr kW (ap2 32) (.op .add (.v 1) (.c 1)) 84 (.d 0))], 1, 1, [(.le (.op .add (.v 1) (.c 1)) (.d 0), true)]⟩]⟩
/-- the queue on the way: the ages ahead of k have risen -/
noncomputable def grtB (c at_ k : Int) (j f : Nat) : Int := if (j : Int) < k ∧ f = 4 ∧ ¬ fitP (fl c j 2) (fl c at_.toNat 2) then min (fl c j 4 + 1) 64 else fl c j f
theorem age_in {c n : Int} (h : rgtW c n) {k : Int} (h0 : 0 ≤ k) (hk : k < n) : (1 ≤ fl c k.toNat 2 ∧ fl c k.toNat 2 ≤ 5) ∧ 0 ≤ fl c k.toNat 4 ∧ fl c k.toNat 4 ≤ 64 := by
  have := (h.2 k.toNat (by omega)).1; unfold mayW at this; omega
theorem i64_eq' (x : Int) (h : -9223372036854775808 ≤ x ∧ x ≤ 9223372036854775807) : IntKind.i64.wrap x = x := wrap_in .i64 x h.1 h.2
/-- a step that lets the age rise -/
theorem grtB_up {c d at_ k x n : Int} (h0 : 0 ≤ k) (hk : k < n) (h : ∀ j : Nat, (j : Int) < n → ∀ f : Nat, f < 5 → fl d j f = grtB c at_ k j f) (hr : 0 ≤ fl c k.toNat 4 ∧ fl c k.toNat 4 ≤ 64) (hp : ¬ fitP (fl c k.toNat 2) (fl c at_.toNat 2)) (hx : x = min (fl c k.toNat 4 + 1) 64) :
    ∀ j : Nat, (j : Int) < n → ∀ f : Nat, f < 5 → fl (setC d k 4 x) j f = grtB c at_ (k + 1) j f := by
  intro j hj f hf
  have e4 : (4 : Int).toNat = 4 := rfl
  rw [fl_set]
  by_cases e : j = k.toNat ∧ f = (4 : Int).toNat
  · rw [if_pos e, hx, i64_eq' _ (by omega)]
    obtain ⟨e1, e2⟩ := e
    subst e1
    rw [e4] at e2; subst e2
    unfold grtB
    rw [if_pos ⟨by omega, rfl, hp⟩]
  · rw [if_neg e, h j hj f hf]
    rw [e4] at e
    unfold grtB
    by_cases h1 : (j : Int) < k ∧ f = 4 ∧ ¬ fitP (fl c j 2) (fl c at_.toNat 2)
    · rw [if_pos h1, if_pos ⟨by omega, h1.2⟩]
    · rw [if_neg h1, if_neg]
      rintro ⟨h2, h3, h4⟩
      by_cases h5 : j = k.toNat
      · exact e ⟨h5, h3⟩
      · exact h1 ⟨by omega, h3, h4⟩
theorem grtB_no {c d at_ k n : Int} (h0 : 0 ≤ k) (h : ∀ j : Nat, (j : Int) < n → ∀ f : Nat, f < 5 → fl d j f = grtB c at_ k j f) (hp : fitP (fl c k.toNat 2) (fl c at_.toNat 2)) :
    ∀ j : Nat, (j : Int) < n → ∀ f : Nat, f < 5 → fl d j f = grtB c at_ (k + 1) j f := by
  intro j hj f hf
  rw [h j hj f hf]
  unfold grtB
  by_cases h1 : (j : Int) < k ∧ f = 4 ∧ ¬ fitP (fl c j 2) (fl c at_.toNat 2)
  · rw [if_pos h1, if_pos ⟨by omega, h1.2⟩]
  · rw [if_neg h1, if_neg]
    rintro ⟨h2, h3, h4⟩
    by_cases h5 : j = k.toNat
    · subst h5; exact h4 hp
    · exact h1 ⟨by omega, h3, h4⟩
theorem grtB_zero {c at_ : Int} {j f : Nat} : grtB c at_ 0 j f = fl c j f := by
  unfold grtB; rw [if_neg]; rintro ⟨h, _⟩; omega
theorem grtB_2 {c at_ k : Int} {j : Nat} : grtB c at_ k j 2 = fl c j 2 := by
  unfold grtB; rw [if_neg]; rintro ⟨_, h, _⟩; omega
theorem grtB_lo {c at_ k : Int} {j f : Nat} (h : ¬ (j : Int) < k) : grtB c at_ k j f = fl c j f := by
  unfold grtB; rw [if_neg]; exact fun hh => h hh.1
theorem grtB_at {c at_ : Int} {j f : Nat} : grtG c at_ j f = if (j : Int) < at_ then grtB c at_ at_ j f else fl c (j + 1) f := by
  unfold grtG grtB
  by_cases h : (j : Int) < at_
  · simp only [if_pos h, h, true_and]
  · simp only [if_neg h]
theorem grt_row {c d at_ n : Int} (h0 : 0 ≤ at_) (h : ∀ j : Nat, (j : Int) < n → ∀ f : Nat, f < 5 → fl d j f = grtB c at_ at_ j f) {j f : Nat} (hj : (j : Int) < n - 1) (hf : f < 5) : fl (grtW c n at_) j f = fl d (if (j : Int) < at_ then j else j + 1) f := by
  rw [fl_grtW hj hf, grtB_at]
  by_cases e : (j : Int) < at_
  · rw [if_pos e, if_pos e, h j (by omega) f hf]
  · rw [if_neg e, if_neg e, h (j + 1) (by omega) f hf, grtB_lo (by omega)]
theorem grt_rowQ {c d at_ n : Int} (h : ∀ j : Nat, (j : Int) < at_ → ∀ f : Nat, f < 5 → fl d j f = grtB c at_ at_ j f) (h2 : ∀ j : Nat, at_ ≤ (j : Int) → (j : Int) < n - 1 → ∀ f : Nat, f < 5 → fl d j f = fl c (j + 1) f) {j f : Nat} (hj : (j : Int) < n - 1) (hf : f < 5) : fl (grtW c n at_) j f = fl d j f := by
  rw [fl_grtW hj hf, grtB_at]
  by_cases e : (j : Int) < at_
  · rw [if_pos e, h j e f hf]
  · rw [if_neg e, h2 j (by omega) hj f hf]
theorem hi_set {c d at_ k x n : Int} (h0 : 0 ≤ k) (hk : k < at_) (h2 : ∀ j : Nat, at_ ≤ (j : Int) → (j : Int) < n → ∀ f : Nat, f < 5 → fl d j f = fl c (j + 1) f) : ∀ j : Nat, at_ ≤ (j : Int) → (j : Int) < n → ∀ f : Nat, f < 5 → fl (setC d k 4 x) j f = fl c (j + 1) f := fun j h3 h4 f hf => by
  rw [fl_set, if_neg (by omega)]; exact h2 j h3 h4 f hf
noncomputable def wFind_T1 : Tm := ⟨⟨131, 19, [(8, (.it .i64 (.v 25))), (7, (.it .i64 (.v 1))), (0, (.sl (.k 0) (.v 2) (.v 1) (.v 3))), (1, (.fn 132 [] [(.pt (.n 0) (.c 0))]))], [(.code (atC Try.f131 [1, 0, 1, 0, 0])), (.inLoop (atC Try.f131 [1, 0, 1, 0, 0])), (.inBlock 0), (.code (atC Try.f131 [1, 1]))], [], .none⟩, [⟨76, 18, [(8, (.fn 132 [] [(.pt (.n 0) (.c 0))])), (7, (.sl (.k 0) (.v 2) (.v 1) (.v 3))), (0, (.sl (.k 0) (.v 2) (.v 1) (.v 3)))], [(.inRegion (opsC (atC Try.f76 [1, 0])) [2, 3]), (.code (atC Try.f76 [1, 1]))], [], .none⟩],
    ⟨[(0, (.cells [(.it .i64 (.v 4))] 3))], 1, 0, 0, [((.le (.v 1) (.v 3)), .true), ((.le (.c 0) (.v 3)), .true)], [1, 0], [(4, ((-9223372036854775808), 9223372036854775807)), (1, (0, 1000)), (2, (0, (-1))), (25, (0, (-1)))]⟩, [25]⟩
noncomputable def wFind_L0 : List Lf :=
  [(.cut [((.le (.v 1) (.v 3)), .true), ((.le (.c 0) (.v 3)), .true)] 1 ⟨⟨[(25, (.c 0))], []⟩, [(0, 0)], [], []⟩ [] (shT wFind_T1 ⟨⟨[(25, (.c 0))], []⟩, [(0, 0)], [], []⟩))]
noncomputable def wFind_L1 : List Lf :=
  [(.fin [((.ap 30 (.v 0) (.v 1) (.c 0) (.c 0) (.c 0) (.c 0)), .true), ((.eq (.ap 3 (.v 0) (.v 25) (.c 0) (.c 0) (.c 0) (.c 0)) (.v 4)), .true), ((.lt (.v 25) (.v 1)), .true), ((.le (.v 1) (.v 3)), .true), ((.le (.c 0) (.v 3)), .true)] 0 ⟨⟨[], []⟩, [], [], []⟩ [(.ei (.ap 30 (.v 0) (.v 1) (.v 4) (.c 0) (.c 0) (.c 0)) (.v 25)), (.fa (.lt (.ap 30 (.v 0) (.v 1) (.v 4) (.c 0) (.c 0) (.c 0)) (.v 1)) .true), (.fa (.le (.c 0) (.ap 30 (.v 0) (.v 1) (.v 4) (.c 0) (.c 0) (.c 0))) .true)] []), (.fin [((.ap 30 (.v 0) (.v 1) (.c 0) (.c 0) (.c 0) (.c 0)), .false), ((.eq (.ap 3 (.v 0) (.v 25) (.c 0) (.c 0) (.c 0) (.c 0)) (.v 4)), .true), ((.lt (.v 25) (.v 1)), .true), ((.le (.v 1) (.v 3)), .true), ((.le (.c 0) (.v 3)), .true)] 1 ⟨⟨[], []⟩, [], [], []⟩ [] []), (.cut [((.eq (.ap 3 (.v 0) (.v 25) (.c 0) (.c 0) (.c 0) (.c 0)) (.v 4)), .false), ((.lt (.v 25) (.v 1)), .true), ((.le (.v 1) (.v 3)), .true), ((.le (.c 0) (.v 3)), .true)] 1 ⟨⟨[(25, (.op .add (.v 25) (.c 1)))], []⟩, [(0, 0)], [], []⟩ [] (shT wFind_T1 ⟨⟨[(25, (.op .add (.v 25) (.c 1)))], []⟩, [(0, 0)], [], []⟩)), (.fin [((.lt (.v 25) (.v 1)), .false), ((.le (.v 1) (.v 3)), .true), ((.le (.c 0) (.v 3)), .true)] 1 ⟨⟨[], []⟩, [], [], []⟩ [] [])]
set_option maxRecDepth 100000 in
theorem wFind_h0 : (ex (ccOf Try.prog BF [58, 84] wFind) ((fun cc => [wRight.ent cc]) (ccOf Try.prog BF [58, 84] wFind)) (dw (ccOf Try.prog BF [58, 84] wFind) ((fun cc => [wRight.ent cc]) (ccOf Try.prog BF [58, 84] wFind)) 1000 4) (stopX []) 4000 (tm0 wFind Try.f76 (Try.f76.body.getD .skip)).f (tm0 wFind Try.f76 (Try.f76.body.getD .skip)).fs (tm0 wFind Try.f76 (Try.f76.body.getD .skip)).H).lfs (ccOf Try.prog BF [58, 84] wFind) ((tm0 wFind Try.f76 (Try.f76.body.getD .skip)) :: [wFind_T1]) wFind.os = some wFind_L0 := by kernel_rfl
set_option maxRecDepth 100000 in
theorem wFind_h1 : (ex (ccOf Try.prog BF [58, 84] wFind) ((fun cc => [wRight.ent cc]) (ccOf Try.prog BF [58, 84] wFind)) (dw (ccOf Try.prog BF [58, 84] wFind) ((fun cc => [wRight.ent cc]) (ccOf Try.prog BF [58, 84] wFind)) 1000 4) (stopX []) 4000 wFind_T1.f wFind_T1.fs wFind_T1.H).lfs (ccOf Try.prog BF [58, 84] wFind) ((tm0 wFind Try.f76 (Try.f76.body.getD .skip)) :: [wFind_T1]) wFind.os = some wFind_L1 := by kernel_rfl
def wFind_inv : (Nat → Int) → (Nat → Bool) → Nat → (Nat → Int) → (Nat → Bool) → Prop := fun iv0 _ k iv _ => match k with
  | 0 => True
  | _ => 0 ≤ iv 25 ∧ iv 25 ≤ iv0 1 ∧ ∀ j : Nat, (j : Int) < iv 25 → fl (iv0 0) j 0 ≠ iv0 4
def wFind_mu : (Nat → Int) → (Nat → Bool) → Nat → (Nat → Int) → (Nat → Bool) → Nat := fun iv0 _ k iv _ => match k with | 0 => 2 ^ 80 | _ => (iv0 1 - iv 25).toNat
set_option maxHeartbeats 0 in
theorem wFind_o0 (kv : Kv) (iv0 : Nat → Int) (bv0 : Nat → Bool) (hin : InB wFind.B iv0) (hF : FT (sta FI FB kv iv0 bv0) (dlt dyn0) wFind.F) (iv : Nat → Int) (bv : Nat → Bool) (ha : Agr 5 iv0 bv0 iv bv) (hi : wFind_inv iv0 bv0 0 iv bv) :
    ∀ lf ∈ wFind_L0, LfT (sta FI FB kv) wFind.os (wFind_inv iv0 bv0) (wFind_mu iv0 bv0) 0 iv bv lf := by
  unfold wFind_L0
  refine List.forall_mem_cons.2 ⟨?_, List.forall_mem_nil _⟩
  all_goals
    intro δ hf
  all_goals
    simp only [FT, TP, SB.tp, SI.tv, sta, IB.eval, and_true, true_and, ObsT, Ob.Tv, rowT, kix, In.tiv, ↓tbvT, In.tbv, get_cons, get_nil, reduceIte, Nat.reduceEqDiff, Int.reduceToNat, Int.reduceAdd, Int.reduceSub, Int.reduceLE, Int.reduceLT, Int.reduceEq, ne_eq, Bool.false_eq_true, not_true_eq_false, not_false_eq_true, true_iff, false_iff, iff_true, iff_false, false_implies, implies_true, decT, decide_true, decide_false, Bool.decide_eq_true, ap2, pb2, FI_3, FI_8, FI_9, FI_10, FI_11, FI_12, FI_13, FB_10, FB_11, FB_12, FB_13, FB_14, FB_15, FB_16, FI_30, FI_31, FI_32, FI_33, FB_30, FB_31, FB_32, FB_33, FI_3g, FI_8m, Int.toNat_natCast, Int.toNat_zero] at hf
  all_goals
    have a0 := ha.1 0 (by omega)
    have a1 := ha.1 1 (by omega)
    have a2 := ha.1 2 (by omega)
    have a3 := ha.1 3 (by omega)
    have a4 := ha.1 4 (by omega)
  all_goals
    have b1 := hin 1 0 1000 (by simp [wFind, bW, gW, fM, lW, ap3, pb3, pb4, ints, mayV, i64s, i64b, kW, two, b2, lmap, setW, fnd, nW, oEr, wV, oAddW, bAddW, oDropW, bF, zW, oEg, rowW, oGrtW, lW2, gW2, bW2, fM2, lapp])
    simp only [Int.reduceLE, reduceIte, Int.reduceNeg] at b1
  all_goals
    have b4 := hin 4 (-9223372036854775808) 9223372036854775807 (by simp [wFind, bW, gW, fM, lW, ap3, pb3, pb4, ints, mayV, i64s, i64b, kW, two, b2, lmap, setW, fnd, nW, oEr, wV, oAddW, bAddW, oDropW, bF, zW, oEg, rowW, oGrtW, lW2, gW2, bW2, fM2, lapp])
    simp only [Int.reduceLE, reduceIte, Int.reduceNeg] at b4
  all_goals
    simp only [FT, TP, SB.tp, SI.tv, sta, IB.eval, and_true, true_and, ObsT, Ob.Tv, rowT, kix, In.tiv, ↓tbvT, In.tbv, get_cons, get_nil, reduceIte, Nat.reduceEqDiff, Int.reduceToNat, Int.reduceAdd, Int.reduceSub, Int.reduceLE, Int.reduceLT, Int.reduceEq, ne_eq, Bool.false_eq_true, not_true_eq_false, not_false_eq_true, true_iff, false_iff, iff_true, iff_false, false_implies, implies_true, decT, decide_true, decide_false, Bool.decide_eq_true, ap2, pb2, FI_3, FI_8, FI_9, FI_10, FI_11, FI_12, FI_13, FB_10, FB_11, FB_12, FB_13, FB_14, FB_15, FB_16, FI_30, FI_31, FI_32, FI_33, FB_30, FB_31, FB_32, FB_33, FI_3g, FI_8m, Int.toNat_natCast, Int.toNat_zero, wFind_inv, wFind_mu, wFind, o1, othT, bW, gW, fM, lW, ap3, pb3, pb4, ints, mayV, i64s, i64b, kW, two, b2, lmap, setW, fnd, nW, oEr, wV, oAddW, bAddW, oDropW, bF, zW, oEg, rowW, oGrtW, lW2, gW2, bW2, fM2, lapp, a0, a1, a2, a3, a4] at hf hi ⊢
  all_goals
    (repeat' (with_reducible apply And.intro)) <;> first
    | omega
    | assumption
    | (unfold inM; omega)
    | exact fun j hj => by omega
set_option maxHeartbeats 0 in
theorem wFind_o1 (kv : Kv) (iv0 : Nat → Int) (bv0 : Nat → Bool) (hin : InB wFind.B iv0) (hF : FT (sta FI FB kv iv0 bv0) (dlt dyn0) wFind.F) (iv : Nat → Int) (bv : Nat → Bool) (ha : Agr 5 iv0 bv0 iv bv) (hi : wFind_inv iv0 bv0 1 iv bv) :
    ∀ lf ∈ wFind_L1, LfT (sta FI FB kv) wFind.os (wFind_inv iv0 bv0) (wFind_mu iv0 bv0) 1 iv bv lf := by
  unfold wFind_L1
  refine List.forall_mem_cons.2 ⟨?_, List.forall_mem_cons.2 ⟨?_, List.forall_mem_cons.2 ⟨?_, List.forall_mem_cons.2 ⟨?_, List.forall_mem_nil _⟩⟩⟩⟩
  all_goals
    intro δ hf
  all_goals
    simp only [FT, TP, SB.tp, SI.tv, sta, IB.eval, and_true, true_and, ObsT, Ob.Tv, rowT, kix, In.tiv, ↓tbvT, In.tbv, get_cons, get_nil, reduceIte, Nat.reduceEqDiff, Int.reduceToNat, Int.reduceAdd, Int.reduceSub, Int.reduceLE, Int.reduceLT, Int.reduceEq, ne_eq, Bool.false_eq_true, not_true_eq_false, not_false_eq_true, true_iff, false_iff, iff_true, iff_false, false_implies, implies_true, decT, decide_true, decide_false, Bool.decide_eq_true, ap2, pb2, FI_3, FI_8, FI_9, FI_10, FI_11, FI_12, FI_13, FB_10, FB_11, FB_12, FB_13, FB_14, FB_15, FB_16, FI_30, FI_31, FI_32, FI_33, FB_30, FB_31, FB_32, FB_33, FI_3g, FI_8m, Int.toNat_natCast, Int.toNat_zero] at hf
  all_goals
    have a0 := ha.1 0 (by omega)
    have a1 := ha.1 1 (by omega)
    have a2 := ha.1 2 (by omega)
    have a3 := ha.1 3 (by omega)
    have a4 := ha.1 4 (by omega)
  all_goals
    have b1 := hin 1 0 1000 (by simp [wFind, bW, gW, fM, lW, ap3, pb3, pb4, ints, mayV, i64s, i64b, kW, two, b2, lmap, setW, fnd, nW, oEr, wV, oAddW, bAddW, oDropW, bF, zW, oEg, rowW, oGrtW, lW2, gW2, bW2, fM2, lapp])
    simp only [Int.reduceLE, reduceIte, Int.reduceNeg] at b1
  all_goals
    have b4 := hin 4 (-9223372036854775808) 9223372036854775807 (by simp [wFind, bW, gW, fM, lW, ap3, pb3, pb4, ints, mayV, i64s, i64b, kW, two, b2, lmap, setW, fnd, nW, oEr, wV, oAddW, bAddW, oDropW, bF, zW, oEg, rowW, oGrtW, lW2, gW2, bW2, fM2, lapp])
    simp only [Int.reduceLE, reduceIte, Int.reduceNeg] at b4
  all_goals
    simp only [FT, TP, SB.tp, SI.tv, sta, IB.eval, and_true, true_and, ObsT, Ob.Tv, rowT, kix, In.tiv, ↓tbvT, In.tbv, get_cons, get_nil, reduceIte, Nat.reduceEqDiff, Int.reduceToNat, Int.reduceAdd, Int.reduceSub, Int.reduceLE, Int.reduceLT, Int.reduceEq, ne_eq, Bool.false_eq_true, not_true_eq_false, not_false_eq_true, true_iff, false_iff, iff_true, iff_false, false_implies, implies_true, decT, decide_true, decide_false, Bool.decide_eq_true, ap2, pb2, FI_3, FI_8, FI_9, FI_10, FI_11, FI_12, FI_13, FB_10, FB_11, FB_12, FB_13, FB_14, FB_15, FB_16, FI_30, FI_31, FI_32, FI_33, FB_30, FB_31, FB_32, FB_33, FI_3g, FI_8m, Int.toNat_natCast, Int.toNat_zero, wFind_inv, wFind_mu, wFind, o1, othT, bW, gW, fM, lW, ap3, pb3, pb4, ints, mayV, i64s, i64b, kW, two, b2, lmap, setW, fnd, nW, oEr, wV, oAddW, bAddW, oDropW, bF, zW, oEg, rowW, oGrtW, lW2, gW2, bW2, fM2, lapp, a0, a1, a2, a3, a4] at hf hi ⊢
  all_goals
    have hfa := fun h0 h1 h2 h3 => @fndW_at (iv0 0) (iv0 1) (iv0 4) (iv 25) (by omega) h0 h1 h2 h3
    have hfn := fun h1 h3 => @fndW_no (iv0 0) (iv0 1) (iv0 4) (iv 25) (by omega) h1 h3
  all_goals
    (repeat' (with_reducible apply And.intro)) <;> first
    | omega
    | assumption
    | (unfold inM; omega)
    | exact all_succ hi.1 hi.2.2 hf.1
    | (first | exact hf.1.1 | exact hf.2.1.1 | exact hf.2.2.1.1 | exact hf.2.2.2.1.1 | exact hf.2.2.2.2.1.1 | exact hf.2.2.2.2.2.1.1 | exact hf.2.2.2.2.2.2.1.1 | exact hf.2.2.2.2.2.2.2.1.1 | exact hi.1.1)
    | (clear hin hF ha; grind)
    | (simp only [hasW] at *; clear hin hF ha; grind)
set_option maxRecDepth 100000 in
theorem wFind_c : LsC ((tm0 wFind Try.f76 (Try.f76.body.getD .skip)) :: [wFind_T1]) wFind.os [wFind_L0, wFind_L1] := by
  unfold wFind_L0 wFind_L1
  exact ⟨List.forall_mem_cons.2 ⟨⟨⟨_, rfl, rfl⟩, by kernel_rfl⟩, List.forall_mem_nil _⟩, List.forall_mem_cons.2 ⟨⟨⟨_, rfl, rfl⟩, by kernel_rfl⟩, List.forall_mem_cons.2 ⟨⟨⟨_, rfl, rfl⟩, by kernel_rfl⟩, List.forall_mem_cons.2 ⟨⟨⟨_, rfl, rfl⟩, by kernel_rfl⟩, List.forall_mem_cons.2 ⟨⟨⟨_, rfl, rfl⟩, by kernel_rfl⟩, List.forall_mem_nil _⟩⟩⟩⟩, trivial⟩
theorem wFind_ok : wFind.Ok Try.prog FI FB :=
  Con.of_plain (body := Try.f76.body.getD .skip) pok fiok (EntsFor.cons wRight_ok EntsFor.nil) wFind Try.func76 (by kernel_rfl) 5 [wFind_T1] (by kernel_rfl) [wFind_L0, wFind_L1] ⟨wFind_h0, wFind_h1, trivial⟩ wFind_c
    wFind_inv wFind_mu (fun _ _ _ => trivial) fun kv iv0 bv0 hin hF k l iv bv hk ha hi => match k, hk, hi with
    | 0, hk, hi => by
      cases hk
      exact wFind_o0 kv iv0 bv0 hin hF iv bv ha hi
    | 1, hk, hi => by
      cases hk
      exact wFind_o1 kv iv0 bv0 hin hF iv bv ha hi
    | k + 2, hk, _ => by simp at hk
noncomputable def wCheck_L0 : List Lf :=
  [(.fin [((.ap 30 (.v 0) (.v 1) (.c 0) (.c 0) (.c 0) (.c 0)), .true), ((.le (.v 1) (.v 3)), .true), ((.le (.c 0) (.v 3)), .true)] 0 ⟨⟨[], []⟩, [], [], []⟩ [] []), (.fin [((.ap 30 (.v 0) (.v 1) (.c 0) (.c 0) (.c 0) (.c 0)), .false), ((.le (.v 1) (.v 3)), .true), ((.le (.c 0) (.v 3)), .true)] 1 ⟨⟨[], []⟩, [], [], []⟩ [] [])]
set_option maxRecDepth 100000 in
theorem wCheck_h0 : (ex (ccOf Try.prog BF [58, 84] wCheck) ((fun cc => [wRight.ent cc]) (ccOf Try.prog BF [58, 84] wCheck)) (dw (ccOf Try.prog BF [58, 84] wCheck) ((fun cc => [wRight.ent cc]) (ccOf Try.prog BF [58, 84] wCheck)) 1000 4) (stopX []) 4000 (tm0 wCheck Try.f73 (Try.f73.body.getD .skip)).f (tm0 wCheck Try.f73 (Try.f73.body.getD .skip)).fs (tm0 wCheck Try.f73 (Try.f73.body.getD .skip)).H).lfs (ccOf Try.prog BF [58, 84] wCheck) ((tm0 wCheck Try.f73 (Try.f73.body.getD .skip)) :: []) wCheck.os = some wCheck_L0 := by kernel_rfl
def wCheck_inv : (Nat → Int) → (Nat → Bool) → Nat → (Nat → Int) → (Nat → Bool) → Prop := fun _ _ _ _ _ => True
def wCheck_mu : (Nat → Int) → (Nat → Bool) → Nat → (Nat → Int) → (Nat → Bool) → Nat := fun _ _ _ _ _ => 0
set_option maxHeartbeats 0 in
theorem wCheck_o0 (kv : Kv) (iv0 : Nat → Int) (bv0 : Nat → Bool) (hin : InB wCheck.B iv0) (hF : FT (sta FI FB kv iv0 bv0) (dlt dyn0) wCheck.F) (iv : Nat → Int) (bv : Nat → Bool) (ha : Agr 4 iv0 bv0 iv bv) (hi : wCheck_inv iv0 bv0 0 iv bv) :
    ∀ lf ∈ wCheck_L0, LfT (sta FI FB kv) wCheck.os (wCheck_inv iv0 bv0) (wCheck_mu iv0 bv0) 0 iv bv lf := by
  unfold wCheck_L0
  refine List.forall_mem_cons.2 ⟨?_, List.forall_mem_cons.2 ⟨?_, List.forall_mem_nil _⟩⟩
  all_goals
    intro δ hf
  all_goals
    simp only [FT, TP, SB.tp, SI.tv, sta, IB.eval, and_true, true_and, ObsT, Ob.Tv, rowT, kix, In.tiv, ↓tbvT, In.tbv, get_cons, get_nil, reduceIte, Nat.reduceEqDiff, Int.reduceToNat, Int.reduceAdd, Int.reduceSub, Int.reduceLE, Int.reduceLT, Int.reduceEq, ne_eq, Bool.false_eq_true, not_true_eq_false, not_false_eq_true, true_iff, false_iff, iff_true, iff_false, false_implies, implies_true, decT, decide_true, decide_false, Bool.decide_eq_true, ap2, pb2, FI_3, FI_8, FI_9, FI_10, FI_11, FI_12, FI_13, FB_10, FB_11, FB_12, FB_13, FB_14, FB_15, FB_16, FI_30, FI_31, FI_32, FI_33, FB_30, FB_31, FB_32, FB_33, FI_3g, FI_8m, Int.toNat_natCast, Int.toNat_zero] at hf
  all_goals
    have a0 := ha.1 0 (by omega)
    have a1 := ha.1 1 (by omega)
    have a2 := ha.1 2 (by omega)
    have a3 := ha.1 3 (by omega)
  all_goals
    have b1 := hin 1 0 1000 (by simp [wCheck, bW, gW, fM, lW, ap3, pb3, pb4, ints, mayV, i64s, i64b, kW, two, b2, lmap, setW, fnd, nW, oEr, wV, oAddW, bAddW, oDropW, bF, zW, oEg, rowW, oGrtW, lW2, gW2, bW2, fM2, lapp])
    simp only [Int.reduceLE, reduceIte, Int.reduceNeg] at b1
  all_goals
    simp only [FT, TP, SB.tp, SI.tv, sta, IB.eval, and_true, true_and, ObsT, Ob.Tv, rowT, kix, In.tiv, ↓tbvT, In.tbv, get_cons, get_nil, reduceIte, Nat.reduceEqDiff, Int.reduceToNat, Int.reduceAdd, Int.reduceSub, Int.reduceLE, Int.reduceLT, Int.reduceEq, ne_eq, Bool.false_eq_true, not_true_eq_false, not_false_eq_true, true_iff, false_iff, iff_true, iff_false, false_implies, implies_true, decT, decide_true, decide_false, Bool.decide_eq_true, ap2, pb2, FI_3, FI_8, FI_9, FI_10, FI_11, FI_12, FI_13, FB_10, FB_11, FB_12, FB_13, FB_14, FB_15, FB_16, FI_30, FI_31, FI_32, FI_33, FB_30, FB_31, FB_32, FB_33, FI_3g, FI_8m, Int.toNat_natCast, Int.toNat_zero, wCheck_inv, wCheck_mu, wCheck, o1, othT, bW, gW, fM, lW, ap3, pb3, pb4, ints, mayV, i64s, i64b, kW, two, b2, lmap, setW, fnd, nW, oEr, wV, oAddW, bAddW, oDropW, bF, zW, oEg, rowW, oGrtW, lW2, gW2, bW2, fM2, lapp, a0, a1, a2, a3] at hf hi ⊢
  all_goals
    (repeat' (with_reducible apply And.intro)) <;> first
    | omega
    | assumption
    | (unfold inM; omega)
    | (clear hin hF ha; grind)
set_option maxRecDepth 100000 in
theorem wCheck_c : LsC ((tm0 wCheck Try.f73 (Try.f73.body.getD .skip)) :: []) wCheck.os [wCheck_L0] := by
  unfold wCheck_L0
  exact ⟨List.forall_mem_cons.2 ⟨⟨⟨_, rfl, rfl⟩, by kernel_rfl⟩, List.forall_mem_cons.2 ⟨⟨⟨_, rfl, rfl⟩, by kernel_rfl⟩, List.forall_mem_nil _⟩⟩, trivial⟩
theorem wCheck_ok : wCheck.Ok Try.prog FI FB :=
  Con.of_plain (body := Try.f73.body.getD .skip) pok fiok (EntsFor.cons wRight_ok EntsFor.nil) wCheck Try.func73 (by kernel_rfl) 4 [] (by kernel_rfl) [wCheck_L0] ⟨wCheck_h0, trivial⟩ wCheck_c
    wCheck_inv wCheck_mu (fun _ _ _ => trivial) fun kv iv0 bv0 hin hF k l iv bv hk ha hi => match k, hk, hi with
    | 0, hk, hi => by
      cases hk
      exact wCheck_o0 kv iv0 bv0 hin hF iv bv ha hi
    | k + 1, hk, _ => by simp at hk
noncomputable def wAdd_T1 : Tm := ⟨⟨131, 19, [(8, (.it .i64 (.v 29))), (7, (.it .i64 (.v 1))), (0, (.sl (.k 0) (.v 2) (.v 1) (.v 3))), (1, (.fn 132 [] [(.pt (.n 1) (.c 0))]))], [(.code (atC Try.f131 [1, 0, 1, 0, 0])), (.inLoop (atC Try.f131 [1, 0, 1, 0, 0])), (.inBlock 0), (.code (atC Try.f131 [1, 1]))], [], .none⟩, [⟨76, 18, [(8, (.fn 132 [] [(.pt (.n 1) (.c 0))])), (7, (.sl (.k 0) (.v 2) (.v 1) (.v 3))), (0, (.sl (.k 0) (.v 2) (.v 1) (.v 3)))], [(.inRegion (opsC (atC Try.f76 [1, 0])) [2, 3]), (.code (atC Try.f76 [1, 1]))], [], .none⟩, ⟨74, 31, [(11, (.it .i64 (.v 4))), (10, (.pt (.n 0) (.c 0))), (9, (.sl (.k 0) (.v 2) (.v 1) (.v 3))), (4, .sn), (3, (.pt (.n 0) (.c 0))), (0, (.sl (.k 0) (.v 2) (.v 1) (.v 3))), (1, (.ag [(.it .i64 (.v 4)), (.it .i64 (.v 5)), (.it .i64 (.v 6)), (.it .i64 (.v 7)), (.it .i64 (.v 8))]))], [(.inRegion (opsC (atC Try.f74 [1, 0, 0])) [3, 4, 5, 6, 7, 8]), (.code (atC Try.f74 [1, 0, 1])), (.inScope (atC Try.f74 [1, 0]))], [], .none⟩],
    ⟨[(0, (.cells [(.it .i64 (.v 4)), (.it .i64 (.v 5)), (.it .i64 (.v 6)), (.it .i64 (.v 7)), (.it .i64 (.v 8))] 84)), (1, (.cells [(.it .i64 (.v 4))] 3))], 2, 0, 0, [((.le (.v 1) (.v 3)), .true), ((.le (.c 0) (.v 3)), .true)], [1, 0], [(4, ((-9223372036854775808), 9223372036854775807)), (5, ((-9223372036854775808), 9223372036854775807)), (6, ((-9223372036854775808), 9223372036854775807)), (7, ((-9223372036854775808), 9223372036854775807)), (8, ((-9223372036854775808), 9223372036854775807)), (1, (0, 1000)), (2, (0, (-1))), (29, (0, (-1)))]⟩, [29]⟩
noncomputable def wAdd_L0 : List Lf :=
  [(.cut [((.le (.v 1) (.v 3)), .true), ((.le (.c 0) (.v 3)), .true)] 1 ⟨⟨[(29, (.c 0))], []⟩, [(0, 0), (1, 1)], [], []⟩ [] (shT wAdd_T1 ⟨⟨[(29, (.c 0))], []⟩, [(0, 0), (1, 1)], [], []⟩))]
noncomputable def wAdd_L1 : List Lf :=
  [(.fin [((.ap 32 (.v 4) (.v 5) (.v 6) (.v 7) (.v 8) (.c 0)), .true), ((.ap 30 (.v 0) (.v 1) (.c 0) (.c 0) (.c 0) (.c 0)), .true), ((.eq (.ap 3 (.v 0) (.v 29) (.c 0) (.c 0) (.c 0) (.c 0)) (.v 4)), .true), ((.lt (.v 29) (.v 1)), .true), ((.le (.v 1) (.v 3)), .true), ((.le (.c 0) (.v 3)), .true)] 2 ⟨⟨[], []⟩, [], [], []⟩ [] []), (.fin [((.ap 32 (.v 4) (.v 5) (.v 6) (.v 7) (.v 8) (.c 0)), .false), ((.ap 30 (.v 0) (.v 1) (.c 0) (.c 0) (.c 0) (.c 0)), .true), ((.eq (.ap 3 (.v 0) (.v 29) (.c 0) (.c 0) (.c 0) (.c 0)) (.v 4)), .true), ((.lt (.v 29) (.v 1)), .true), ((.le (.v 1) (.v 3)), .true), ((.le (.c 0) (.v 3)), .true)] 1 ⟨⟨[], []⟩, [], [], []⟩ [] []), (.fin [((.ap 30 (.v 0) (.v 1) (.c 0) (.c 0) (.c 0) (.c 0)), .false), ((.eq (.ap 3 (.v 0) (.v 29) (.c 0) (.c 0) (.c 0) (.c 0)) (.v 4)), .true), ((.lt (.v 29) (.v 1)), .true), ((.le (.v 1) (.v 3)), .true), ((.le (.c 0) (.v 3)), .true)] 0 ⟨⟨[], []⟩, [], [], []⟩ [] []), (.cut [((.eq (.ap 3 (.v 0) (.v 29) (.c 0) (.c 0) (.c 0) (.c 0)) (.v 4)), .false), ((.lt (.v 29) (.v 1)), .true), ((.le (.v 1) (.v 3)), .true), ((.le (.c 0) (.v 3)), .true)] 1 ⟨⟨[(29, (.op .add (.v 29) (.c 1)))], []⟩, [(0, 0), (1, 1)], [], []⟩ [] (shT wAdd_T1 ⟨⟨[(29, (.op .add (.v 29) (.c 1)))], []⟩, [(0, 0), (1, 1)], [], []⟩)), (.fin [((.le (.op .add (.v 1) (.c 1)) (.d 1)), .true), ((.le (.v 1) (.d 0)), .true), ((.ap 32 (.v 4) (.v 5) (.v 6) (.v 7) (.v 8) (.c 0)), .true), ((.ap 30 (.v 0) (.v 1) (.c 0) (.c 0) (.c 0) (.c 0)), .true), ((.lt (.v 29) (.v 1)), .false), ((.le (.v 1) (.v 3)), .true), ((.le (.c 0) (.v 3)), .true)] 3 ⟨⟨[], []⟩, [(0, 5)], [(0, (.d 1))], []⟩ [(.fa (.le (.v 1) (.c 256)) .true)] [.none]), (.fin [((.ap 32 (.v 4) (.v 5) (.v 6) (.v 7) (.v 8) (.c 0)), .false), ((.ap 30 (.v 0) (.v 1) (.c 0) (.c 0) (.c 0) (.c 0)), .true), ((.lt (.v 29) (.v 1)), .false), ((.le (.v 1) (.v 3)), .true), ((.le (.c 0) (.v 3)), .true)] 1 ⟨⟨[], []⟩, [], [], []⟩ [] []), (.fin [((.ap 30 (.v 0) (.v 1) (.c 0) (.c 0) (.c 0) (.c 0)), .false), ((.lt (.v 29) (.v 1)), .false), ((.le (.v 1) (.v 3)), .true), ((.le (.c 0) (.v 3)), .true)] 0 ⟨⟨[], []⟩, [], [], []⟩ [] [])]
set_option maxRecDepth 100000 in
theorem wAdd_h0 : (ex (ccOf Try.prog BF [58, 84] wAdd) ((fun cc => [wRight.ent cc, wMay.ent cc, wFits.ent cc]) (ccOf Try.prog BF [58, 84] wAdd)) (dw (ccOf Try.prog BF [58, 84] wAdd) ((fun cc => [wRight.ent cc, wMay.ent cc, wFits.ent cc]) (ccOf Try.prog BF [58, 84] wAdd)) 1000 4) (stopX []) 4000 (tm0 wAdd Try.f74 (Try.f74.body.getD .skip)).f (tm0 wAdd Try.f74 (Try.f74.body.getD .skip)).fs (tm0 wAdd Try.f74 (Try.f74.body.getD .skip)).H).lfs (ccOf Try.prog BF [58, 84] wAdd) ((tm0 wAdd Try.f74 (Try.f74.body.getD .skip)) :: [wAdd_T1]) wAdd.os = some wAdd_L0 := by kernel_rfl
set_option maxRecDepth 100000 in
theorem wAdd_h1 : (ex (ccOf Try.prog BF [58, 84] wAdd) ((fun cc => [wRight.ent cc, wMay.ent cc, wFits.ent cc]) (ccOf Try.prog BF [58, 84] wAdd)) (dw (ccOf Try.prog BF [58, 84] wAdd) ((fun cc => [wRight.ent cc, wMay.ent cc, wFits.ent cc]) (ccOf Try.prog BF [58, 84] wAdd)) 1000 4) (stopX []) 4000 wAdd_T1.f wAdd_T1.fs wAdd_T1.H).lfs (ccOf Try.prog BF [58, 84] wAdd) ((tm0 wAdd Try.f74 (Try.f74.body.getD .skip)) :: [wAdd_T1]) wAdd.os = some wAdd_L1 := by kernel_rfl
def wAdd_inv : (Nat → Int) → (Nat → Bool) → Nat → (Nat → Int) → (Nat → Bool) → Prop := fun iv0 _ k iv _ => match k with
  | 0 => True
  | _ => 0 ≤ iv 29 ∧ iv 29 ≤ iv0 1 ∧ ∀ j : Nat, (j : Int) < iv 29 → fl (iv0 0) j 0 ≠ iv0 4
def wAdd_mu : (Nat → Int) → (Nat → Bool) → Nat → (Nat → Int) → (Nat → Bool) → Nat := fun iv0 _ k iv _ => match k with | 0 => 2 ^ 80 | _ => (iv0 1 - iv 29).toNat
set_option maxHeartbeats 0 in
theorem wAdd_o0 (kv : Kv) (iv0 : Nat → Int) (bv0 : Nat → Bool) (hin : InB wAdd.B iv0) (hF : FT (sta FI FB kv iv0 bv0) (dlt dyn0) wAdd.F) (iv : Nat → Int) (bv : Nat → Bool) (ha : Agr 9 iv0 bv0 iv bv) (hi : wAdd_inv iv0 bv0 0 iv bv) :
    ∀ lf ∈ wAdd_L0, LfT (sta FI FB kv) wAdd.os (wAdd_inv iv0 bv0) (wAdd_mu iv0 bv0) 0 iv bv lf := by
  unfold wAdd_L0
  refine List.forall_mem_cons.2 ⟨?_, List.forall_mem_nil _⟩
  all_goals
    intro δ hf
  all_goals
    simp only [FT, TP, SB.tp, SI.tv, sta, IB.eval, and_true, true_and, ObsT, Ob.Tv, rowT, kix, In.tiv, ↓tbvT, In.tbv, get_cons, get_nil, reduceIte, Nat.reduceEqDiff, Int.reduceToNat, Int.reduceAdd, Int.reduceSub, Int.reduceLE, Int.reduceLT, Int.reduceEq, ne_eq, Bool.false_eq_true, not_true_eq_false, not_false_eq_true, true_iff, false_iff, iff_true, iff_false, false_implies, implies_true, decT, decide_true, decide_false, Bool.decide_eq_true, ap2, pb2, FI_3, FI_8, FI_9, FI_10, FI_11, FI_12, FI_13, FB_10, FB_11, FB_12, FB_13, FB_14, FB_15, FB_16, FI_30, FI_31, FI_32, FI_33, FB_30, FB_31, FB_32, FB_33, FI_3g, FI_8m, Int.toNat_natCast, Int.toNat_zero] at hf
  all_goals
    have a0 := ha.1 0 (by omega)
    have a1 := ha.1 1 (by omega)
    have a2 := ha.1 2 (by omega)
    have a3 := ha.1 3 (by omega)
    have a4 := ha.1 4 (by omega)
    have a5 := ha.1 5 (by omega)
    have a6 := ha.1 6 (by omega)
    have a7 := ha.1 7 (by omega)
    have a8 := ha.1 8 (by omega)
  all_goals
    have b1 := hin 1 0 1000 (by simp [wAdd, bW, gW, fM, lW, ap3, pb3, pb4, ints, mayV, i64s, i64b, kW, two, b2, lmap, setW, fnd, nW, oEr, wV, oAddW, bAddW, oDropW, bF, zW, oEg, rowW, oGrtW, lW2, gW2, bW2, fM2, lapp])
    simp only [Int.reduceLE, reduceIte, Int.reduceNeg] at b1
  all_goals
    have b4 := hin 4 (-9223372036854775808) 9223372036854775807 (by simp [wAdd, bW, gW, fM, lW, ap3, pb3, pb4, ints, mayV, i64s, i64b, kW, two, b2, lmap, setW, fnd, nW, oEr, wV, oAddW, bAddW, oDropW, bF, zW, oEg, rowW, oGrtW, lW2, gW2, bW2, fM2, lapp])
    simp only [Int.reduceLE, reduceIte, Int.reduceNeg] at b4
  all_goals
    have b5 := hin 5 (-9223372036854775808) 9223372036854775807 (by simp [wAdd, bW, gW, fM, lW, ap3, pb3, pb4, ints, mayV, i64s, i64b, kW, two, b2, lmap, setW, fnd, nW, oEr, wV, oAddW, bAddW, oDropW, bF, zW, oEg, rowW, oGrtW, lW2, gW2, bW2, fM2, lapp])
    simp only [Int.reduceLE, reduceIte, Int.reduceNeg] at b5
  all_goals
    have b6 := hin 6 (-9223372036854775808) 9223372036854775807 (by simp [wAdd, bW, gW, fM, lW, ap3, pb3, pb4, ints, mayV, i64s, i64b, kW, two, b2, lmap, setW, fnd, nW, oEr, wV, oAddW, bAddW, oDropW, bF, zW, oEg, rowW, oGrtW, lW2, gW2, bW2, fM2, lapp])
    simp only [Int.reduceLE, reduceIte, Int.reduceNeg] at b6
  all_goals
    have b7 := hin 7 (-9223372036854775808) 9223372036854775807 (by simp [wAdd, bW, gW, fM, lW, ap3, pb3, pb4, ints, mayV, i64s, i64b, kW, two, b2, lmap, setW, fnd, nW, oEr, wV, oAddW, bAddW, oDropW, bF, zW, oEg, rowW, oGrtW, lW2, gW2, bW2, fM2, lapp])
    simp only [Int.reduceLE, reduceIte, Int.reduceNeg] at b7
  all_goals
    have b8 := hin 8 (-9223372036854775808) 9223372036854775807 (by simp [wAdd, bW, gW, fM, lW, ap3, pb3, pb4, ints, mayV, i64s, i64b, kW, two, b2, lmap, setW, fnd, nW, oEr, wV, oAddW, bAddW, oDropW, bF, zW, oEg, rowW, oGrtW, lW2, gW2, bW2, fM2, lapp])
    simp only [Int.reduceLE, reduceIte, Int.reduceNeg] at b8
  all_goals
    simp only [FT, TP, SB.tp, SI.tv, sta, IB.eval, and_true, true_and, ObsT, Ob.Tv, rowT, kix, In.tiv, ↓tbvT, In.tbv, get_cons, get_nil, reduceIte, Nat.reduceEqDiff, Int.reduceToNat, Int.reduceAdd, Int.reduceSub, Int.reduceLE, Int.reduceLT, Int.reduceEq, ne_eq, Bool.false_eq_true, not_true_eq_false, not_false_eq_true, true_iff, false_iff, iff_true, iff_false, false_implies, implies_true, decT, decide_true, decide_false, Bool.decide_eq_true, ap2, pb2, FI_3, FI_8, FI_9, FI_10, FI_11, FI_12, FI_13, FB_10, FB_11, FB_12, FB_13, FB_14, FB_15, FB_16, FI_30, FI_31, FI_32, FI_33, FB_30, FB_31, FB_32, FB_33, FI_3g, FI_8m, Int.toNat_natCast, Int.toNat_zero, wAdd_inv, wAdd_mu, wAdd, o1, othT, bW, gW, fM, lW, ap3, pb3, pb4, ints, mayV, i64s, i64b, kW, two, b2, lmap, setW, fnd, nW, oEr, wV, oAddW, bAddW, oDropW, bF, zW, oEg, rowW, oGrtW, lW2, gW2, bW2, fM2, lapp, a0, a1, a2, a3, a4, a5, a6, a7, a8] at hf hi ⊢
  all_goals
    (repeat' (with_reducible apply And.intro)) <;> first
    | omega
    | assumption
    | (unfold inM; omega)
    | exact fun j hj => by omega
set_option maxHeartbeats 0 in
theorem wAdd_o1 (kv : Kv) (iv0 : Nat → Int) (bv0 : Nat → Bool) (hin : InB wAdd.B iv0) (hF : FT (sta FI FB kv iv0 bv0) (dlt dyn0) wAdd.F) (iv : Nat → Int) (bv : Nat → Bool) (ha : Agr 9 iv0 bv0 iv bv) (hi : wAdd_inv iv0 bv0 1 iv bv) :
    ∀ lf ∈ wAdd_L1, LfT (sta FI FB kv) wAdd.os (wAdd_inv iv0 bv0) (wAdd_mu iv0 bv0) 1 iv bv lf := by
  unfold wAdd_L1
  refine List.forall_mem_cons.2 ⟨?_, List.forall_mem_cons.2 ⟨?_, List.forall_mem_cons.2 ⟨?_, List.forall_mem_cons.2 ⟨?_, List.forall_mem_cons.2 ⟨?_, List.forall_mem_cons.2 ⟨?_, List.forall_mem_cons.2 ⟨?_, List.forall_mem_nil _⟩⟩⟩⟩⟩⟩⟩
  all_goals
    intro δ hf
  all_goals
    simp only [FT, TP, SB.tp, SI.tv, sta, IB.eval, and_true, true_and, ObsT, Ob.Tv, rowT, kix, In.tiv, ↓tbvT, In.tbv, get_cons, get_nil, reduceIte, Nat.reduceEqDiff, Int.reduceToNat, Int.reduceAdd, Int.reduceSub, Int.reduceLE, Int.reduceLT, Int.reduceEq, ne_eq, Bool.false_eq_true, not_true_eq_false, not_false_eq_true, true_iff, false_iff, iff_true, iff_false, false_implies, implies_true, decT, decide_true, decide_false, Bool.decide_eq_true, ap2, pb2, FI_3, FI_8, FI_9, FI_10, FI_11, FI_12, FI_13, FB_10, FB_11, FB_12, FB_13, FB_14, FB_15, FB_16, FI_30, FI_31, FI_32, FI_33, FB_30, FB_31, FB_32, FB_33, FI_3g, FI_8m, Int.toNat_natCast, Int.toNat_zero] at hf
  all_goals
    have a0 := ha.1 0 (by omega)
    have a1 := ha.1 1 (by omega)
    have a2 := ha.1 2 (by omega)
    have a3 := ha.1 3 (by omega)
    have a4 := ha.1 4 (by omega)
    have a5 := ha.1 5 (by omega)
    have a6 := ha.1 6 (by omega)
    have a7 := ha.1 7 (by omega)
    have a8 := ha.1 8 (by omega)
  all_goals
    have b1 := hin 1 0 1000 (by simp [wAdd, bW, gW, fM, lW, ap3, pb3, pb4, ints, mayV, i64s, i64b, kW, two, b2, lmap, setW, fnd, nW, oEr, wV, oAddW, bAddW, oDropW, bF, zW, oEg, rowW, oGrtW, lW2, gW2, bW2, fM2, lapp])
    simp only [Int.reduceLE, reduceIte, Int.reduceNeg] at b1
  all_goals
    have b4 := hin 4 (-9223372036854775808) 9223372036854775807 (by simp [wAdd, bW, gW, fM, lW, ap3, pb3, pb4, ints, mayV, i64s, i64b, kW, two, b2, lmap, setW, fnd, nW, oEr, wV, oAddW, bAddW, oDropW, bF, zW, oEg, rowW, oGrtW, lW2, gW2, bW2, fM2, lapp])
    simp only [Int.reduceLE, reduceIte, Int.reduceNeg] at b4
  all_goals
    have b5 := hin 5 (-9223372036854775808) 9223372036854775807 (by simp [wAdd, bW, gW, fM, lW, ap3, pb3, pb4, ints, mayV, i64s, i64b, kW, two, b2, lmap, setW, fnd, nW, oEr, wV, oAddW, bAddW, oDropW, bF, zW, oEg, rowW, oGrtW, lW2, gW2, bW2, fM2, lapp])
    simp only [Int.reduceLE, reduceIte, Int.reduceNeg] at b5
  all_goals
    have b6 := hin 6 (-9223372036854775808) 9223372036854775807 (by simp [wAdd, bW, gW, fM, lW, ap3, pb3, pb4, ints, mayV, i64s, i64b, kW, two, b2, lmap, setW, fnd, nW, oEr, wV, oAddW, bAddW, oDropW, bF, zW, oEg, rowW, oGrtW, lW2, gW2, bW2, fM2, lapp])
    simp only [Int.reduceLE, reduceIte, Int.reduceNeg] at b6
  all_goals
    have b7 := hin 7 (-9223372036854775808) 9223372036854775807 (by simp [wAdd, bW, gW, fM, lW, ap3, pb3, pb4, ints, mayV, i64s, i64b, kW, two, b2, lmap, setW, fnd, nW, oEr, wV, oAddW, bAddW, oDropW, bF, zW, oEg, rowW, oGrtW, lW2, gW2, bW2, fM2, lapp])
    simp only [Int.reduceLE, reduceIte, Int.reduceNeg] at b7
  all_goals
    have b8 := hin 8 (-9223372036854775808) 9223372036854775807 (by simp [wAdd, bW, gW, fM, lW, ap3, pb3, pb4, ints, mayV, i64s, i64b, kW, two, b2, lmap, setW, fnd, nW, oEr, wV, oAddW, bAddW, oDropW, bF, zW, oEg, rowW, oGrtW, lW2, gW2, bW2, fM2, lapp])
    simp only [Int.reduceLE, reduceIte, Int.reduceNeg] at b8
  all_goals
    simp only [FT, TP, SB.tp, SI.tv, sta, IB.eval, and_true, true_and, ObsT, Ob.Tv, rowT, kix, In.tiv, ↓tbvT, In.tbv, get_cons, get_nil, reduceIte, Nat.reduceEqDiff, Int.reduceToNat, Int.reduceAdd, Int.reduceSub, Int.reduceLE, Int.reduceLT, Int.reduceEq, ne_eq, Bool.false_eq_true, not_true_eq_false, not_false_eq_true, true_iff, false_iff, iff_true, iff_false, false_implies, implies_true, decT, decide_true, decide_false, Bool.decide_eq_true, ap2, pb2, FI_3, FI_8, FI_9, FI_10, FI_11, FI_12, FI_13, FB_10, FB_11, FB_12, FB_13, FB_14, FB_15, FB_16, FI_30, FI_31, FI_32, FI_33, FB_30, FB_31, FB_32, FB_33, FI_3g, FI_8m, Int.toNat_natCast, Int.toNat_zero, wAdd_inv, wAdd_mu, wAdd, o1, othT, bW, gW, fM, lW, ap3, pb3, pb4, ints, mayV, i64s, i64b, kW, two, b2, lmap, setW, fnd, nW, oEr, wV, oAddW, bAddW, oDropW, bF, zW, oEg, rowW, oGrtW, lW2, gW2, bW2, fM2, lapp, a0, a1, a2, a3, a4, a5, a6, a7, a8] at hf hi ⊢
  all_goals
    have hfa := fun h0 h1 h2 h3 => @fndW_at (iv0 0) (iv0 1) (iv0 4) (iv 29) (by omega) h0 h1 h2 h3
    have hfn := fun h1 h3 => @fndW_no (iv0 0) (iv0 1) (iv0 4) (iv 29) (by omega) h1 h3
  all_goals
    (repeat' (with_reducible apply And.intro)) <;> first
    | omega
    | assumption
    | (unfold inM; omega)
    | exact all_succ hi.1 hi.2.2 hf.1
    | (first | exact hf.1.1 | exact hf.2.1.1 | exact hf.2.2.1.1 | exact hf.2.2.2.1.1 | exact hf.2.2.2.2.1.1 | exact hf.2.2.2.2.2.1.1 | exact hf.2.2.2.2.2.2.1.1 | exact hf.2.2.2.2.2.2.2.1.1 | exact hi.1.1)
    | (clear hin hF ha; grind)
    | (simp only [hasW] at *; clear hin hF ha; grind)
set_option maxRecDepth 100000 in
theorem wAdd_c : LsC ((tm0 wAdd Try.f74 (Try.f74.body.getD .skip)) :: [wAdd_T1]) wAdd.os [wAdd_L0, wAdd_L1] := by
  unfold wAdd_L0 wAdd_L1
  exact ⟨List.forall_mem_cons.2 ⟨⟨⟨_, rfl, rfl⟩, by kernel_rfl⟩, List.forall_mem_nil _⟩, List.forall_mem_cons.2 ⟨⟨⟨_, rfl, rfl⟩, by kernel_rfl⟩, List.forall_mem_cons.2 ⟨⟨⟨_, rfl, rfl⟩, by kernel_rfl⟩, List.forall_mem_cons.2 ⟨⟨⟨_, rfl, rfl⟩, by kernel_rfl⟩, List.forall_mem_cons.2 ⟨⟨⟨_, rfl, rfl⟩, by kernel_rfl⟩, List.forall_mem_cons.2 ⟨⟨⟨_, rfl, rfl⟩, by kernel_rfl⟩, List.forall_mem_cons.2 ⟨⟨⟨_, rfl, rfl⟩, by kernel_rfl⟩, List.forall_mem_cons.2 ⟨⟨⟨_, rfl, rfl⟩, by kernel_rfl⟩, List.forall_mem_nil _⟩⟩⟩⟩⟩⟩⟩, trivial⟩
theorem wAdd_ok : wAdd.Ok Try.prog FI FB :=
  Con.of_plain (body := Try.f74.body.getD .skip) pok fiok (EntsFor.cons wRight_ok (EntsFor.cons wMay_ok (EntsFor.cons wFits_ok EntsFor.nil))) wAdd Try.func74 (by kernel_rfl) 9 [wAdd_T1] (by kernel_rfl) [wAdd_L0, wAdd_L1] ⟨wAdd_h0, wAdd_h1, trivial⟩ wAdd_c
    wAdd_inv wAdd_mu (fun _ _ _ => trivial) fun kv iv0 bv0 hin hF k l iv bv hk ha hi => match k, hk, hi with
    | 0, hk, hi => by
      cases hk
      exact wAdd_o0 kv iv0 bv0 hin hF iv bv ha hi
    | 1, hk, hi => by
      cases hk
      exact wAdd_o1 kv iv0 bv0 hin hF iv bv ha hi
    | k + 2, hk, _ => by simp at hk
noncomputable def wDrop_T1 : Tm := ⟨⟨131, 19, [(8, (.it .i64 (.v 25))), (7, (.it .i64 (.v 1))), (0, (.sl (.k 0) (.v 2) (.v 1) (.v 3))), (1, (.fn 132 [] [(.pt (.n 0) (.c 0))]))], [(.code (atC Try.f131 [1, 0, 1, 0, 0])), (.inLoop (atC Try.f131 [1, 0, 1, 0, 0])), (.inBlock 0), (.code (atC Try.f131 [1, 1]))], [], .none⟩, [⟨76, 18, [(8, (.fn 132 [] [(.pt (.n 0) (.c 0))])), (7, (.sl (.k 0) (.v 2) (.v 1) (.v 3))), (0, (.sl (.k 0) (.v 2) (.v 1) (.v 3)))], [(.inRegion (opsC (atC Try.f76 [1, 0])) [2, 3]), (.code (atC Try.f76 [1, 1]))], [], .none⟩, ⟨75, 27, [(10, (.it .i64 (.v 4))), (9, (.sl (.k 0) (.v 2) (.v 1) (.v 3))), (0, (.sl (.k 0) (.v 2) (.v 1) (.v 3)))], [(.inRegion (opsC (atC Try.f75 [1, 0])) [2, 3, 4, 5, 6, 7]), (.code (atC Try.f75 [1, 1]))], [], .none⟩],
    ⟨[(0, (.cells [(.it .i64 (.v 4))] 3))], 1, 0, 0, [((.le (.v 1) (.v 3)), .true), ((.le (.c 0) (.v 3)), .true)], [1, 0], [(4, ((-9223372036854775808), 9223372036854775807)), (1, (0, 1000)), (2, (0, (-1))), (25, (0, (-1)))]⟩, [25]⟩
noncomputable def wDrop_L0 : List Lf :=
  [(.cut [((.le (.v 1) (.v 3)), .true), ((.le (.c 0) (.v 3)), .true)] 1 ⟨⟨[(25, (.c 0))], []⟩, [(0, 0)], [], []⟩ [] (shT wDrop_T1 ⟨⟨[(25, (.c 0))], []⟩, [(0, 0)], [], []⟩))]
noncomputable def wDrop_L1 : List Lf :=
  [(.fin [((.eq (.v 1) (.op .add (.v 25) (.c 1))), .true), ((.le (.v 1) (.d 0)), .true), ((.ap 30 (.v 0) (.v 1) (.c 0) (.c 0) (.c 0) (.c 0)), .true), ((.eq (.ap 3 (.v 0) (.v 25) (.c 0) (.c 0) (.c 0) (.c 0)) (.v 4)), .true), ((.lt (.v 25) (.v 1)), .true), ((.le (.v 1) (.v 3)), .true), ((.le (.c 0) (.v 3)), .true)] 2 ⟨⟨[], []⟩, [(0, 3)], [(0, (.d 0))], []⟩ [(.ei (.op .add (.v 1) (.c (-1))) (.v 25)), (.ar [(.nt .i64), (.nt .i64), (.nt .i64), (.nt .i64), (.nt .i64)] (.ap 31 (.v 0) (.v 1) (.ap 30 (.v 0) (.v 1) (.v 4) (.c 0) (.c 0) (.c 0)) (.c 0) (.c 0) (.c 0)) (.ap 9 (.v 0) (.v 25) (.c 0) (.c 0) (.op .sub (.v 1) (.v 25)) (.c 0)) (.op .add (.v 1) (.c (-1)))), (.fa (.le (.op .add (.v 1) (.c (-1))) (.v 1)) .true), (.fa (.le (.v 1) (.c 256)) .true)] [.none]), (.fin [((.eq (.v 1) (.op .add (.v 25) (.c 1))), .false), ((.le (.v 1) (.d 0)), .true), ((.ap 30 (.v 0) (.v 1) (.c 0) (.c 0) (.c 0) (.c 0)), .true), ((.eq (.ap 3 (.v 0) (.v 25) (.c 0) (.c 0) (.c 0) (.c 0)) (.v 4)), .true), ((.lt (.v 25) (.v 1)), .true), ((.le (.v 1) (.v 3)), .true), ((.le (.c 0) (.v 3)), .true)] 2 ⟨⟨[], []⟩, [(0, 3)], [(0, (.d 0))], []⟩ [(.ar [(.nt .i64), (.nt .i64), (.nt .i64), (.nt .i64), (.nt .i64)] (.ap 31 (.v 0) (.v 1) (.ap 30 (.v 0) (.v 1) (.v 4) (.c 0) (.c 0) (.c 0)) (.c 0) (.c 0) (.c 0)) (.ap 9 (.ap 9 (.v 0) (.v 25) (.v 0) (.op .add (.v 25) (.c 1)) (.op .sub (.v 1) (.op .add (.v 25) (.c 1))) (.c 0)) (.op .add (.v 1) (.c (-1))) (.c 0) (.c 0) (.c 1) (.c 0)) (.op .add (.v 1) (.c (-1)))), (.fa (.le (.op .add (.v 1) (.c (-1))) (.v 1)) .true), (.fa (.le (.v 1) (.c 256)) .true)] [.none]), (.fin [((.ap 30 (.v 0) (.v 1) (.c 0) (.c 0) (.c 0) (.c 0)), .false), ((.eq (.ap 3 (.v 0) (.v 25) (.c 0) (.c 0) (.c 0) (.c 0)) (.v 4)), .true), ((.lt (.v 25) (.v 1)), .true), ((.le (.v 1) (.v 3)), .true), ((.le (.c 0) (.v 3)), .true)] 0 ⟨⟨[], []⟩, [], [], []⟩ [] []), (.cut [((.eq (.ap 3 (.v 0) (.v 25) (.c 0) (.c 0) (.c 0) (.c 0)) (.v 4)), .false), ((.lt (.v 25) (.v 1)), .true), ((.le (.v 1) (.v 3)), .true), ((.le (.c 0) (.v 3)), .true)] 1 ⟨⟨[(25, (.op .add (.v 25) (.c 1)))], []⟩, [(0, 0)], [], []⟩ [] (shT wDrop_T1 ⟨⟨[(25, (.op .add (.v 25) (.c 1)))], []⟩, [(0, 0)], [], []⟩)), (.fin [((.ap 30 (.v 0) (.v 1) (.c 0) (.c 0) (.c 0) (.c 0)), .true), ((.lt (.v 25) (.v 1)), .false), ((.le (.v 1) (.v 3)), .true), ((.le (.c 0) (.v 3)), .true)] 1 ⟨⟨[], []⟩, [], [], []⟩ [] []), (.fin [((.ap 30 (.v 0) (.v 1) (.c 0) (.c 0) (.c 0) (.c 0)), .false), ((.lt (.v 25) (.v 1)), .false), ((.le (.v 1) (.v 3)), .true), ((.le (.c 0) (.v 3)), .true)] 0 ⟨⟨[], []⟩, [], [], []⟩ [] [])]
set_option maxRecDepth 100000 in
theorem wDrop_h0 : (ex (ccOf Try.prog BF [58, 84] wDrop) ((fun cc => [wRight.ent cc, wMay.ent cc, wFits.ent cc]) (ccOf Try.prog BF [58, 84] wDrop)) (dw (ccOf Try.prog BF [58, 84] wDrop) ((fun cc => [wRight.ent cc, wMay.ent cc, wFits.ent cc]) (ccOf Try.prog BF [58, 84] wDrop)) 1000 4) (stopX []) 4000 (tm0 wDrop Try.f75 (Try.f75.body.getD .skip)).f (tm0 wDrop Try.f75 (Try.f75.body.getD .skip)).fs (tm0 wDrop Try.f75 (Try.f75.body.getD .skip)).H).lfs (ccOf Try.prog BF [58, 84] wDrop) ((tm0 wDrop Try.f75 (Try.f75.body.getD .skip)) :: [wDrop_T1]) wDrop.os = some wDrop_L0 := by kernel_rfl
set_option maxRecDepth 100000 in
theorem wDrop_h1 : (ex (ccOf Try.prog BF [58, 84] wDrop) ((fun cc => [wRight.ent cc, wMay.ent cc, wFits.ent cc]) (ccOf Try.prog BF [58, 84] wDrop)) (dw (ccOf Try.prog BF [58, 84] wDrop) ((fun cc => [wRight.ent cc, wMay.ent cc, wFits.ent cc]) (ccOf Try.prog BF [58, 84] wDrop)) 1000 4) (stopX []) 4000 wDrop_T1.f wDrop_T1.fs wDrop_T1.H).lfs (ccOf Try.prog BF [58, 84] wDrop) ((tm0 wDrop Try.f75 (Try.f75.body.getD .skip)) :: [wDrop_T1]) wDrop.os = some wDrop_L1 := by kernel_rfl
def wDrop_inv : (Nat → Int) → (Nat → Bool) → Nat → (Nat → Int) → (Nat → Bool) → Prop := fun iv0 _ k iv _ => match k with
  | 0 => True
  | _ => 0 ≤ iv 25 ∧ iv 25 ≤ iv0 1 ∧ ∀ j : Nat, (j : Int) < iv 25 → fl (iv0 0) j 0 ≠ iv0 4
def wDrop_mu : (Nat → Int) → (Nat → Bool) → Nat → (Nat → Int) → (Nat → Bool) → Nat := fun iv0 _ k iv _ => match k with | 0 => 2 ^ 80 | _ => (iv0 1 - iv 25).toNat
set_option maxHeartbeats 0 in
theorem wDrop_o0 (kv : Kv) (iv0 : Nat → Int) (bv0 : Nat → Bool) (hin : InB wDrop.B iv0) (hF : FT (sta FI FB kv iv0 bv0) (dlt dyn0) wDrop.F) (iv : Nat → Int) (bv : Nat → Bool) (ha : Agr 5 iv0 bv0 iv bv) (hi : wDrop_inv iv0 bv0 0 iv bv) :
    ∀ lf ∈ wDrop_L0, LfT (sta FI FB kv) wDrop.os (wDrop_inv iv0 bv0) (wDrop_mu iv0 bv0) 0 iv bv lf := by
  unfold wDrop_L0
  refine List.forall_mem_cons.2 ⟨?_, List.forall_mem_nil _⟩
  all_goals
    intro δ hf
  all_goals
    simp only [FT, TP, SB.tp, SI.tv, sta, IB.eval, and_true, true_and, ObsT, Ob.Tv, rowT, kix, In.tiv, ↓tbvT, In.tbv, get_cons, get_nil, reduceIte, Nat.reduceEqDiff, Int.reduceToNat, Int.reduceAdd, Int.reduceSub, Int.reduceLE, Int.reduceLT, Int.reduceEq, ne_eq, Bool.false_eq_true, not_true_eq_false, not_false_eq_true, true_iff, false_iff, iff_true, iff_false, false_implies, implies_true, decT, decide_true, decide_false, Bool.decide_eq_true, ap2, pb2, FI_3, FI_8, FI_9, FI_10, FI_11, FI_12, FI_13, FB_10, FB_11, FB_12, FB_13, FB_14, FB_15, FB_16, FI_30, FI_31, FI_32, FI_33, FB_30, FB_31, FB_32, FB_33, FI_3g, FI_8m, Int.toNat_natCast, Int.toNat_zero] at hf
  all_goals
    have a0 := ha.1 0 (by omega)
    have a1 := ha.1 1 (by omega)
    have a2 := ha.1 2 (by omega)
    have a3 := ha.1 3 (by omega)
    have a4 := ha.1 4 (by omega)
  all_goals
    have b1 := hin 1 0 1000 (by simp [wDrop, bW, gW, fM, lW, ap3, pb3, pb4, ints, mayV, i64s, i64b, kW, two, b2, lmap, setW, fnd, nW, oEr, wV, oAddW, bAddW, oDropW, bF, zW, oEg, rowW, oGrtW, lW2, gW2, bW2, fM2, lapp])
    simp only [Int.reduceLE, reduceIte, Int.reduceNeg] at b1
  all_goals
    have b4 := hin 4 (-9223372036854775808) 9223372036854775807 (by simp [wDrop, bW, gW, fM, lW, ap3, pb3, pb4, ints, mayV, i64s, i64b, kW, two, b2, lmap, setW, fnd, nW, oEr, wV, oAddW, bAddW, oDropW, bF, zW, oEg, rowW, oGrtW, lW2, gW2, bW2, fM2, lapp])
    simp only [Int.reduceLE, reduceIte, Int.reduceNeg] at b4
  all_goals
    simp only [FT, TP, SB.tp, SI.tv, sta, IB.eval, and_true, true_and, ObsT, Ob.Tv, rowT, kix, In.tiv, ↓tbvT, In.tbv, get_cons, get_nil, reduceIte, Nat.reduceEqDiff, Int.reduceToNat, Int.reduceAdd, Int.reduceSub, Int.reduceLE, Int.reduceLT, Int.reduceEq, ne_eq, Bool.false_eq_true, not_true_eq_false, not_false_eq_true, true_iff, false_iff, iff_true, iff_false, false_implies, implies_true, decT, decide_true, decide_false, Bool.decide_eq_true, ap2, pb2, FI_3, FI_8, FI_9, FI_10, FI_11, FI_12, FI_13, FB_10, FB_11, FB_12, FB_13, FB_14, FB_15, FB_16, FI_30, FI_31, FI_32, FI_33, FB_30, FB_31, FB_32, FB_33, FI_3g, FI_8m, Int.toNat_natCast, Int.toNat_zero, wDrop_inv, wDrop_mu, wDrop, o1, othT, bW, gW, fM, lW, ap3, pb3, pb4, ints, mayV, i64s, i64b, kW, two, b2, lmap, setW, fnd, nW, oEr, wV, oAddW, bAddW, oDropW, bF, zW, oEg, rowW, oGrtW, lW2, gW2, bW2, fM2, lapp, a0, a1, a2, a3, a4] at hf hi ⊢
  all_goals
    (repeat' (with_reducible apply And.intro)) <;> first
    | omega
    | assumption
    | (unfold inM; omega)
    | exact fun j hj => by omega
set_option maxHeartbeats 0 in
theorem wDrop_o1 (kv : Kv) (iv0 : Nat → Int) (bv0 : Nat → Bool) (hin : InB wDrop.B iv0) (hF : FT (sta FI FB kv iv0 bv0) (dlt dyn0) wDrop.F) (iv : Nat → Int) (bv : Nat → Bool) (ha : Agr 5 iv0 bv0 iv bv) (hi : wDrop_inv iv0 bv0 1 iv bv) :
    ∀ lf ∈ wDrop_L1, LfT (sta FI FB kv) wDrop.os (wDrop_inv iv0 bv0) (wDrop_mu iv0 bv0) 1 iv bv lf := by
  unfold wDrop_L1
  refine List.forall_mem_cons.2 ⟨?_, List.forall_mem_cons.2 ⟨?_, List.forall_mem_cons.2 ⟨?_, List.forall_mem_cons.2 ⟨?_, List.forall_mem_cons.2 ⟨?_, List.forall_mem_cons.2 ⟨?_, List.forall_mem_nil _⟩⟩⟩⟩⟩⟩
  all_goals
    intro δ hf
  all_goals
    simp only [FT, TP, SB.tp, SI.tv, sta, IB.eval, and_true, true_and, ObsT, Ob.Tv, rowT, kix, In.tiv, ↓tbvT, In.tbv, get_cons, get_nil, reduceIte, Nat.reduceEqDiff, Int.reduceToNat, Int.reduceAdd, Int.reduceSub, Int.reduceLE, Int.reduceLT, Int.reduceEq, ne_eq, Bool.false_eq_true, not_true_eq_false, not_false_eq_true, true_iff, false_iff, iff_true, iff_false, false_implies, implies_true, decT, decide_true, decide_false, Bool.decide_eq_true, ap2, pb2, FI_3, FI_8, FI_9, FI_10, FI_11, FI_12, FI_13, FB_10, FB_11, FB_12, FB_13, FB_14, FB_15, FB_16, FI_30, FI_31, FI_32, FI_33, FB_30, FB_31, FB_32, FB_33, FI_3g, FI_8m, Int.toNat_natCast, Int.toNat_zero] at hf
  all_goals
    have a0 := ha.1 0 (by omega)
    have a1 := ha.1 1 (by omega)
    have a2 := ha.1 2 (by omega)
    have a3 := ha.1 3 (by omega)
    have a4 := ha.1 4 (by omega)
  all_goals
    have b1 := hin 1 0 1000 (by simp [wDrop, bW, gW, fM, lW, ap3, pb3, pb4, ints, mayV, i64s, i64b, kW, two, b2, lmap, setW, fnd, nW, oEr, wV, oAddW, bAddW, oDropW, bF, zW, oEg, rowW, oGrtW, lW2, gW2, bW2, fM2, lapp])
    simp only [Int.reduceLE, reduceIte, Int.reduceNeg] at b1
  all_goals
    have b4 := hin 4 (-9223372036854775808) 9223372036854775807 (by simp [wDrop, bW, gW, fM, lW, ap3, pb3, pb4, ints, mayV, i64s, i64b, kW, two, b2, lmap, setW, fnd, nW, oEr, wV, oAddW, bAddW, oDropW, bF, zW, oEg, rowW, oGrtW, lW2, gW2, bW2, fM2, lapp])
    simp only [Int.reduceLE, reduceIte, Int.reduceNeg] at b4
  all_goals
    simp only [FT, TP, SB.tp, SI.tv, sta, IB.eval, and_true, true_and, ObsT, Ob.Tv, rowT, kix, In.tiv, ↓tbvT, In.tbv, get_cons, get_nil, reduceIte, Nat.reduceEqDiff, Int.reduceToNat, Int.reduceAdd, Int.reduceSub, Int.reduceLE, Int.reduceLT, Int.reduceEq, ne_eq, Bool.false_eq_true, not_true_eq_false, not_false_eq_true, true_iff, false_iff, iff_true, iff_false, false_implies, implies_true, decT, decide_true, decide_false, Bool.decide_eq_true, ap2, pb2, FI_3, FI_8, FI_9, FI_10, FI_11, FI_12, FI_13, FB_10, FB_11, FB_12, FB_13, FB_14, FB_15, FB_16, FI_30, FI_31, FI_32, FI_33, FB_30, FB_31, FB_32, FB_33, FI_3g, FI_8m, Int.toNat_natCast, Int.toNat_zero, wDrop_inv, wDrop_mu, wDrop, o1, othT, bW, gW, fM, lW, ap3, pb3, pb4, ints, mayV, i64s, i64b, kW, two, b2, lmap, setW, fnd, nW, oEr, wV, oAddW, bAddW, oDropW, bF, zW, oEg, rowW, oGrtW, lW2, gW2, bW2, fM2, lapp, a0, a1, a2, a3, a4] at hf hi ⊢
  all_goals
    have hfa := fun h0 h1 h2 h3 => @fndW_at (iv0 0) (iv0 1) (iv0 4) (iv 25) (by omega) h0 h1 h2 h3
    have hfn := fun h1 h3 => @fndW_no (iv0 0) (iv0 1) (iv0 4) (iv 25) (by omega) h1 h3
  all_goals
    (repeat' (with_reducible apply And.intro)) <;> first
    | omega
    | assumption
    | (unfold inM; omega)
    | exact all_succ hi.1 hi.2.2 hf.1
    | (first | exact hf.1.1 | exact hf.2.1.1 | exact hf.2.2.1.1 | exact hf.2.2.2.1.1 | exact hf.2.2.2.2.1.1 | exact hf.2.2.2.2.2.1.1 | exact hf.2.2.2.2.2.2.1.1 | exact hf.2.2.2.2.2.2.2.1.1 | exact hi.1.1)
    | (clear hin hF ha; grind)
    | (simp only [hasW] at *; clear hin hF ha; grind)
    | ((have hk := hfa (by omega) (by omega) (by first | exact hf.1 | exact hf.2.1 | exact hf.2.2.1 | exact hf.2.2.2.1) hi.2.2); simp only [hk]; (intro j hj; refine ⟨?_, ?_, ?_, ?_, ?_⟩ <;> (rw [fl_delW (by omega) (by decide)]; (try simp only [fl_blit, fl_set]); (repeat' split) <;> first | rfl | (exfalso; omega) | (congr 1; omega) | decide)))
set_option maxRecDepth 100000 in
theorem wDrop_c : LsC ((tm0 wDrop Try.f75 (Try.f75.body.getD .skip)) :: [wDrop_T1]) wDrop.os [wDrop_L0, wDrop_L1] := by
  unfold wDrop_L0 wDrop_L1
  exact ⟨List.forall_mem_cons.2 ⟨⟨⟨_, rfl, rfl⟩, by kernel_rfl⟩, List.forall_mem_nil _⟩, List.forall_mem_cons.2 ⟨⟨⟨_, rfl, rfl⟩, by kernel_rfl⟩, List.forall_mem_cons.2 ⟨⟨⟨_, rfl, rfl⟩, by kernel_rfl⟩, List.forall_mem_cons.2 ⟨⟨⟨_, rfl, rfl⟩, by kernel_rfl⟩, List.forall_mem_cons.2 ⟨⟨⟨_, rfl, rfl⟩, by kernel_rfl⟩, List.forall_mem_cons.2 ⟨⟨⟨_, rfl, rfl⟩, by kernel_rfl⟩, List.forall_mem_cons.2 ⟨⟨⟨_, rfl, rfl⟩, by kernel_rfl⟩, List.forall_mem_nil _⟩⟩⟩⟩⟩⟩, trivial⟩
theorem wDrop_ok : wDrop.Ok Try.prog FI FB :=
  Con.of_plain (body := Try.f75.body.getD .skip) pok fiok (EntsFor.cons wRight_ok (EntsFor.cons wMay_ok (EntsFor.cons wFits_ok EntsFor.nil))) wDrop Try.func75 (by kernel_rfl) 5 [wDrop_T1] (by kernel_rfl) [wDrop_L0, wDrop_L1] ⟨wDrop_h0, wDrop_h1, trivial⟩ wDrop_c
    wDrop_inv wDrop_mu (fun _ _ _ => trivial) fun kv iv0 bv0 hin hF k l iv bv hk ha hi => match k, hk, hi with
    | 0, hk, hi => by
      cases hk
      exact wDrop_o0 kv iv0 bv0 hin hF iv bv ha hi
    | 1, hk, hi => by
      cases hk
      exact wDrop_o1 kv iv0 bv0 hin hF iv bv ha hi
    | k + 2, hk, _ => by simp at hk
noncomputable def qAdd_L0 : List Lf :=
  [(.fin [((.le (.c 0) (.ap 30 (.v 0) (.v 1) (.v 4) (.c 0) (.c 0) (.c 0))), .true), ((.lt (.ap 30 (.v 0) (.v 1) (.v 4) (.c 0) (.c 0) (.c 0)) (.v 1)), .true), ((.le (.c (-1)) (.ap 30 (.v 0) (.v 1) (.v 4) (.c 0) (.c 0) (.c 0))), .true), ((.ap 32 (.v 4) (.v 5) (.v 6) (.v 7) (.v 8) (.c 0)), .true), ((.ap 30 (.v 0) (.v 1) (.c 0) (.c 0) (.c 0) (.c 0)), .true), ((.le (.v 1) (.v 3)), .true), ((.le (.c 0) (.v 3)), .true)] 2 ⟨⟨[], []⟩, [], [], []⟩ [] []), (.fin [((.le (.op .add (.v 1) (.c 1)) (.d 1)), .true), ((.le (.v 1) (.d 0)), .true), ((.le (.c 0) (.ap 30 (.v 0) (.v 1) (.v 4) (.c 0) (.c 0) (.c 0))), .false), ((.lt (.ap 30 (.v 0) (.v 1) (.v 4) (.c 0) (.c 0) (.c 0)) (.v 1)), .true), ((.le (.c (-1)) (.ap 30 (.v 0) (.v 1) (.v 4) (.c 0) (.c 0) (.c 0))), .true), ((.ap 32 (.v 4) (.v 5) (.v 6) (.v 7) (.v 8) (.c 0)), .true), ((.ap 30 (.v 0) (.v 1) (.c 0) (.c 0) (.c 0) (.c 0)), .true), ((.le (.v 1) (.v 3)), .true), ((.le (.c 0) (.v 3)), .true)] 3 ⟨⟨[], []⟩, [(0, 4)], [(0, (.d 1))], []⟩ [(.fa (.le (.v 1) (.c 256)) .true)] [.none]), (.fin [((.ap 32 (.v 4) (.v 5) (.v 6) (.v 7) (.v 8) (.c 0)), .false), ((.ap 30 (.v 0) (.v 1) (.c 0) (.c 0) (.c 0) (.c 0)), .true), ((.le (.v 1) (.v 3)), .true), ((.le (.c 0) (.v 3)), .true)] 1 ⟨⟨[], []⟩, [], [], []⟩ [] []), (.fin [((.ap 30 (.v 0) (.v 1) (.c 0) (.c 0) (.c 0) (.c 0)), .false), ((.le (.v 1) (.v 3)), .true), ((.le (.c 0) (.v 3)), .true)] 0 ⟨⟨[], []⟩, [], [], []⟩ [] [])]
set_option maxRecDepth 100000 in
theorem qAdd_h0 : (ex (ccOf Try.prog BF [58, 84] qAdd) ((fun cc => [qRight.ent cc, qMay.ent cc, qFind.ent cc, rFits.ent cc]) (ccOf Try.prog BF [58, 84] qAdd)) (dw (ccOf Try.prog BF [58, 84] qAdd) ((fun cc => [qRight.ent cc, qMay.ent cc, qFind.ent cc, rFits.ent cc]) (ccOf Try.prog BF [58, 84] qAdd)) 1000 4) (stopX []) 4000 (tm0 qAdd Try.f77 (Try.f77.body.getD .skip)).f (tm0 qAdd Try.f77 (Try.f77.body.getD .skip)).fs (tm0 qAdd Try.f77 (Try.f77.body.getD .skip)).H).lfs (ccOf Try.prog BF [58, 84] qAdd) ((tm0 qAdd Try.f77 (Try.f77.body.getD .skip)) :: []) qAdd.os = some qAdd_L0 := by kernel_rfl
def qAdd_inv : (Nat → Int) → (Nat → Bool) → Nat → (Nat → Int) → (Nat → Bool) → Prop := fun _ _ _ _ _ => True
def qAdd_mu : (Nat → Int) → (Nat → Bool) → Nat → (Nat → Int) → (Nat → Bool) → Nat := fun _ _ _ _ _ => 0
set_option maxHeartbeats 0 in
theorem qAdd_o0 (kv : Kv) (iv0 : Nat → Int) (bv0 : Nat → Bool) (hin : InB qAdd.B iv0) (hF : FT (sta FI FB kv iv0 bv0) (dlt dyn0) qAdd.F) (iv : Nat → Int) (bv : Nat → Bool) (ha : Agr 9 iv0 bv0 iv bv) (hi : qAdd_inv iv0 bv0 0 iv bv) :
    ∀ lf ∈ qAdd_L0, LfT (sta FI FB kv) qAdd.os (qAdd_inv iv0 bv0) (qAdd_mu iv0 bv0) 0 iv bv lf := by
  unfold qAdd_L0
  refine List.forall_mem_cons.2 ⟨?_, List.forall_mem_cons.2 ⟨?_, List.forall_mem_cons.2 ⟨?_, List.forall_mem_cons.2 ⟨?_, List.forall_mem_nil _⟩⟩⟩⟩
  all_goals
    intro δ hf
  all_goals
    simp only [FT, TP, SB.tp, SI.tv, sta, IB.eval, and_true, true_and, ObsT, Ob.Tv, rowT, kix, In.tiv, ↓tbvT, In.tbv, get_cons, get_nil, reduceIte, Nat.reduceEqDiff, Int.reduceToNat, Int.reduceAdd, Int.reduceSub, Int.reduceLE, Int.reduceLT, Int.reduceEq, ne_eq, Bool.false_eq_true, not_true_eq_false, not_false_eq_true, true_iff, false_iff, iff_true, iff_false, false_implies, implies_true, decT, decide_true, decide_false, Bool.decide_eq_true, ap2, pb2, FI_3, FI_8, FI_9, FI_10, FI_11, FI_12, FI_13, FB_10, FB_11, FB_12, FB_13, FB_14, FB_15, FB_16, FI_30, FI_31, FI_32, FI_33, FB_30, FB_31, FB_32, FB_33, FI_3g, FI_8m, Int.toNat_natCast, Int.toNat_zero] at hf
  all_goals
    have a0 := ha.1 0 (by omega)
    have a1 := ha.1 1 (by omega)
    have a2 := ha.1 2 (by omega)
    have a3 := ha.1 3 (by omega)
    have a4 := ha.1 4 (by omega)
    have a5 := ha.1 5 (by omega)
    have a6 := ha.1 6 (by omega)
    have a7 := ha.1 7 (by omega)
    have a8 := ha.1 8 (by omega)
  all_goals
    have b1 := hin 1 0 1000 (by simp [qAdd, bW, gW, fM, lW, ap3, pb3, pb4, ints, mayV, i64s, i64b, kW, two, b2, lmap, setW, fnd, nW, oEr, wV, oAddW, bAddW, oDropW, bF, zW, oEg, rowW, oGrtW, lW2, gW2, bW2, fM2, lapp])
    simp only [Int.reduceLE, reduceIte, Int.reduceNeg] at b1
  all_goals
    have b4 := hin 4 (-9223372036854775808) 9223372036854775807 (by simp [qAdd, bW, gW, fM, lW, ap3, pb3, pb4, ints, mayV, i64s, i64b, kW, two, b2, lmap, setW, fnd, nW, oEr, wV, oAddW, bAddW, oDropW, bF, zW, oEg, rowW, oGrtW, lW2, gW2, bW2, fM2, lapp])
    simp only [Int.reduceLE, reduceIte, Int.reduceNeg] at b4
  all_goals
    have b5 := hin 5 (-9223372036854775808) 9223372036854775807 (by simp [qAdd, bW, gW, fM, lW, ap3, pb3, pb4, ints, mayV, i64s, i64b, kW, two, b2, lmap, setW, fnd, nW, oEr, wV, oAddW, bAddW, oDropW, bF, zW, oEg, rowW, oGrtW, lW2, gW2, bW2, fM2, lapp])
    simp only [Int.reduceLE, reduceIte, Int.reduceNeg] at b5
  all_goals
    have b6 := hin 6 (-9223372036854775808) 9223372036854775807 (by simp [qAdd, bW, gW, fM, lW, ap3, pb3, pb4, ints, mayV, i64s, i64b, kW, two, b2, lmap, setW, fnd, nW, oEr, wV, oAddW, bAddW, oDropW, bF, zW, oEg, rowW, oGrtW, lW2, gW2, bW2, fM2, lapp])
    simp only [Int.reduceLE, reduceIte, Int.reduceNeg] at b6
  all_goals
    have b7 := hin 7 (-9223372036854775808) 9223372036854775807 (by simp [qAdd, bW, gW, fM, lW, ap3, pb3, pb4, ints, mayV, i64s, i64b, kW, two, b2, lmap, setW, fnd, nW, oEr, wV, oAddW, bAddW, oDropW, bF, zW, oEg, rowW, oGrtW, lW2, gW2, bW2, fM2, lapp])
    simp only [Int.reduceLE, reduceIte, Int.reduceNeg] at b7
  all_goals
    have b8 := hin 8 (-9223372036854775808) 9223372036854775807 (by simp [qAdd, bW, gW, fM, lW, ap3, pb3, pb4, ints, mayV, i64s, i64b, kW, two, b2, lmap, setW, fnd, nW, oEr, wV, oAddW, bAddW, oDropW, bF, zW, oEg, rowW, oGrtW, lW2, gW2, bW2, fM2, lapp])
    simp only [Int.reduceLE, reduceIte, Int.reduceNeg] at b8
  all_goals
    simp only [FT, TP, SB.tp, SI.tv, sta, IB.eval, and_true, true_and, ObsT, Ob.Tv, rowT, kix, In.tiv, ↓tbvT, In.tbv, get_cons, get_nil, reduceIte, Nat.reduceEqDiff, Int.reduceToNat, Int.reduceAdd, Int.reduceSub, Int.reduceLE, Int.reduceLT, Int.reduceEq, ne_eq, Bool.false_eq_true, not_true_eq_false, not_false_eq_true, true_iff, false_iff, iff_true, iff_false, false_implies, implies_true, decT, decide_true, decide_false, Bool.decide_eq_true, ap2, pb2, FI_3, FI_8, FI_9, FI_10, FI_11, FI_12, FI_13, FB_10, FB_11, FB_12, FB_13, FB_14, FB_15, FB_16, FI_30, FI_31, FI_32, FI_33, FB_30, FB_31, FB_32, FB_33, FI_3g, FI_8m, Int.toNat_natCast, Int.toNat_zero, qAdd_inv, qAdd_mu, qAdd, o1, othT, bW, gW, fM, lW, ap3, pb3, pb4, ints, mayV, i64s, i64b, kW, two, b2, lmap, setW, fnd, nW, oEr, wV, oAddW, bAddW, oDropW, bF, zW, oEg, rowW, oGrtW, lW2, gW2, bW2, fM2, lapp, a0, a1, a2, a3, a4, a5, a6, a7, a8] at hf hi ⊢
  all_goals
    (repeat' (with_reducible apply And.intro)) <;> first
    | omega
    | assumption
    | (unfold inM; omega)
    | (first | exact hf.1.1 | exact hf.2.1.1 | exact hf.2.2.1.1 | exact hf.2.2.2.1.1 | exact hf.2.2.2.2.1.1 | exact hf.2.2.2.2.2.1.1 | exact hf.2.2.2.2.2.2.1.1 | exact hf.2.2.2.2.2.2.2.1.1 | exact hi.1.1)
    | (clear hin hF ha; grind)
set_option maxRecDepth 100000 in
theorem qAdd_c : LsC ((tm0 qAdd Try.f77 (Try.f77.body.getD .skip)) :: []) qAdd.os [qAdd_L0] := by
  unfold qAdd_L0
  exact ⟨List.forall_mem_cons.2 ⟨⟨⟨_, rfl, rfl⟩, by kernel_rfl⟩, List.forall_mem_cons.2 ⟨⟨⟨_, rfl, rfl⟩, by kernel_rfl⟩, List.forall_mem_cons.2 ⟨⟨⟨_, rfl, rfl⟩, by kernel_rfl⟩, List.forall_mem_cons.2 ⟨⟨⟨_, rfl, rfl⟩, by kernel_rfl⟩, List.forall_mem_nil _⟩⟩⟩⟩, trivial⟩
theorem qAdd_ok : qAdd.Ok Try.prog FI FB :=
  Con.of_plain (body := Try.f77.body.getD .skip) pok fiok (EntsFor.cons qRight_ok (EntsFor.cons qMay_ok (EntsFor.cons qFind_ok (EntsFor.cons rFits_ok EntsFor.nil)))) qAdd Try.func77 (by kernel_rfl) 9 [] (by kernel_rfl) [qAdd_L0] ⟨qAdd_h0, trivial⟩ qAdd_c
    qAdd_inv qAdd_mu (fun _ _ _ => trivial) fun kv iv0 bv0 hin hF k l iv bv hk ha hi => match k, hk, hi with
    | 0, hk, hi => by
      cases hk
      exact qAdd_o0 kv iv0 bv0 hin hF iv bv ha hi
    | k + 1, hk, _ => by simp at hk
noncomputable def qDrop_L0 : List Lf :=
  [(.fin [((.lt (.ap 30 (.v 0) (.v 1) (.v 4) (.c 0) (.c 0) (.c 0)) (.c 0)), .true), ((.lt (.ap 30 (.v 0) (.v 1) (.v 4) (.c 0) (.c 0) (.c 0)) (.v 1)), .true), ((.le (.c (-1)) (.ap 30 (.v 0) (.v 1) (.v 4) (.c 0) (.c 0) (.c 0))), .true), ((.ap 30 (.v 0) (.v 1) (.c 0) (.c 0) (.c 0) (.c 0)), .true), ((.le (.v 1) (.v 3)), .true), ((.le (.c 0) (.v 3)), .true)] 1 ⟨⟨[], []⟩, [], [], []⟩ [] []), (.fin [((.le (.ap 30 (.v 0) (.v 1) (.v 4) (.c 0) (.c 0) (.c 0)) (.d 0)), .true), ((.eq (.v 1) (.op .add (.ap 30 (.v 0) (.v 1) (.v 4) (.c 0) (.c 0) (.c 0)) (.c 1))), .true), ((.lt (.ap 30 (.v 0) (.v 1) (.v 4) (.c 0) (.c 0) (.c 0)) (.c 0)), .false), ((.lt (.ap 30 (.v 0) (.v 1) (.v 4) (.c 0) (.c 0) (.c 0)) (.v 1)), .true), ((.le (.c (-1)) (.ap 30 (.v 0) (.v 1) (.v 4) (.c 0) (.c 0) (.c 0))), .true), ((.ap 30 (.v 0) (.v 1) (.c 0) (.c 0) (.c 0) (.c 0)), .true), ((.le (.v 1) (.v 3)), .true), ((.le (.c 0) (.v 3)), .true)] 2 ⟨⟨[], []⟩, [(0, 1)], [(0, (.d 0))], []⟩ [(.ei (.op .add (.v 1) (.c (-1))) (.ap 30 (.v 0) (.v 1) (.v 4) (.c 0) (.c 0) (.c 0))), (.ar [(.nt .i64), (.nt .i64), (.nt .i64), (.nt .i64), (.nt .i64)] (.ap 31 (.v 0) (.v 1) (.ap 30 (.v 0) (.v 1) (.v 4) (.c 0) (.c 0) (.c 0)) (.c 0) (.c 0) (.c 0)) (.v 0) (.op .add (.v 1) (.c (-1)))), (.fa (.le (.op .add (.v 1) (.c (-1))) (.ap 30 (.v 0) (.v 1) (.v 4) (.c 0) (.c 0) (.c 0))) .true), (.fa (.le (.c 0) (.op .add (.v 1) (.c (-1)))) .true), (.fa (.le (.v 1) (.c 256)) .true)] [.none]), (.fin [((.le (.op .add (.v 1) (.c (-1))) (.d 1)), .true), ((.le (.ap 30 (.v 0) (.v 1) (.v 4) (.c 0) (.c 0) (.c 0)) (.d 0)), .true), ((.eq (.v 1) (.op .add (.ap 30 (.v 0) (.v 1) (.v 4) (.c 0) (.c 0) (.c 0)) (.c 1))), .false), ((.lt (.ap 30 (.v 0) (.v 1) (.v 4) (.c 0) (.c 0) (.c 0)) (.c 0)), .false), ((.lt (.ap 30 (.v 0) (.v 1) (.v 4) (.c 0) (.c 0) (.c 0)) (.v 1)), .true), ((.le (.c (-1)) (.ap 30 (.v 0) (.v 1) (.v 4) (.c 0) (.c 0) (.c 0))), .true), ((.ap 30 (.v 0) (.v 1) (.c 0) (.c 0) (.c 0) (.c 0)), .true), ((.le (.v 1) (.v 3)), .true), ((.le (.c 0) (.v 3)), .true)] 2 ⟨⟨[], []⟩, [(0, 2)], [(0, (.d 1))], []⟩ [(.ar [(.nt .i64), (.nt .i64), (.nt .i64), (.nt .i64), (.nt .i64)] (.ap 31 (.v 0) (.v 1) (.ap 30 (.v 0) (.v 1) (.v 4) (.c 0) (.c 0) (.c 0)) (.c 0) (.c 0) (.c 0)) (.ap 9 (.v 0) (.ap 30 (.v 0) (.v 1) (.v 4) (.c 0) (.c 0) (.c 0)) (.v 0) (.op .add (.ap 30 (.v 0) (.v 1) (.v 4) (.c 0) (.c 0) (.c 0)) (.c 1)) (.op .sub (.v 1) (.op .add (.ap 30 (.v 0) (.v 1) (.v 4) (.c 0) (.c 0) (.c 0)) (.c 1))) (.c 0)) (.op .add (.v 1) (.c (-1)))), (.fa (.le (.c 0) (.op .add (.v 1) (.c (-1)))) .true), (.fa (.le (.v 1) (.c 256)) .true)] [.none]), (.fin [((.ap 30 (.v 0) (.v 1) (.c 0) (.c 0) (.c 0) (.c 0)), .false), ((.le (.v 1) (.v 3)), .true), ((.le (.c 0) (.v 3)), .true)] 0 ⟨⟨[], []⟩, [], [], []⟩ [] [])]
set_option maxRecDepth 100000 in
theorem qDrop_h0 : (ex (ccOf Try.prog BF [58, 84] qDrop) ((fun cc => [qRight.ent cc, qMay.ent cc, qFind.ent cc, rFits.ent cc]) (ccOf Try.prog BF [58, 84] qDrop)) (dw (ccOf Try.prog BF [58, 84] qDrop) ((fun cc => [qRight.ent cc, qMay.ent cc, qFind.ent cc, rFits.ent cc]) (ccOf Try.prog BF [58, 84] qDrop)) 1000 4) (stopX []) 4000 (tm0 qDrop Try.f78 (Try.f78.body.getD .skip)).f (tm0 qDrop Try.f78 (Try.f78.body.getD .skip)).fs (tm0 qDrop Try.f78 (Try.f78.body.getD .skip)).H).lfs (ccOf Try.prog BF [58, 84] qDrop) ((tm0 qDrop Try.f78 (Try.f78.body.getD .skip)) :: []) qDrop.os = some qDrop_L0 := by kernel_rfl
def qDrop_inv : (Nat → Int) → (Nat → Bool) → Nat → (Nat → Int) → (Nat → Bool) → Prop := fun _ _ _ _ _ => True
def qDrop_mu : (Nat → Int) → (Nat → Bool) → Nat → (Nat → Int) → (Nat → Bool) → Nat := fun _ _ _ _ _ => 0
set_option maxHeartbeats 0 in
theorem qDrop_o0 (kv : Kv) (iv0 : Nat → Int) (bv0 : Nat → Bool) (hin : InB qDrop.B iv0) (hF : FT (sta FI FB kv iv0 bv0) (dlt dyn0) qDrop.F) (iv : Nat → Int) (bv : Nat → Bool) (ha : Agr 5 iv0 bv0 iv bv) (hi : qDrop_inv iv0 bv0 0 iv bv) :
    ∀ lf ∈ qDrop_L0, LfT (sta FI FB kv) qDrop.os (qDrop_inv iv0 bv0) (qDrop_mu iv0 bv0) 0 iv bv lf := by
  unfold qDrop_L0
  refine List.forall_mem_cons.2 ⟨?_, List.forall_mem_cons.2 ⟨?_, List.forall_mem_cons.2 ⟨?_, List.forall_mem_cons.2 ⟨?_, List.forall_mem_nil _⟩⟩⟩⟩
  all_goals
    intro δ hf
  all_goals
    simp only [FT, TP, SB.tp, SI.tv, sta, IB.eval, and_true, true_and, ObsT, Ob.Tv, rowT, kix, In.tiv, ↓tbvT, In.tbv, get_cons, get_nil, reduceIte, Nat.reduceEqDiff, Int.reduceToNat, Int.reduceAdd, Int.reduceSub, Int.reduceLE, Int.reduceLT, Int.reduceEq, ne_eq, Bool.false_eq_true, not_true_eq_false, not_false_eq_true, true_iff, false_iff, iff_true, iff_false, false_implies, implies_true, decT, decide_true, decide_false, Bool.decide_eq_true, ap2, pb2, FI_3, FI_8, FI_9, FI_10, FI_11, FI_12, FI_13, FB_10, FB_11, FB_12, FB_13, FB_14, FB_15, FB_16, FI_30, FI_31, FI_32, FI_33, FB_30, FB_31, FB_32, FB_33, FI_3g, FI_8m, Int.toNat_natCast, Int.toNat_zero] at hf
  all_goals
    have a0 := ha.1 0 (by omega)
    have a1 := ha.1 1 (by omega)
    have a2 := ha.1 2 (by omega)
    have a3 := ha.1 3 (by omega)
    have a4 := ha.1 4 (by omega)
  all_goals
    have b1 := hin 1 0 1000 (by simp [qDrop, bW, gW, fM, lW, ap3, pb3, pb4, ints, mayV, i64s, i64b, kW, two, b2, lmap, setW, fnd, nW, oEr, wV, oAddW, bAddW, oDropW, bF, zW, oEg, rowW, oGrtW, lW2, gW2, bW2, fM2, lapp])
    simp only [Int.reduceLE, reduceIte, Int.reduceNeg] at b1
  all_goals
    have b4 := hin 4 (-9223372036854775808) 9223372036854775807 (by simp [qDrop, bW, gW, fM, lW, ap3, pb3, pb4, ints, mayV, i64s, i64b, kW, two, b2, lmap, setW, fnd, nW, oEr, wV, oAddW, bAddW, oDropW, bF, zW, oEg, rowW, oGrtW, lW2, gW2, bW2, fM2, lapp])
    simp only [Int.reduceLE, reduceIte, Int.reduceNeg] at b4
  all_goals
    simp only [FT, TP, SB.tp, SI.tv, sta, IB.eval, and_true, true_and, ObsT, Ob.Tv, rowT, kix, In.tiv, ↓tbvT, In.tbv, get_cons, get_nil, reduceIte, Nat.reduceEqDiff, Int.reduceToNat, Int.reduceAdd, Int.reduceSub, Int.reduceLE, Int.reduceLT, Int.reduceEq, ne_eq, Bool.false_eq_true, not_true_eq_false, not_false_eq_true, true_iff, false_iff, iff_true, iff_false, false_implies, implies_true, decT, decide_true, decide_false, Bool.decide_eq_true, ap2, pb2, FI_3, FI_8, FI_9, FI_10, FI_11, FI_12, FI_13, FB_10, FB_11, FB_12, FB_13, FB_14, FB_15, FB_16, FI_30, FI_31, FI_32, FI_33, FB_30, FB_31, FB_32, FB_33, FI_3g, FI_8m, Int.toNat_natCast, Int.toNat_zero, qDrop_inv, qDrop_mu, qDrop, o1, othT, bW, gW, fM, lW, ap3, pb3, pb4, ints, mayV, i64s, i64b, kW, two, b2, lmap, setW, fnd, nW, oEr, wV, oAddW, bAddW, oDropW, bF, zW, oEg, rowW, oGrtW, lW2, gW2, bW2, fM2, lapp, a0, a1, a2, a3, a4] at hf hi ⊢
  all_goals
    (repeat' (with_reducible apply And.intro)) <;> first
    | omega
    | assumption
    | (unfold inM; omega)
    | (first | exact hf.1.1 | exact hf.2.1.1 | exact hf.2.2.1.1 | exact hf.2.2.2.1.1 | exact hf.2.2.2.2.1.1 | exact hf.2.2.2.2.2.1.1 | exact hf.2.2.2.2.2.2.1.1 | exact hf.2.2.2.2.2.2.2.1.1 | exact hi.1.1)
    | (clear hin hF ha; grind)
    | (intro j hj; refine ⟨?_, ?_, ?_, ?_, ?_⟩ <;> (rw [fl_delW (by omega) (by decide)]; (try simp only [fl_blit, fl_set]); (repeat' split) <;> first | rfl | (exfalso; omega) | (congr 1; omega) | decide))
set_option maxRecDepth 100000 in
theorem qDrop_c : LsC ((tm0 qDrop Try.f78 (Try.f78.body.getD .skip)) :: []) qDrop.os [qDrop_L0] := by
  unfold qDrop_L0
  exact ⟨List.forall_mem_cons.2 ⟨⟨⟨_, rfl, rfl⟩, by kernel_rfl⟩, List.forall_mem_cons.2 ⟨⟨⟨_, rfl, rfl⟩, by kernel_rfl⟩, List.forall_mem_cons.2 ⟨⟨⟨_, rfl, rfl⟩, by kernel_rfl⟩, List.forall_mem_cons.2 ⟨⟨⟨_, rfl, rfl⟩, by kernel_rfl⟩, List.forall_mem_nil _⟩⟩⟩⟩, trivial⟩
theorem qDrop_ok : qDrop.Ok Try.prog FI FB :=
  Con.of_plain (body := Try.f78.body.getD .skip) pok fiok (EntsFor.cons qRight_ok (EntsFor.cons qMay_ok (EntsFor.cons qFind_ok (EntsFor.cons rFits_ok EntsFor.nil)))) qDrop Try.func78 (by kernel_rfl) 5 [] (by kernel_rfl) [qDrop_L0] ⟨qDrop_h0, trivial⟩ qDrop_c
    qDrop_inv qDrop_mu (fun _ _ _ => trivial) fun kv iv0 bv0 hin hF k l iv bv hk ha hi => match k, hk, hi with
    | 0, hk, hi => by
      cases hk
      exact qDrop_o0 kv iv0 bv0 hin hF iv bv ha hi
    | k + 1, hk, _ => by simp at hk
noncomputable def qSame_T1 : Tm := ⟨⟨71, 26, [(5, (.it .i64 (.v 28))), (0, (.sl (.k 0) (.v 2) (.v 1) (.v 3))), (1, (.sl (.k 1) (.v 6) (.v 5) (.v 7)))], [(.code (atC Try.f71 [1, 1, 0, 1, 0, 0])), (.inLoop (atC Try.f71 [1, 1, 0, 1, 0, 0])), (.inBlock 0), (.code (atC Try.f71 [1, 1, 1]))], [], .none⟩, [],
    ⟨[], 0, 0, 0, [((.eq (.v 1) (.v 5)), .true), ((.le (.v 1) (.v 3)), .true), ((.le (.c 0) (.v 3)), .true), ((.le (.v 5) (.v 7)), .true), ((.le (.c 0) (.v 7)), .true)], [2, 1, 0], [(1, (0, 1000)), (2, (0, (-1))), (5, (0, 1000)), (6, (0, (-1))), (28, (0, (-1)))]⟩, [28]⟩
noncomputable def qSame_L0 : List Lf :=
  [(.cut [((.eq (.v 1) (.v 5)), .true), ((.le (.v 1) (.v 3)), .true), ((.le (.c 0) (.v 3)), .true), ((.le (.v 5) (.v 7)), .true), ((.le (.c 0) (.v 7)), .true)] 1 ⟨⟨[(28, (.c 0))], []⟩, [], [], []⟩ [] (shT qSame_T1 ⟨⟨[(28, (.c 0))], []⟩, [], [], []⟩)), (.fin [((.eq (.v 1) (.v 5)), .false), ((.le (.v 1) (.v 3)), .true), ((.le (.c 0) (.v 3)), .true), ((.le (.v 5) (.v 7)), .true), ((.le (.c 0) (.v 7)), .true)] 0 ⟨⟨[], []⟩, [], [], []⟩ [(.eb (.ap 31 (.v 0) (.v 1) (.v 4) (.v 5) (.c 0) (.c 0)) (.c .false))] [])]
noncomputable def qSame_L1 : List Lf :=
  [(.cut [((.eq (.ap 3 (.v 0) (.v 28) (.c 4) (.c 0) (.c 0) (.c 0)) (.ap 3 (.v 4) (.v 28) (.c 4) (.c 0) (.c 0) (.c 0))), .true), ((.eq (.ap 3 (.v 0) (.v 28) (.c 3) (.c 0) (.c 0) (.c 0)) (.ap 3 (.v 4) (.v 28) (.c 3) (.c 0) (.c 0) (.c 0))), .true), ((.eq (.ap 3 (.v 0) (.v 28) (.c 2) (.c 0) (.c 0) (.c 0)) (.ap 3 (.v 4) (.v 28) (.c 2) (.c 0) (.c 0) (.c 0))), .true), ((.eq (.ap 3 (.v 0) (.v 28) (.c 1) (.c 0) (.c 0) (.c 0)) (.ap 3 (.v 4) (.v 28) (.c 1) (.c 0) (.c 0) (.c 0))), .true), ((.eq (.ap 3 (.v 0) (.v 28) (.c 0) (.c 0) (.c 0) (.c 0)) (.ap 3 (.v 4) (.v 28) (.c 0) (.c 0) (.c 0) (.c 0))), .true), ((.lt (.v 28) (.v 1)), .true), ((.eq (.v 1) (.v 5)), .true), ((.le (.v 1) (.v 3)), .true), ((.le (.c 0) (.v 3)), .true), ((.le (.v 5) (.v 7)), .true), ((.le (.c 0) (.v 7)), .true)] 1 ⟨⟨[(28, (.op .add (.v 28) (.c 1)))], []⟩, [], [], []⟩ [] (shT qSame_T1 ⟨⟨[(28, (.op .add (.v 28) (.c 1)))], []⟩, [], [], []⟩)), (.fin [((.eq (.ap 3 (.v 0) (.v 28) (.c 4) (.c 0) (.c 0) (.c 0)) (.ap 3 (.v 4) (.v 28) (.c 4) (.c 0) (.c 0) (.c 0))), .false), ((.eq (.ap 3 (.v 0) (.v 28) (.c 3) (.c 0) (.c 0) (.c 0)) (.ap 3 (.v 4) (.v 28) (.c 3) (.c 0) (.c 0) (.c 0))), .true), ((.eq (.ap 3 (.v 0) (.v 28) (.c 2) (.c 0) (.c 0) (.c 0)) (.ap 3 (.v 4) (.v 28) (.c 2) (.c 0) (.c 0) (.c 0))), .true), ((.eq (.ap 3 (.v 0) (.v 28) (.c 1) (.c 0) (.c 0) (.c 0)) (.ap 3 (.v 4) (.v 28) (.c 1) (.c 0) (.c 0) (.c 0))), .true), ((.eq (.ap 3 (.v 0) (.v 28) (.c 0) (.c 0) (.c 0) (.c 0)) (.ap 3 (.v 4) (.v 28) (.c 0) (.c 0) (.c 0) (.c 0))), .true), ((.lt (.v 28) (.v 1)), .true), ((.eq (.v 1) (.v 5)), .true), ((.le (.v 1) (.v 3)), .true), ((.le (.c 0) (.v 3)), .true), ((.le (.v 5) (.v 7)), .true), ((.le (.c 0) (.v 7)), .true)] 0 ⟨⟨[], []⟩, [], [], []⟩ [(.eb (.ap 31 (.v 0) (.v 1) (.v 4) (.v 5) (.c 0) (.c 0)) (.c .false))] []), (.fin [((.eq (.ap 3 (.v 0) (.v 28) (.c 3) (.c 0) (.c 0) (.c 0)) (.ap 3 (.v 4) (.v 28) (.c 3) (.c 0) (.c 0) (.c 0))), .false), ((.eq (.ap 3 (.v 0) (.v 28) (.c 2) (.c 0) (.c 0) (.c 0)) (.ap 3 (.v 4) (.v 28) (.c 2) (.c 0) (.c 0) (.c 0))), .true), ((.eq (.ap 3 (.v 0) (.v 28) (.c 1) (.c 0) (.c 0) (.c 0)) (.ap 3 (.v 4) (.v 28) (.c 1) (.c 0) (.c 0) (.c 0))), .true), ((.eq (.ap 3 (.v 0) (.v 28) (.c 0) (.c 0) (.c 0) (.c 0)) (.ap 3 (.v 4) (.v 28) (.c 0) (.c 0) (.c 0) (.c 0))), .true), ((.lt (.v 28) (.v 1)), .true), ((.eq (.v 1) (.v 5)), .true), ((.le (.v 1) (.v 3)), .true), ((.le (.c 0) (.v 3)), .true), ((.le (.v 5) (.v 7)), .true), ((.le (.c 0) (.v 7)), .true)] 0 ⟨⟨[], []⟩, [], [], []⟩ [(.eb (.ap 31 (.v 0) (.v 1) (.v 4) (.v 5) (.c 0) (.c 0)) (.c .false))] []), (.fin [((.eq (.ap 3 (.v 0) (.v 28) (.c 2) (.c 0) (.c 0) (.c 0)) (.ap 3 (.v 4) (.v 28) (.c 2) (.c 0) (.c 0) (.c 0))), .false), ((.eq (.ap 3 (.v 0) (.v 28) (.c 1) (.c 0) (.c 0) (.c 0)) (.ap 3 (.v 4) (.v 28) (.c 1) (.c 0) (.c 0) (.c 0))), .true), ((.eq (.ap 3 (.v 0) (.v 28) (.c 0) (.c 0) (.c 0) (.c 0)) (.ap 3 (.v 4) (.v 28) (.c 0) (.c 0) (.c 0) (.c 0))), .true), ((.lt (.v 28) (.v 1)), .true), ((.eq (.v 1) (.v 5)), .true), ((.le (.v 1) (.v 3)), .true), ((.le (.c 0) (.v 3)), .true), ((.le (.v 5) (.v 7)), .true), ((.le (.c 0) (.v 7)), .true)] 0 ⟨⟨[], []⟩, [], [], []⟩ [(.eb (.ap 31 (.v 0) (.v 1) (.v 4) (.v 5) (.c 0) (.c 0)) (.c .false))] []), (.fin [((.eq (.ap 3 (.v 0) (.v 28) (.c 1) (.c 0) (.c 0) (.c 0)) (.ap 3 (.v 4) (.v 28) (.c 1) (.c 0) (.c 0) (.c 0))), .false), ((.eq (.ap 3 (.v 0) (.v 28) (.c 0) (.c 0) (.c 0) (.c 0)) (.ap 3 (.v 4) (.v 28) (.c 0) (.c 0) (.c 0) (.c 0))), .true), ((.lt (.v 28) (.v 1)), .true), ((.eq (.v 1) (.v 5)), .true), ((.le (.v 1) (.v 3)), .true), ((.le (.c 0) (.v 3)), .true), ((.le (.v 5) (.v 7)), .true), ((.le (.c 0) (.v 7)), .true)] 0 ⟨⟨[], []⟩, [], [], []⟩ [(.eb (.ap 31 (.v 0) (.v 1) (.v 4) (.v 5) (.c 0) (.c 0)) (.c .false))] []), (.fin [((.eq (.ap 3 (.v 0) (.v 28) (.c 0) (.c 0) (.c 0) (.c 0)) (.ap 3 (.v 4) (.v 28) (.c 0) (.c 0) (.c 0) (.c 0))), .false), ((.lt (.v 28) (.v 1)), .true), ((.eq (.v 1) (.v 5)), .true), ((.le (.v 1) (.v 3)), .true), ((.le (.c 0) (.v 3)), .true), ((.le (.v 5) (.v 7)), .true), ((.le (.c 0) (.v 7)), .true)] 0 ⟨⟨[], []⟩, [], [], []⟩ [(.eb (.ap 31 (.v 0) (.v 1) (.v 4) (.v 5) (.c 0) (.c 0)) (.c .false))] []), (.fin [((.lt (.v 28) (.v 1)), .false), ((.eq (.v 1) (.v 5)), .true), ((.le (.v 1) (.v 3)), .true), ((.le (.c 0) (.v 3)), .true), ((.le (.v 5) (.v 7)), .true), ((.le (.c 0) (.v 7)), .true)] 0 ⟨⟨[], []⟩, [], [], []⟩ [(.eb (.ap 31 (.v 0) (.v 1) (.v 4) (.v 5) (.c 0) (.c 0)) (.c .true))] [])]
set_option maxRecDepth 100000 in
theorem qSame_h0 : (ex (ccOf Try.prog BF [58, 84] qSame) ((fun _ => []) (ccOf Try.prog BF [58, 84] qSame)) (dw (ccOf Try.prog BF [58, 84] qSame) ((fun _ => []) (ccOf Try.prog BF [58, 84] qSame)) 1000 4) (stopX []) 4000 (tm0 qSame Try.f71 (Try.f71.body.getD .skip)).f (tm0 qSame Try.f71 (Try.f71.body.getD .skip)).fs (tm0 qSame Try.f71 (Try.f71.body.getD .skip)).H).lfs (ccOf Try.prog BF [58, 84] qSame) ((tm0 qSame Try.f71 (Try.f71.body.getD .skip)) :: [qSame_T1]) qSame.os = some qSame_L0 := by kernel_rfl
set_option maxRecDepth 100000 in
theorem qSame_h1 : (ex (ccOf Try.prog BF [58, 84] qSame) ((fun _ => []) (ccOf Try.prog BF [58, 84] qSame)) (dw (ccOf Try.prog BF [58, 84] qSame) ((fun _ => []) (ccOf Try.prog BF [58, 84] qSame)) 1000 4) (stopX []) 4000 qSame_T1.f qSame_T1.fs qSame_T1.H).lfs (ccOf Try.prog BF [58, 84] qSame) ((tm0 qSame Try.f71 (Try.f71.body.getD .skip)) :: [qSame_T1]) qSame.os = some qSame_L1 := by kernel_rfl
def qSame_inv : (Nat → Int) → (Nat → Bool) → Nat → (Nat → Int) → (Nat → Bool) → Prop := fun iv0 _ k iv _ => match k with
  | 0 => True
  | _ => iv0 1 = iv0 5 ∧ 0 ≤ iv 28 ∧ iv 28 ≤ iv0 1 ∧ ∀ j : Nat, (j : Int) < iv 28 → fl (iv0 0) j 0 = fl (iv0 4) j 0 ∧ fl (iv0 0) j 1 = fl (iv0 4) j 1 ∧ fl (iv0 0) j 2 = fl (iv0 4) j 2 ∧ fl (iv0 0) j 3 = fl (iv0 4) j 3 ∧ fl (iv0 0) j 4 = fl (iv0 4) j 4
def qSame_mu : (Nat → Int) → (Nat → Bool) → Nat → (Nat → Int) → (Nat → Bool) → Nat := fun iv0 _ k iv _ => match k with | 0 => 2 ^ 80 | _ => (iv0 1 - iv 28).toNat
set_option maxHeartbeats 0 in
theorem qSame_o0 (kv : Kv) (iv0 : Nat → Int) (bv0 : Nat → Bool) (hin : InB qSame.B iv0) (hF : FT (sta FI FB kv iv0 bv0) (dlt dyn0) qSame.F) (iv : Nat → Int) (bv : Nat → Bool) (ha : Agr 8 iv0 bv0 iv bv) (hi : qSame_inv iv0 bv0 0 iv bv) :
    ∀ lf ∈ qSame_L0, LfT (sta FI FB kv) qSame.os (qSame_inv iv0 bv0) (qSame_mu iv0 bv0) 0 iv bv lf := by
  unfold qSame_L0
  refine List.forall_mem_cons.2 ⟨?_, List.forall_mem_cons.2 ⟨?_, List.forall_mem_nil _⟩⟩
  all_goals
    intro δ hf
  all_goals
    simp only [FT, TP, SB.tp, SI.tv, sta, IB.eval, and_true, true_and, ObsT, Ob.Tv, rowT, kix, In.tiv, ↓tbvT, In.tbv, get_cons, get_nil, reduceIte, Nat.reduceEqDiff, Int.reduceToNat, Int.reduceAdd, Int.reduceSub, Int.reduceLE, Int.reduceLT, Int.reduceEq, ne_eq, Bool.false_eq_true, not_true_eq_false, not_false_eq_true, true_iff, false_iff, iff_true, iff_false, false_implies, implies_true, decT, decide_true, decide_false, Bool.decide_eq_true, ap2, pb2, FI_3, FI_8, FI_9, FI_10, FI_11, FI_12, FI_13, FB_10, FB_11, FB_12, FB_13, FB_14, FB_15, FB_16, FI_30, FI_31, FI_32, FI_33, FB_30, FB_31, FB_32, FB_33, FI_3g, FI_8m, Int.toNat_natCast, Int.toNat_zero] at hf
  all_goals
    have a0 := ha.1 0 (by omega)
    have a1 := ha.1 1 (by omega)
    have a2 := ha.1 2 (by omega)
    have a3 := ha.1 3 (by omega)
    have a4 := ha.1 4 (by omega)
    have a5 := ha.1 5 (by omega)
    have a6 := ha.1 6 (by omega)
    have a7 := ha.1 7 (by omega)
  all_goals
    have b1 := hin 1 0 1000 (by simp [qSame, bW, gW, fM, lW, ap3, pb3, pb4, ints, mayV, i64s, i64b, kW, two, b2, lmap, setW, fnd, nW, oEr, wV, oAddW, bAddW, oDropW, bF, zW, oEg, rowW, oGrtW, lW2, gW2, bW2, fM2, lapp])
    simp only [Int.reduceLE, reduceIte, Int.reduceNeg] at b1
  all_goals
    have b5 := hin 5 0 1000 (by simp [qSame, bW, gW, fM, lW, ap3, pb3, pb4, ints, mayV, i64s, i64b, kW, two, b2, lmap, setW, fnd, nW, oEr, wV, oAddW, bAddW, oDropW, bF, zW, oEg, rowW, oGrtW, lW2, gW2, bW2, fM2, lapp])
    simp only [Int.reduceLE, reduceIte, Int.reduceNeg] at b5
  all_goals
    simp only [FT, TP, SB.tp, SI.tv, sta, IB.eval, and_true, true_and, ObsT, Ob.Tv, rowT, kix, In.tiv, ↓tbvT, In.tbv, get_cons, get_nil, reduceIte, Nat.reduceEqDiff, Int.reduceToNat, Int.reduceAdd, Int.reduceSub, Int.reduceLE, Int.reduceLT, Int.reduceEq, ne_eq, Bool.false_eq_true, not_true_eq_false, not_false_eq_true, true_iff, false_iff, iff_true, iff_false, false_implies, implies_true, decT, decide_true, decide_false, Bool.decide_eq_true, ap2, pb2, FI_3, FI_8, FI_9, FI_10, FI_11, FI_12, FI_13, FB_10, FB_11, FB_12, FB_13, FB_14, FB_15, FB_16, FI_30, FI_31, FI_32, FI_33, FB_30, FB_31, FB_32, FB_33, FI_3g, FI_8m, Int.toNat_natCast, Int.toNat_zero, qSame_inv, qSame_mu, qSame, o1, othT, bW, gW, fM, lW, ap3, pb3, pb4, ints, mayV, i64s, i64b, kW, two, b2, lmap, setW, fnd, nW, oEr, wV, oAddW, bAddW, oDropW, bF, zW, oEg, rowW, oGrtW, lW2, gW2, bW2, fM2, lapp, a0, a1, a2, a3, a4, a5, a6, a7] at hf hi ⊢
  all_goals
    (repeat' (with_reducible apply And.intro)) <;> first
    | omega
    | assumption
    | (unfold inM; omega)
    | exact fun j hj => by omega
    | (exact fun h => hf.1 h.1)
set_option maxHeartbeats 0 in
theorem qSame_o1 (kv : Kv) (iv0 : Nat → Int) (bv0 : Nat → Bool) (hin : InB qSame.B iv0) (hF : FT (sta FI FB kv iv0 bv0) (dlt dyn0) qSame.F) (iv : Nat → Int) (bv : Nat → Bool) (ha : Agr 8 iv0 bv0 iv bv) (hi : qSame_inv iv0 bv0 1 iv bv) :
    ∀ lf ∈ qSame_L1, LfT (sta FI FB kv) qSame.os (qSame_inv iv0 bv0) (qSame_mu iv0 bv0) 1 iv bv lf := by
  unfold qSame_L1
  refine List.forall_mem_cons.2 ⟨?_, List.forall_mem_cons.2 ⟨?_, List.forall_mem_cons.2 ⟨?_, List.forall_mem_cons.2 ⟨?_, List.forall_mem_cons.2 ⟨?_, List.forall_mem_cons.2 ⟨?_, List.forall_mem_cons.2 ⟨?_, List.forall_mem_nil _⟩⟩⟩⟩⟩⟩⟩
  all_goals
    intro δ hf
  all_goals
    simp only [FT, TP, SB.tp, SI.tv, sta, IB.eval, and_true, true_and, ObsT, Ob.Tv, rowT, kix, In.tiv, ↓tbvT, In.tbv, get_cons, get_nil, reduceIte, Nat.reduceEqDiff, Int.reduceToNat, Int.reduceAdd, Int.reduceSub, Int.reduceLE, Int.reduceLT, Int.reduceEq, ne_eq, Bool.false_eq_true, not_true_eq_false, not_false_eq_true, true_iff, false_iff, iff_true, iff_false, false_implies, implies_true, decT, decide_true, decide_false, Bool.decide_eq_true, ap2, pb2, FI_3, FI_8, FI_9, FI_10, FI_11, FI_12, FI_13, FB_10, FB_11, FB_12, FB_13, FB_14, FB_15, FB_16, FI_30, FI_31, FI_32, FI_33, FB_30, FB_31, FB_32, FB_33, FI_3g, FI_8m, Int.toNat_natCast, Int.toNat_zero] at hf
  all_goals
    have a0 := ha.1 0 (by omega)
    have a1 := ha.1 1 (by omega)
    have a2 := ha.1 2 (by omega)
    have a3 := ha.1 3 (by omega)
    have a4 := ha.1 4 (by omega)
    have a5 := ha.1 5 (by omega)
    have a6 := ha.1 6 (by omega)
    have a7 := ha.1 7 (by omega)
  all_goals
    have b1 := hin 1 0 1000 (by simp [qSame, bW, gW, fM, lW, ap3, pb3, pb4, ints, mayV, i64s, i64b, kW, two, b2, lmap, setW, fnd, nW, oEr, wV, oAddW, bAddW, oDropW, bF, zW, oEg, rowW, oGrtW, lW2, gW2, bW2, fM2, lapp])
    simp only [Int.reduceLE, reduceIte, Int.reduceNeg] at b1
  all_goals
    have b5 := hin 5 0 1000 (by simp [qSame, bW, gW, fM, lW, ap3, pb3, pb4, ints, mayV, i64s, i64b, kW, two, b2, lmap, setW, fnd, nW, oEr, wV, oAddW, bAddW, oDropW, bF, zW, oEg, rowW, oGrtW, lW2, gW2, bW2, fM2, lapp])
    simp only [Int.reduceLE, reduceIte, Int.reduceNeg] at b5
  all_goals
    simp only [FT, TP, SB.tp, SI.tv, sta, IB.eval, and_true, true_and, ObsT, Ob.Tv, rowT, kix, In.tiv, ↓tbvT, In.tbv, get_cons, get_nil, reduceIte, Nat.reduceEqDiff, Int.reduceToNat, Int.reduceAdd, Int.reduceSub, Int.reduceLE, Int.reduceLT, Int.reduceEq, ne_eq, Bool.false_eq_true, not_true_eq_false, not_false_eq_true, true_iff, false_iff, iff_true, iff_false, false_implies, implies_true, decT, decide_true, decide_false, Bool.decide_eq_true, ap2, pb2, FI_3, FI_8, FI_9, FI_10, FI_11, FI_12, FI_13, FB_10, FB_11, FB_12, FB_13, FB_14, FB_15, FB_16, FI_30, FI_31, FI_32, FI_33, FB_30, FB_31, FB_32, FB_33, FI_3g, FI_8m, Int.toNat_natCast, Int.toNat_zero, qSame_inv, qSame_mu, qSame, o1, othT, bW, gW, fM, lW, ap3, pb3, pb4, ints, mayV, i64s, i64b, kW, two, b2, lmap, setW, fnd, nW, oEr, wV, oAddW, bAddW, oDropW, bF, zW, oEg, rowW, oGrtW, lW2, gW2, bW2, fM2, lapp, a0, a1, a2, a3, a4, a5, a6, a7] at hf hi ⊢
  all_goals
    (repeat' (with_reducible apply And.intro)) <;> first
    | omega
    | assumption
    | (unfold inM; omega)
    | exact all_succ hi.2.1 hi.2.2.2 ⟨hf.2.2.2.2.1, hf.2.2.2.1, hf.2.2.1, hf.2.1, hf.1⟩
    | (exact ⟨hi.1, fun j hj => hi.2.2.2 j (by omega)⟩)
    | (exact fun h => hf.1 (h.2 (iv 28).toNat (by omega)).1)
    | (exact fun h => hf.1 (h.2 (iv 28).toNat (by omega)).2.1)
    | (exact fun h => hf.1 (h.2 (iv 28).toNat (by omega)).2.2.1)
    | (exact fun h => hf.1 (h.2 (iv 28).toNat (by omega)).2.2.2.1)
    | (exact fun h => hf.1 (h.2 (iv 28).toNat (by omega)).2.2.2.2)
set_option maxRecDepth 100000 in
theorem qSame_c : LsC ((tm0 qSame Try.f71 (Try.f71.body.getD .skip)) :: [qSame_T1]) qSame.os [qSame_L0, qSame_L1] := by
  unfold qSame_L0 qSame_L1
  exact ⟨List.forall_mem_cons.2 ⟨⟨⟨_, rfl, rfl⟩, by kernel_rfl⟩, List.forall_mem_cons.2 ⟨⟨⟨_, rfl, rfl⟩, by kernel_rfl⟩, List.forall_mem_nil _⟩⟩, List.forall_mem_cons.2 ⟨⟨⟨_, rfl, rfl⟩, by kernel_rfl⟩, List.forall_mem_cons.2 ⟨⟨⟨_, rfl, rfl⟩, by kernel_rfl⟩, List.forall_mem_cons.2 ⟨⟨⟨_, rfl, rfl⟩, by kernel_rfl⟩, List.forall_mem_cons.2 ⟨⟨⟨_, rfl, rfl⟩, by kernel_rfl⟩, List.forall_mem_cons.2 ⟨⟨⟨_, rfl, rfl⟩, by kernel_rfl⟩, List.forall_mem_cons.2 ⟨⟨⟨_, rfl, rfl⟩, by kernel_rfl⟩, List.forall_mem_cons.2 ⟨⟨⟨_, rfl, rfl⟩, by kernel_rfl⟩, List.forall_mem_nil _⟩⟩⟩⟩⟩⟩⟩, trivial⟩
theorem qSame_ok : qSame.Ok Try.prog FI FB :=
  Con.of_plain (body := Try.f71.body.getD .skip) pok fiok EntsFor.nil qSame Try.func71 (by kernel_rfl) 8 [qSame_T1] (by kernel_rfl) [qSame_L0, qSame_L1] ⟨qSame_h0, qSame_h1, trivial⟩ qSame_c
    qSame_inv qSame_mu (fun _ _ _ => trivial) fun kv iv0 bv0 hin hF k l iv bv hk ha hi => match k, hk, hi with
    | 0, hk, hi => by
      cases hk
      exact qSame_o0 kv iv0 bv0 hin hF iv bv ha hi
    | 1, hk, hi => by
      cases hk
      exact qSame_o1 kv iv0 bv0 hin hF iv bv ha hi
    | k + 2, hk, _ => by simp at hk
noncomputable def qSame0_T1 : Tm := ⟨⟨71, 26, [(5, (.it .i64 (.c 0))), (0, .sn), (1, (.sl (.k 0) (.v 2) (.v 1) (.v 3)))], [(.code (atC Try.f71 [1, 1, 0, 1, 0, 0])), (.inLoop (atC Try.f71 [1, 1, 0, 1, 0, 0])), (.inBlock 0), (.code (atC Try.f71 [1, 1, 1]))], [], .none⟩, [],
    ⟨[], 0, 0, 0, [((.eq (.c 0) (.v 1)), .true), ((.le (.v 1) (.v 3)), .true), ((.le (.c 0) (.v 3)), .true)], [1, 0], [(1, (0, 0)), (1, (0, 1000)), (2, (0, (-1)))]⟩, []⟩
noncomputable def qSame0_L0 : List Lf :=
  [(.cut [((.eq (.c 0) (.v 1)), .true), ((.le (.v 1) (.v 3)), .true), ((.le (.c 0) (.v 3)), .true)] 1 ⟨⟨[], []⟩, [], [], []⟩ [] (shT qSame0_T1 ⟨⟨[], []⟩, [], [], []⟩)), (.fin [((.eq (.c 0) (.v 1)), .false), ((.le (.v 1) (.v 3)), .true), ((.le (.c 0) (.v 3)), .true)] 0 ⟨⟨[], []⟩, [], [], []⟩ [(.eb (.eq (.v 1) (.c 0)) (.c .false))] [])]
noncomputable def qSame0_L1 : List Lf :=
  [(.fin [((.eq (.c 0) (.v 1)), .true), ((.le (.v 1) (.v 3)), .true), ((.le (.c 0) (.v 3)), .true)] 0 ⟨⟨[], []⟩, [], [], []⟩ [(.eb (.eq (.v 1) (.c 0)) (.c .true))] [])]
set_option maxRecDepth 100000 in
theorem qSame0_h0 : (ex (ccOf Try.prog BF [58, 84] qSame0) ((fun _ => []) (ccOf Try.prog BF [58, 84] qSame0)) (dw (ccOf Try.prog BF [58, 84] qSame0) ((fun _ => []) (ccOf Try.prog BF [58, 84] qSame0)) 1000 4) (stopX []) 4000 (tm0 qSame0 Try.f71 (Try.f71.body.getD .skip)).f (tm0 qSame0 Try.f71 (Try.f71.body.getD .skip)).fs (tm0 qSame0 Try.f71 (Try.f71.body.getD .skip)).H).lfs (ccOf Try.prog BF [58, 84] qSame0) ((tm0 qSame0 Try.f71 (Try.f71.body.getD .skip)) :: [qSame0_T1]) qSame0.os = some qSame0_L0 := by kernel_rfl
set_option maxRecDepth 100000 in
theorem qSame0_h1 : (ex (ccOf Try.prog BF [58, 84] qSame0) ((fun _ => []) (ccOf Try.prog BF [58, 84] qSame0)) (dw (ccOf Try.prog BF [58, 84] qSame0) ((fun _ => []) (ccOf Try.prog BF [58, 84] qSame0)) 1000 4) (stopX []) 4000 qSame0_T1.f qSame0_T1.fs qSame0_T1.H).lfs (ccOf Try.prog BF [58, 84] qSame0) ((tm0 qSame0 Try.f71 (Try.f71.body.getD .skip)) :: [qSame0_T1]) qSame0.os = some qSame0_L1 := by kernel_rfl
def qSame0_inv : (Nat → Int) → (Nat → Bool) → Nat → (Nat → Int) → (Nat → Bool) → Prop := fun iv0 _ k _ _ => match k with | 0 => True | _ => iv0 1 = 0
def qSame0_mu : (Nat → Int) → (Nat → Bool) → Nat → (Nat → Int) → (Nat → Bool) → Nat := fun _ _ k _ _ => match k with | 0 => 1 | _ => 0
set_option maxHeartbeats 0 in
theorem qSame0_o0 (kv : Kv) (iv0 : Nat → Int) (bv0 : Nat → Bool) (hin : InB qSame0.B iv0) (hF : FT (sta FI FB kv iv0 bv0) (dlt dyn0) qSame0.F) (iv : Nat → Int) (bv : Nat → Bool) (ha : Agr 4 iv0 bv0 iv bv) (hi : qSame0_inv iv0 bv0 0 iv bv) :
    ∀ lf ∈ qSame0_L0, LfT (sta FI FB kv) qSame0.os (qSame0_inv iv0 bv0) (qSame0_mu iv0 bv0) 0 iv bv lf := by
  unfold qSame0_L0
  refine List.forall_mem_cons.2 ⟨?_, List.forall_mem_cons.2 ⟨?_, List.forall_mem_nil _⟩⟩
  all_goals
    intro δ hf
  all_goals
    simp only [FT, TP, SB.tp, SI.tv, sta, IB.eval, and_true, true_and, ObsT, Ob.Tv, rowT, kix, In.tiv, ↓tbvT, In.tbv, get_cons, get_nil, reduceIte, Nat.reduceEqDiff, Int.reduceToNat, Int.reduceAdd, Int.reduceSub, Int.reduceLE, Int.reduceLT, Int.reduceEq, ne_eq, Bool.false_eq_true, not_true_eq_false, not_false_eq_true, true_iff, false_iff, iff_true, iff_false, false_implies, implies_true, decT, decide_true, decide_false, Bool.decide_eq_true, ap2, pb2, FI_3, FI_8, FI_9, FI_10, FI_11, FI_12, FI_13, FB_10, FB_11, FB_12, FB_13, FB_14, FB_15, FB_16, FI_30, FI_31, FI_32, FI_33, FB_30, FB_31, FB_32, FB_33, FI_3g, FI_8m, Int.toNat_natCast, Int.toNat_zero] at hf
  all_goals
    have a0 := ha.1 0 (by omega)
    have a1 := ha.1 1 (by omega)
    have a2 := ha.1 2 (by omega)
    have a3 := ha.1 3 (by omega)
  all_goals
    have b1 := hin 1 0 1000 (by simp [qSame0, bW, gW, fM, lW, ap3, pb3, pb4, ints, mayV, i64s, i64b, kW, two, b2, lmap, setW, fnd, nW, oEr, wV, oAddW, bAddW, oDropW, bF, zW, oEg, rowW, oGrtW, lW2, gW2, bW2, fM2, lapp])
    simp only [Int.reduceLE, reduceIte, Int.reduceNeg] at b1
  all_goals
    simp only [FT, TP, SB.tp, SI.tv, sta, IB.eval, and_true, true_and, ObsT, Ob.Tv, rowT, kix, In.tiv, ↓tbvT, In.tbv, get_cons, get_nil, reduceIte, Nat.reduceEqDiff, Int.reduceToNat, Int.reduceAdd, Int.reduceSub, Int.reduceLE, Int.reduceLT, Int.reduceEq, ne_eq, Bool.false_eq_true, not_true_eq_false, not_false_eq_true, true_iff, false_iff, iff_true, iff_false, false_implies, implies_true, decT, decide_true, decide_false, Bool.decide_eq_true, ap2, pb2, FI_3, FI_8, FI_9, FI_10, FI_11, FI_12, FI_13, FB_10, FB_11, FB_12, FB_13, FB_14, FB_15, FB_16, FI_30, FI_31, FI_32, FI_33, FB_30, FB_31, FB_32, FB_33, FI_3g, FI_8m, Int.toNat_natCast, Int.toNat_zero, qSame0_inv, qSame0_mu, qSame0, o1, othT, bW, gW, fM, lW, ap3, pb3, pb4, ints, mayV, i64s, i64b, kW, two, b2, lmap, setW, fnd, nW, oEr, wV, oAddW, bAddW, oDropW, bF, zW, oEg, rowW, oGrtW, lW2, gW2, bW2, fM2, lapp, a0, a1, a2, a3] at hf hi ⊢
  all_goals
    (repeat' (with_reducible apply And.intro)) <;> first
    | omega
    | assumption
    | (unfold inM; omega)
set_option maxHeartbeats 0 in
theorem qSame0_o1 (kv : Kv) (iv0 : Nat → Int) (bv0 : Nat → Bool) (hin : InB qSame0.B iv0) (hF : FT (sta FI FB kv iv0 bv0) (dlt dyn0) qSame0.F) (iv : Nat → Int) (bv : Nat → Bool) (ha : Agr 4 iv0 bv0 iv bv) (hi : qSame0_inv iv0 bv0 1 iv bv) :
    ∀ lf ∈ qSame0_L1, LfT (sta FI FB kv) qSame0.os (qSame0_inv iv0 bv0) (qSame0_mu iv0 bv0) 1 iv bv lf := by
  unfold qSame0_L1
  refine List.forall_mem_cons.2 ⟨?_, List.forall_mem_nil _⟩
  all_goals
    intro δ hf
  all_goals
    simp only [FT, TP, SB.tp, SI.tv, sta, IB.eval, and_true, true_and, ObsT, Ob.Tv, rowT, kix, In.tiv, ↓tbvT, In.tbv, get_cons, get_nil, reduceIte, Nat.reduceEqDiff, Int.reduceToNat, Int.reduceAdd, Int.reduceSub, Int.reduceLE, Int.reduceLT, Int.reduceEq, ne_eq, Bool.false_eq_true, not_true_eq_false, not_false_eq_true, true_iff, false_iff, iff_true, iff_false, false_implies, implies_true, decT, decide_true, decide_false, Bool.decide_eq_true, ap2, pb2, FI_3, FI_8, FI_9, FI_10, FI_11, FI_12, FI_13, FB_10, FB_11, FB_12, FB_13, FB_14, FB_15, FB_16, FI_30, FI_31, FI_32, FI_33, FB_30, FB_31, FB_32, FB_33, FI_3g, FI_8m, Int.toNat_natCast, Int.toNat_zero] at hf
  all_goals
    have a0 := ha.1 0 (by omega)
    have a1 := ha.1 1 (by omega)
    have a2 := ha.1 2 (by omega)
    have a3 := ha.1 3 (by omega)
  all_goals
    have b1 := hin 1 0 1000 (by simp [qSame0, bW, gW, fM, lW, ap3, pb3, pb4, ints, mayV, i64s, i64b, kW, two, b2, lmap, setW, fnd, nW, oEr, wV, oAddW, bAddW, oDropW, bF, zW, oEg, rowW, oGrtW, lW2, gW2, bW2, fM2, lapp])
    simp only [Int.reduceLE, reduceIte, Int.reduceNeg] at b1
  all_goals
    simp only [FT, TP, SB.tp, SI.tv, sta, IB.eval, and_true, true_and, ObsT, Ob.Tv, rowT, kix, In.tiv, ↓tbvT, In.tbv, get_cons, get_nil, reduceIte, Nat.reduceEqDiff, Int.reduceToNat, Int.reduceAdd, Int.reduceSub, Int.reduceLE, Int.reduceLT, Int.reduceEq, ne_eq, Bool.false_eq_true, not_true_eq_false, not_false_eq_true, true_iff, false_iff, iff_true, iff_false, false_implies, implies_true, decT, decide_true, decide_false, Bool.decide_eq_true, ap2, pb2, FI_3, FI_8, FI_9, FI_10, FI_11, FI_12, FI_13, FB_10, FB_11, FB_12, FB_13, FB_14, FB_15, FB_16, FI_30, FI_31, FI_32, FI_33, FB_30, FB_31, FB_32, FB_33, FI_3g, FI_8m, Int.toNat_natCast, Int.toNat_zero, qSame0_inv, qSame0_mu, qSame0, o1, othT, bW, gW, fM, lW, ap3, pb3, pb4, ints, mayV, i64s, i64b, kW, two, b2, lmap, setW, fnd, nW, oEr, wV, oAddW, bAddW, oDropW, bF, zW, oEg, rowW, oGrtW, lW2, gW2, bW2, fM2, lapp, a0, a1, a2, a3] at hf hi ⊢
  all_goals
    (repeat' (with_reducible apply And.intro)) <;> first
    | omega
    | assumption
    | (unfold inM; omega)
set_option maxRecDepth 100000 in
theorem qSame0_c : LsC ((tm0 qSame0 Try.f71 (Try.f71.body.getD .skip)) :: [qSame0_T1]) qSame0.os [qSame0_L0, qSame0_L1] := by
  unfold qSame0_L0 qSame0_L1
  exact ⟨List.forall_mem_cons.2 ⟨⟨⟨_, rfl, rfl⟩, by kernel_rfl⟩, List.forall_mem_cons.2 ⟨⟨⟨_, rfl, rfl⟩, by kernel_rfl⟩, List.forall_mem_nil _⟩⟩, List.forall_mem_cons.2 ⟨⟨⟨_, rfl, rfl⟩, by kernel_rfl⟩, List.forall_mem_nil _⟩, trivial⟩
theorem qSame0_ok : qSame0.Ok Try.prog FI FB :=
  Con.of_plain (body := Try.f71.body.getD .skip) pok fiok EntsFor.nil qSame0 Try.func71 (by kernel_rfl) 4 [qSame0_T1] (by kernel_rfl) [qSame0_L0, qSame0_L1] ⟨qSame0_h0, qSame0_h1, trivial⟩ qSame0_c
    qSame0_inv qSame0_mu (fun _ _ _ => trivial) fun kv iv0 bv0 hin hF k l iv bv hk ha hi => match k, hk, hi with
    | 0, hk, hi => by
      cases hk
      exact qSame0_o0 kv iv0 bv0 hin hF iv bv ha hi
    | 1, hk, hi => by
      cases hk
      exact qSame0_o1 kv iv0 bv0 hin hF iv bv ha hi
    | k + 2, hk, _ => by simp at hk
noncomputable def qSame1_T1 : Tm := ⟨⟨71, 26, [(5, (.it .i64 (.c 0))), (0, (.sl (.k 0) (.v 2) (.v 1) (.v 3))), (1, .sn)], [(.code (atC Try.f71 [1, 1, 0, 1, 0, 0])), (.inLoop (atC Try.f71 [1, 1, 0, 1, 0, 0])), (.inBlock 0), (.code (atC Try.f71 [1, 1, 1]))], [], .none⟩, [],
    ⟨[], 0, 0, 0, [((.eq (.v 1) (.c 0)), .true), ((.le (.v 1) (.v 3)), .true), ((.le (.c 0) (.v 3)), .true)], [1, 0], [(1, (0, 0)), (1, (0, 1000)), (2, (0, (-1)))]⟩, []⟩
noncomputable def qSame1_L0 : List Lf :=
  [(.cut [((.eq (.v 1) (.c 0)), .true), ((.le (.v 1) (.v 3)), .true), ((.le (.c 0) (.v 3)), .true)] 1 ⟨⟨[], []⟩, [], [], []⟩ [] (shT qSame1_T1 ⟨⟨[], []⟩, [], [], []⟩)), (.fin [((.eq (.v 1) (.c 0)), .false), ((.le (.v 1) (.v 3)), .true), ((.le (.c 0) (.v 3)), .true)] 0 ⟨⟨[], []⟩, [], [], []⟩ [(.eb (.eq (.v 1) (.c 0)) (.c .false))] [])]
noncomputable def qSame1_L1 : List Lf :=
  [(.fin [((.eq (.v 1) (.c 0)), .true), ((.le (.v 1) (.v 3)), .true), ((.le (.c 0) (.v 3)), .true)] 0 ⟨⟨[], []⟩, [], [], []⟩ [(.eb (.eq (.v 1) (.c 0)) (.c .true))] [])]
set_option maxRecDepth 100000 in
theorem qSame1_h0 : (ex (ccOf Try.prog BF [58, 84] qSame1) ((fun _ => []) (ccOf Try.prog BF [58, 84] qSame1)) (dw (ccOf Try.prog BF [58, 84] qSame1) ((fun _ => []) (ccOf Try.prog BF [58, 84] qSame1)) 1000 4) (stopX []) 4000 (tm0 qSame1 Try.f71 (Try.f71.body.getD .skip)).f (tm0 qSame1 Try.f71 (Try.f71.body.getD .skip)).fs (tm0 qSame1 Try.f71 (Try.f71.body.getD .skip)).H).lfs (ccOf Try.prog BF [58, 84] qSame1) ((tm0 qSame1 Try.f71 (Try.f71.body.getD .skip)) :: [qSame1_T1]) qSame1.os = some qSame1_L0 := by kernel_rfl
set_option maxRecDepth 100000 in
theorem qSame1_h1 : (ex (ccOf Try.prog BF [58, 84] qSame1) ((fun _ => []) (ccOf Try.prog BF [58, 84] qSame1)) (dw (ccOf Try.prog BF [58, 84] qSame1) ((fun _ => []) (ccOf Try.prog BF [58, 84] qSame1)) 1000 4) (stopX []) 4000 qSame1_T1.f qSame1_T1.fs qSame1_T1.H).lfs (ccOf Try.prog BF [58, 84] qSame1) ((tm0 qSame1 Try.f71 (Try.f71.body.getD .skip)) :: [qSame1_T1]) qSame1.os = some qSame1_L1 := by kernel_rfl
def qSame1_inv : (Nat → Int) → (Nat → Bool) → Nat → (Nat → Int) → (Nat → Bool) → Prop := fun iv0 _ k _ _ => match k with | 0 => True | _ => iv0 1 = 0
def qSame1_mu : (Nat → Int) → (Nat → Bool) → Nat → (Nat → Int) → (Nat → Bool) → Nat := fun _ _ k _ _ => match k with | 0 => 1 | _ => 0
set_option maxHeartbeats 0 in
theorem qSame1_o0 (kv : Kv) (iv0 : Nat → Int) (bv0 : Nat → Bool) (hin : InB qSame1.B iv0) (hF : FT (sta FI FB kv iv0 bv0) (dlt dyn0) qSame1.F) (iv : Nat → Int) (bv : Nat → Bool) (ha : Agr 4 iv0 bv0 iv bv) (hi : qSame1_inv iv0 bv0 0 iv bv) :
    ∀ lf ∈ qSame1_L0, LfT (sta FI FB kv) qSame1.os (qSame1_inv iv0 bv0) (qSame1_mu iv0 bv0) 0 iv bv lf := by
  unfold qSame1_L0
  refine List.forall_mem_cons.2 ⟨?_, List.forall_mem_cons.2 ⟨?_, List.forall_mem_nil _⟩⟩
  all_goals
    intro δ hf
  all_goals
    simp only [FT, TP, SB.tp, SI.tv, sta, IB.eval, and_true, true_and, ObsT, Ob.Tv, rowT, kix, In.tiv, ↓tbvT, In.tbv, get_cons, get_nil, reduceIte, Nat.reduceEqDiff, Int.reduceToNat, Int.reduceAdd, Int.reduceSub, Int.reduceLE, Int.reduceLT, Int.reduceEq, ne_eq, Bool.false_eq_true, not_true_eq_false, not_false_eq_true, true_iff, false_iff, iff_true, iff_false, false_implies, implies_true, decT, decide_true, decide_false, Bool.decide_eq_true, ap2, pb2, FI_3, FI_8, FI_9, FI_10, FI_11, FI_12, FI_13, FB_10, FB_11, FB_12, FB_13, FB_14, FB_15, FB_16, FI_30, FI_31, FI_32, FI_33, FB_30, FB_31, FB_32, FB_33, FI_3g, FI_8m, Int.toNat_natCast, Int.toNat_zero] at hf
  all_goals
    have a0 := ha.1 0 (by omega)
    have a1 := ha.1 1 (by omega)
    have a2 := ha.1 2 (by omega)
    have a3 := ha.1 3 (by omega)
  all_goals
    have b1 := hin 1 0 1000 (by simp [qSame1, bW, gW, fM, lW, ap3, pb3, pb4, ints, mayV, i64s, i64b, kW, two, b2, lmap, setW, fnd, nW, oEr, wV, oAddW, bAddW, oDropW, bF, zW, oEg, rowW, oGrtW, lW2, gW2, bW2, fM2, lapp])
    simp only [Int.reduceLE, reduceIte, Int.reduceNeg] at b1
  all_goals
    simp only [FT, TP, SB.tp, SI.tv, sta, IB.eval, and_true, true_and, ObsT, Ob.Tv, rowT, kix, In.tiv, ↓tbvT, In.tbv, get_cons, get_nil, reduceIte, Nat.reduceEqDiff, Int.reduceToNat, Int.reduceAdd, Int.reduceSub, Int.reduceLE, Int.reduceLT, Int.reduceEq, ne_eq, Bool.false_eq_true, not_true_eq_false, not_false_eq_true, true_iff, false_iff, iff_true, iff_false, false_implies, implies_true, decT, decide_true, decide_false, Bool.decide_eq_true, ap2, pb2, FI_3, FI_8, FI_9, FI_10, FI_11, FI_12, FI_13, FB_10, FB_11, FB_12, FB_13, FB_14, FB_15, FB_16, FI_30, FI_31, FI_32, FI_33, FB_30, FB_31, FB_32, FB_33, FI_3g, FI_8m, Int.toNat_natCast, Int.toNat_zero, qSame1_inv, qSame1_mu, qSame1, o1, othT, bW, gW, fM, lW, ap3, pb3, pb4, ints, mayV, i64s, i64b, kW, two, b2, lmap, setW, fnd, nW, oEr, wV, oAddW, bAddW, oDropW, bF, zW, oEg, rowW, oGrtW, lW2, gW2, bW2, fM2, lapp, a0, a1, a2, a3] at hf hi ⊢
  all_goals
    (repeat' (with_reducible apply And.intro)) <;> first
    | omega
    | assumption
    | (unfold inM; omega)
set_option maxHeartbeats 0 in
theorem qSame1_o1 (kv : Kv) (iv0 : Nat → Int) (bv0 : Nat → Bool) (hin : InB qSame1.B iv0) (hF : FT (sta FI FB kv iv0 bv0) (dlt dyn0) qSame1.F) (iv : Nat → Int) (bv : Nat → Bool) (ha : Agr 4 iv0 bv0 iv bv) (hi : qSame1_inv iv0 bv0 1 iv bv) :
    ∀ lf ∈ qSame1_L1, LfT (sta FI FB kv) qSame1.os (qSame1_inv iv0 bv0) (qSame1_mu iv0 bv0) 1 iv bv lf := by
  unfold qSame1_L1
  refine List.forall_mem_cons.2 ⟨?_, List.forall_mem_nil _⟩
  all_goals
    intro δ hf
  all_goals
    simp only [FT, TP, SB.tp, SI.tv, sta, IB.eval, and_true, true_and, ObsT, Ob.Tv, rowT, kix, In.tiv, ↓tbvT, In.tbv, get_cons, get_nil, reduceIte, Nat.reduceEqDiff, Int.reduceToNat, Int.reduceAdd, Int.reduceSub, Int.reduceLE, Int.reduceLT, Int.reduceEq, ne_eq, Bool.false_eq_true, not_true_eq_false, not_false_eq_true, true_iff, false_iff, iff_true, iff_false, false_implies, implies_true, decT, decide_true, decide_false, Bool.decide_eq_true, ap2, pb2, FI_3, FI_8, FI_9, FI_10, FI_11, FI_12, FI_13, FB_10, FB_11, FB_12, FB_13, FB_14, FB_15, FB_16, FI_30, FI_31, FI_32, FI_33, FB_30, FB_31, FB_32, FB_33, FI_3g, FI_8m, Int.toNat_natCast, Int.toNat_zero] at hf
  all_goals
    have a0 := ha.1 0 (by omega)
    have a1 := ha.1 1 (by omega)
    have a2 := ha.1 2 (by omega)
    have a3 := ha.1 3 (by omega)
  all_goals
    have b1 := hin 1 0 1000 (by simp [qSame1, bW, gW, fM, lW, ap3, pb3, pb4, ints, mayV, i64s, i64b, kW, two, b2, lmap, setW, fnd, nW, oEr, wV, oAddW, bAddW, oDropW, bF, zW, oEg, rowW, oGrtW, lW2, gW2, bW2, fM2, lapp])
    simp only [Int.reduceLE, reduceIte, Int.reduceNeg] at b1
  all_goals
    simp only [FT, TP, SB.tp, SI.tv, sta, IB.eval, and_true, true_and, ObsT, Ob.Tv, rowT, kix, In.tiv, ↓tbvT, In.tbv, get_cons, get_nil, reduceIte, Nat.reduceEqDiff, Int.reduceToNat, Int.reduceAdd, Int.reduceSub, Int.reduceLE, Int.reduceLT, Int.reduceEq, ne_eq, Bool.false_eq_true, not_true_eq_false, not_false_eq_true, true_iff, false_iff, iff_true, iff_false, false_implies, implies_true, decT, decide_true, decide_false, Bool.decide_eq_true, ap2, pb2, FI_3, FI_8, FI_9, FI_10, FI_11, FI_12, FI_13, FB_10, FB_11, FB_12, FB_13, FB_14, FB_15, FB_16, FI_30, FI_31, FI_32, FI_33, FB_30, FB_31, FB_32, FB_33, FI_3g, FI_8m, Int.toNat_natCast, Int.toNat_zero, qSame1_inv, qSame1_mu, qSame1, o1, othT, bW, gW, fM, lW, ap3, pb3, pb4, ints, mayV, i64s, i64b, kW, two, b2, lmap, setW, fnd, nW, oEr, wV, oAddW, bAddW, oDropW, bF, zW, oEg, rowW, oGrtW, lW2, gW2, bW2, fM2, lapp, a0, a1, a2, a3] at hf hi ⊢
  all_goals
    (repeat' (with_reducible apply And.intro)) <;> first
    | omega
    | assumption
    | (unfold inM; omega)
set_option maxRecDepth 100000 in
theorem qSame1_c : LsC ((tm0 qSame1 Try.f71 (Try.f71.body.getD .skip)) :: [qSame1_T1]) qSame1.os [qSame1_L0, qSame1_L1] := by
  unfold qSame1_L0 qSame1_L1
  exact ⟨List.forall_mem_cons.2 ⟨⟨⟨_, rfl, rfl⟩, by kernel_rfl⟩, List.forall_mem_cons.2 ⟨⟨⟨_, rfl, rfl⟩, by kernel_rfl⟩, List.forall_mem_nil _⟩⟩, List.forall_mem_cons.2 ⟨⟨⟨_, rfl, rfl⟩, by kernel_rfl⟩, List.forall_mem_nil _⟩, trivial⟩
theorem qSame1_ok : qSame1.Ok Try.prog FI FB :=
  Con.of_plain (body := Try.f71.body.getD .skip) pok fiok EntsFor.nil qSame1 Try.func71 (by kernel_rfl) 4 [qSame1_T1] (by kernel_rfl) [qSame1_L0, qSame1_L1] ⟨qSame1_h0, qSame1_h1, trivial⟩ qSame1_c
    qSame1_inv qSame1_mu (fun _ _ _ => trivial) fun kv iv0 bv0 hin hF k l iv bv hk ha hi => match k, hk, hi with
    | 0, hk, hi => by
      cases hk
      exact qSame1_o0 kv iv0 bv0 hin hF iv bv ha hi
    | 1, hk, hi => by
      cases hk
      exact qSame1_o1 kv iv0 bv0 hin hF iv bv ha hi
    | k + 2, hk, _ => by simp at hk
noncomputable def qSame2_L0 : List Lf :=
  [(.fin [] 0 ⟨⟨[], []⟩, [], [], []⟩ [] [])]
set_option maxRecDepth 100000 in
theorem qSame2_h0 : (ex (ccOf Try.prog BF [58, 84] qSame2) ((fun _ => []) (ccOf Try.prog BF [58, 84] qSame2)) (dw (ccOf Try.prog BF [58, 84] qSame2) ((fun _ => []) (ccOf Try.prog BF [58, 84] qSame2)) 1000 4) (stopX [0, 1, 2, 3, 4, 5, 6, 7, 8, 9, 10, 11, 12, 13, 14, 15, 16, 17, 18, 19, 20, 21, 22, 23, 24, 25, 26, 27, 28, 29, 30, 31, 32, 33, 34, 35, 36, 37, 38, 39, 40, 41, 42, 43, 44, 45, 46, 47, 48, 49, 50, 51, 52, 53, 54, 55, 56, 57, 58, 59, 60, 61, 62, 63, 64, 65, 66, 67, 68, 69, 70, 71, 72, 73, 74, 75, 76, 77, 78, 79, 80, 81, 82, 83, 84, 85, 86, 87, 88, 89, 90, 91, 92, 93, 94, 95, 96, 97, 98, 99, 100, 101, 102, 103, 104, 105, 106, 107, 108, 109, 110, 111, 112, 113, 114, 115, 116, 117, 118, 119, 120, 121, 122, 123, 124, 125, 126, 127, 128, 129, 130, 131, 132, 133, 134, 135, 136, 137, 138, 139, 140, 141, 142, 143, 144, 145, 146, 147, 148, 149, 150, 151, 152, 153, 154, 155, 156, 157, 158, 159, 160, 161, 162, 163, 164, 165, 166, 167, 168, 169, 170, 171, 172, 173, 174, 175, 176, 177, 178, 179, 180, 181, 182, 183, 184, 185, 186, 187, 188, 189, 190, 191, 192, 193, 194, 195, 196, 197, 198, 199, 200, 201, 202, 203, 204, 205, 206, 207, 208, 209, 210, 211, 212, 213, 214, 215, 216, 217, 218, 219, 220, 221, 222, 223, 224, 225, 226, 227, 228, 229, 230, 231, 232, 233, 234, 235, 236, 237, 238, 239, 240, 241, 242, 243, 244, 245, 246, 247, 248, 249]) 4000 (tm0 qSame2 Try.f71 (Try.f71.body.getD .skip)).f (tm0 qSame2 Try.f71 (Try.f71.body.getD .skip)).fs (tm0 qSame2 Try.f71 (Try.f71.body.getD .skip)).H).lfs (ccOf Try.prog BF [58, 84] qSame2) ((tm0 qSame2 Try.f71 (Try.f71.body.getD .skip)) :: []) qSame2.os = some qSame2_L0 := by kernel_rfl
def qSame2_inv : (Nat → Int) → (Nat → Bool) → Nat → (Nat → Int) → (Nat → Bool) → Prop := fun _ _ _ _ _ => True
def qSame2_mu : (Nat → Int) → (Nat → Bool) → Nat → (Nat → Int) → (Nat → Bool) → Nat := fun _ _ _ _ _ => 0
set_option maxHeartbeats 0 in
theorem qSame2_o0 (kv : Kv) (iv0 : Nat → Int) (bv0 : Nat → Bool) (hin : InB qSame2.B iv0) (hF : FT (sta FI FB kv iv0 bv0) (dlt dyn0) qSame2.F) (iv : Nat → Int) (bv : Nat → Bool) (ha : Agr 0 iv0 bv0 iv bv) (hi : qSame2_inv iv0 bv0 0 iv bv) :
    ∀ lf ∈ qSame2_L0, LfT (sta FI FB kv) qSame2.os (qSame2_inv iv0 bv0) (qSame2_mu iv0 bv0) 0 iv bv lf := by
  unfold qSame2_L0
  refine List.forall_mem_cons.2 ⟨?_, List.forall_mem_nil _⟩
  all_goals
    intro δ hf
  all_goals
    simp only [FT, TP, SB.tp, SI.tv, sta, IB.eval, and_true, true_and, ObsT, Ob.Tv, rowT, kix, In.tiv, ↓tbvT, In.tbv, get_cons, get_nil, reduceIte, Nat.reduceEqDiff, Int.reduceToNat, Int.reduceAdd, Int.reduceSub, Int.reduceLE, Int.reduceLT, Int.reduceEq, ne_eq, Bool.false_eq_true, not_true_eq_false, not_false_eq_true, true_iff, false_iff, iff_true, iff_false, false_implies, implies_true, decT, decide_true, decide_false, Bool.decide_eq_true, ap2, pb2, FI_3, FI_8, FI_9, FI_10, FI_11, FI_12, FI_13, FB_10, FB_11, FB_12, FB_13, FB_14, FB_15, FB_16, FI_30, FI_31, FI_32, FI_33, FB_30, FB_31, FB_32, FB_33, FI_3g, FI_8m, Int.toNat_natCast, Int.toNat_zero] at hf
  all_goals
    
  all_goals
    simp only [FT, TP, SB.tp, SI.tv, sta, IB.eval, and_true, true_and, ObsT, Ob.Tv, rowT, kix, In.tiv, ↓tbvT, In.tbv, get_cons, get_nil, reduceIte, Nat.reduceEqDiff, Int.reduceToNat, Int.reduceAdd, Int.reduceSub, Int.reduceLE, Int.reduceLT, Int.reduceEq, ne_eq, Bool.false_eq_true, not_true_eq_false, not_false_eq_true, true_iff, false_iff, iff_true, iff_false, false_implies, implies_true, decT, decide_true, decide_false, Bool.decide_eq_true, ap2, pb2, FI_3, FI_8, FI_9, FI_10, FI_11, FI_12, FI_13, FB_10, FB_11, FB_12, FB_13, FB_14, FB_15, FB_16, FI_30, FI_31, FI_32, FI_33, FB_30, FB_31, FB_32, FB_33, FI_3g, FI_8m, Int.toNat_natCast, Int.toNat_zero, qSame2_inv, qSame2_mu, qSame2, o1, othT, bW, gW, fM, lW, ap3, pb3, pb4, ints, mayV, i64s, i64b, kW, two, b2, lmap, setW, fnd, nW, oEr, wV, oAddW, bAddW, oDropW, bF, zW, oEg, rowW, oGrtW, lW2, gW2, bW2, fM2, lapp] at hf hi ⊢
  all_goals
    (repeat' (with_reducible apply And.intro)) <;> first
    | omega
    | assumption
    | (unfold inM; omega)
set_option maxRecDepth 100000 in
theorem qSame2_c : LsC ((tm0 qSame2 Try.f71 (Try.f71.body.getD .skip)) :: []) qSame2.os [qSame2_L0] := by
  unfold qSame2_L0
  exact ⟨List.forall_mem_cons.2 ⟨⟨⟨_, rfl, rfl⟩, by kernel_rfl⟩, List.forall_mem_nil _⟩, trivial⟩
theorem qSame2_ok : qSame2.Ok Try.prog FI FB :=
  Con.of_plain (body := Try.f71.body.getD .skip) pok fiok EntsFor.nil qSame2 Try.func71 (by kernel_rfl) 0 [] (by kernel_rfl) [qSame2_L0] ⟨qSame2_h0, trivial⟩ qSame2_c
    qSame2_inv qSame2_mu (fun _ _ _ => trivial) fun kv iv0 bv0 hin hF k l iv bv hk ha hi => match k, hk, hi with
    | 0, hk, hi => by
      cases hk
      exact qSame2_o0 kv iv0 bv0 hin hF iv bv ha hi
    | k + 1, hk, _ => by simp at hk
noncomputable def wLent_L0 : List Lf :=
  [(.fin [((.le (.op .add (.v 1) (.c 1)) (.d 1)), .true), ((.le (.v 1) (.d 0)), .true), ((.le (.v 1) (.v 3)), .true), ((.le (.c 0) (.v 3)), .true)] 0 ⟨⟨[], []⟩, [(0, 3)], [(0, (.d 1))], []⟩ [(.ar [(.nt .i64), (.nt .i64), (.nt .i64), (.nt .i64), (.nt .i64)] (.ap 32 (.v 0) (.v 1) (.c 0) (.c 0) (.c 0) (.c 0)) (.ap 8 (.ap 8 (.ap 8 (.ap 8 (.ap 8 (.v 0) (.v 1) (.c 0) (.c 77) (.c 0) (.c 0)) (.v 1) (.c 1) (.c 0) (.c 0) (.c 0)) (.v 1) (.c 2) (.c 0) (.c 0) (.c 0)) (.v 1) (.c 3) (.c 0) (.c 0) (.c 0)) (.v 1) (.c 4) (.c 0) (.c 0) (.c 0)) (.op .add (.v 1) (.c 1)))] [.none])]
set_option maxRecDepth 100000 in
theorem wLent_h0 : (ex (ccOf Try.prog BF [58, 84] wLent) ((fun _ => []) (ccOf Try.prog BF [58, 84] wLent)) (dw (ccOf Try.prog BF [58, 84] wLent) ((fun _ => []) (ccOf Try.prog BF [58, 84] wLent)) 1000 4) (stopX []) 4000 (tm0 wLent Try.f67 (Try.f67.body.getD .skip)).f (tm0 wLent Try.f67 (Try.f67.body.getD .skip)).fs (tm0 wLent Try.f67 (Try.f67.body.getD .skip)).H).lfs (ccOf Try.prog BF [58, 84] wLent) ((tm0 wLent Try.f67 (Try.f67.body.getD .skip)) :: []) wLent.os = some wLent_L0 := by kernel_rfl
def wLent_inv : (Nat → Int) → (Nat → Bool) → Nat → (Nat → Int) → (Nat → Bool) → Prop := fun _ _ _ _ _ => True
def wLent_mu : (Nat → Int) → (Nat → Bool) → Nat → (Nat → Int) → (Nat → Bool) → Nat := fun _ _ _ _ _ => 0
set_option maxHeartbeats 0 in
theorem wLent_o0 (kv : Kv) (iv0 : Nat → Int) (bv0 : Nat → Bool) (hin : InB wLent.B iv0) (hF : FT (sta FI FB kv iv0 bv0) (dlt dyn0) wLent.F) (iv : Nat → Int) (bv : Nat → Bool) (ha : Agr 4 iv0 bv0 iv bv) (hi : wLent_inv iv0 bv0 0 iv bv) :
    ∀ lf ∈ wLent_L0, LfT (sta FI FB kv) wLent.os (wLent_inv iv0 bv0) (wLent_mu iv0 bv0) 0 iv bv lf := by
  unfold wLent_L0
  refine List.forall_mem_cons.2 ⟨?_, List.forall_mem_nil _⟩
  all_goals
    intro δ hf
  all_goals
    simp only [FT, TP, SB.tp, SI.tv, sta, IB.eval, and_true, true_and, ObsT, Ob.Tv, rowT, kix, In.tiv, ↓tbvT, In.tbv, get_cons, get_nil, reduceIte, Nat.reduceEqDiff, Int.reduceToNat, Int.reduceAdd, Int.reduceSub, Int.reduceLE, Int.reduceLT, Int.reduceEq, ne_eq, Bool.false_eq_true, not_true_eq_false, not_false_eq_true, true_iff, false_iff, iff_true, iff_false, false_implies, implies_true, decT, decide_true, decide_false, Bool.decide_eq_true, ap2, pb2, FI_3, FI_8, FI_9, FI_10, FI_11, FI_12, FI_13, FB_10, FB_11, FB_12, FB_13, FB_14, FB_15, FB_16, FI_30, FI_31, FI_32, FI_33, FB_30, FB_31, FB_32, FB_33, FI_3g, FI_8m, Int.toNat_natCast, Int.toNat_zero] at hf
  all_goals
    have a0 := ha.1 0 (by omega)
    have a1 := ha.1 1 (by omega)
    have a2 := ha.1 2 (by omega)
    have a3 := ha.1 3 (by omega)
  all_goals
    have b1 := hin 1 0 1000 (by simp [wLent, bW, gW, fM, lW, ap3, pb3, pb4, ints, mayV, i64s, i64b, kW, two, b2, lmap, setW, fnd, nW, oEr, wV, oAddW, bAddW, oDropW, bF, zW, oEg, rowW, oGrtW, lW2, gW2, bW2, fM2, lapp])
    simp only [Int.reduceLE, reduceIte, Int.reduceNeg] at b1
  all_goals
    simp only [FT, TP, SB.tp, SI.tv, sta, IB.eval, and_true, true_and, ObsT, Ob.Tv, rowT, kix, In.tiv, ↓tbvT, In.tbv, get_cons, get_nil, reduceIte, Nat.reduceEqDiff, Int.reduceToNat, Int.reduceAdd, Int.reduceSub, Int.reduceLE, Int.reduceLT, Int.reduceEq, ne_eq, Bool.false_eq_true, not_true_eq_false, not_false_eq_true, true_iff, false_iff, iff_true, iff_false, false_implies, implies_true, decT, decide_true, decide_false, Bool.decide_eq_true, ap2, pb2, FI_3, FI_8, FI_9, FI_10, FI_11, FI_12, FI_13, FB_10, FB_11, FB_12, FB_13, FB_14, FB_15, FB_16, FI_30, FI_31, FI_32, FI_33, FB_30, FB_31, FB_32, FB_33, FI_3g, FI_8m, Int.toNat_natCast, Int.toNat_zero, wLent_inv, wLent_mu, wLent, o1, othT, bW, gW, fM, lW, ap3, pb3, pb4, ints, mayV, i64s, i64b, kW, two, b2, lmap, setW, fnd, nW, oEr, wV, oAddW, bAddW, oDropW, bF, zW, oEg, rowW, oGrtW, lW2, gW2, bW2, fM2, lapp, a0, a1, a2, a3] at hf hi ⊢
  all_goals
    (repeat' (with_reducible apply And.intro)) <;> first
    | omega
    | assumption
    | (unfold inM; omega)
    | (intro j hj; refine ⟨?_, ?_, ?_, ?_, ?_⟩ <;> (rw [fl_lentW (by omega) (by decide)]; (try simp only [fl_blit, fl_set]); (repeat' split) <;> first | rfl | (exfalso; omega) | (congr 1; omega) | decide))
set_option maxRecDepth 100000 in
theorem wLent_c : LsC ((tm0 wLent Try.f67 (Try.f67.body.getD .skip)) :: []) wLent.os [wLent_L0] := by
  unfold wLent_L0
  exact ⟨List.forall_mem_cons.2 ⟨⟨⟨_, rfl, rfl⟩, by kernel_rfl⟩, List.forall_mem_nil _⟩, trivial⟩
theorem wLent_ok : wLent.Ok Try.prog FI FB :=
  Con.of_plain (body := Try.f67.body.getD .skip) pok fiok EntsFor.nil wLent Try.func67 (by kernel_rfl) 4 [] (by kernel_rfl) [wLent_L0] ⟨wLent_h0, trivial⟩ wLent_c
    wLent_inv wLent_mu (fun _ _ _ => trivial) fun kv iv0 bv0 hin hF k l iv bv hk ha hi => match k, hk, hi with
    | 0, hk, hi => by
      cases hk
      exact wLent_o0 kv iv0 bv0 hin hF iv bv ha hi
    | k + 1, hk, _ => by simp at hk
noncomputable def wGrant_T1 : Tm := ⟨⟨69, 67, [(31, (.it .i64 (.v 27))), (30, (.it .i64 (.v 4))), (7, (.sl (.n 2) (.c 0) (.v 1) (.v 25))), (5, (.pt (.n 0) (.c 0))), (0, (.sl (.k 0) (.v 2) (.v 1) (.v 3))), (1, (.it .i64 (.v 4)))], [(.code (atC Try.f69 [1, 1, 1, 0, 1, 0, 0])), (.inLoop (atC Try.f69 [1, 1, 1, 0, 1, 0, 0])), (.inBlock 1), (.code (atC Try.f69 [1, 1, 1, 1]))], [], .none⟩, [],
    ⟨[(0, (.cells [(.it .i64 (.c 0)), (.it .i64 (.c 0)), (.it .i64 (.c 0)), (.it .i64 (.c 0)), (.it .i64 (.c 0))] 84)), (2, (.arr [(.nt .i64), (.nt .i64), (.nt .i64), (.nt .i64), (.nt .i64)] (.v 30) (.v 1) 84 (.v 25)))], 3, 0, 0, [((.le (.v 1) (.v 4)), .false), ((.lt (.v 4) (.c 0)), .false), ((.ap 30 (.v 0) (.v 1) (.c 0) (.c 0) (.c 0) (.c 0)), .true), ((.le (.v 1) (.v 3)), .true), ((.le (.c 0) (.v 3)), .true)], [1, 0], [(1, (1, 1000)), (4, (0, 999)), (2, (0, (-1))), (27, (0, (-1)))]⟩, [30, 27, 25]⟩
noncomputable def wGrant_L0 : List Lf :=
  [(.fin [((.lt (.v 4) (.c 0)), .true), ((.ap 30 (.v 0) (.v 1) (.c 0) (.c 0) (.c 0) (.c 0)), .true), ((.le (.v 1) (.v 3)), .true), ((.le (.c 0) (.v 3)), .true)] 1 ⟨⟨[], []⟩, [], [], []⟩ [] []), (.fin [((.le (.v 1) (.v 4)), .true), ((.lt (.v 4) (.c 0)), .false), ((.ap 30 (.v 0) (.v 1) (.c 0) (.c 0) (.c 0) (.c 0)), .true), ((.le (.v 1) (.v 3)), .true), ((.le (.c 0) (.v 3)), .true)] 2 ⟨⟨[], []⟩, [], [], []⟩ [] []), (.cut [((.le (.v 1) (.d 0)), .true), ((.le (.v 1) (.v 4)), .false), ((.lt (.v 4) (.c 0)), .false), ((.ap 30 (.v 0) (.v 1) (.c 0) (.c 0) (.c 0) (.c 0)), .true), ((.le (.v 1) (.v 3)), .true), ((.le (.c 0) (.v 3)), .true)] 1 ⟨⟨[(30, (.v 0)), (25, (.d 0)), (27, (.c 0))], []⟩, [(0, 0), (2, 2)], [], []⟩ [] (shT wGrant_T1 ⟨⟨[(30, (.v 0)), (25, (.d 0)), (27, (.c 0))], []⟩, [(0, 0), (2, 2)], [], []⟩)), (.fin [((.ap 30 (.v 0) (.v 1) (.c 0) (.c 0) (.c 0) (.c 0)), .false), ((.le (.v 1) (.v 3)), .true), ((.le (.c 0) (.v 3)), .true)] 0 ⟨⟨[], []⟩, [], [], []⟩ [] [])]
noncomputable def wGrant_L1 : List Lf :=
  [(.cut [((.ap 10 (.ap 3 (.v 30) (.v 27) (.c 2) (.c 0) (.c 0) (.c 0)) (.ap 3 (.v 0) (.v 4) (.c 2) (.c 0) (.c 0) (.c 0)) (.c 0) (.c 0) (.c 0) (.c 0)), .true), ((.lt (.v 27) (.v 4)), .true), ((.le (.v 1) (.v 4)), .false), ((.lt (.v 4) (.c 0)), .false), ((.ap 30 (.v 0) (.v 1) (.c 0) (.c 0) (.c 0) (.c 0)), .true), ((.le (.v 1) (.v 3)), .true), ((.le (.c 0) (.v 3)), .true)] 1 ⟨⟨[(30, (.v 30)), (25, (.v 25)), (27, (.op .add (.v 27) (.c 1)))], []⟩, [(0, 0), (2, 2)], [], []⟩ [] (shT wGrant_T1 ⟨⟨[(30, (.v 30)), (25, (.v 25)), (27, (.op .add (.v 27) (.c 1)))], []⟩, [(0, 0), (2, 2)], [], []⟩)), (.cut [((.ap 10 (.ap 3 (.v 30) (.v 27) (.c 2) (.c 0) (.c 0) (.c 0)) (.ap 3 (.v 0) (.v 4) (.c 2) (.c 0) (.c 0) (.c 0)) (.c 0) (.c 0) (.c 0) (.c 0)), .false), ((.lt (.v 27) (.v 4)), .true), ((.le (.v 1) (.v 4)), .false), ((.lt (.v 4) (.c 0)), .false), ((.ap 30 (.v 0) (.v 1) (.c 0) (.c 0) (.c 0) (.c 0)), .true), ((.le (.v 1) (.v 3)), .true), ((.le (.c 0) (.v 3)), .true)] 1 ⟨⟨[(30, (.ap 8 (.v 30) (.v 27) (.c 4) (.op .imin (.wk .i64 (.op .add (.ap 3 (.v 30) (.v 27) (.c 4) (.c 0) (.c 0) (.c 0)) (.c 1))) (.c 64)) (.c 0) (.c 0))), (25, (.v 25)), (27, (.op .add (.v 27) (.c 1)))], []⟩, [(0, 0), (2, 2)], [], []⟩ [] (shT wGrant_T1 ⟨⟨[(30, (.ap 8 (.v 30) (.v 27) (.c 4) (.op .imin (.wk .i64 (.op .add (.ap 3 (.v 30) (.v 27) (.c 4) (.c 0) (.c 0) (.c 0)) (.c 1))) (.c 64)) (.c 0) (.c 0))), (25, (.v 25)), (27, (.op .add (.v 27) (.c 1)))], []⟩, [(0, 0), (2, 2)], [], []⟩)), (.fin [((.eq (.v 1) (.op .add (.v 4) (.c 1))), .true), ((.le (.v 1) (.v 25)), .true), ((.lt (.v 27) (.v 4)), .false), ((.le (.v 1) (.v 4)), .false), ((.lt (.v 4) (.c 0)), .false), ((.ap 30 (.v 0) (.v 1) (.c 0) (.c 0) (.c 0) (.c 0)), .true), ((.le (.v 1) (.v 3)), .true), ((.le (.c 0) (.v 3)), .true)] 3 ⟨⟨[], []⟩, [(0, 2)], [(0, (.v 25))], []⟩ [(.ei (.op .add (.v 1) (.c (-1))) (.v 4)), (.ar [(.nt .i64), (.nt .i64), (.nt .i64), (.nt .i64), (.nt .i64)] (.ap 33 (.v 0) (.v 1) (.v 4) (.c 0) (.c 0) (.c 0)) (.ap 9 (.v 30) (.v 4) (.c 0) (.c 0) (.op .sub (.v 1) (.v 4)) (.c 0)) (.op .add (.v 1) (.c (-1)))), (.fa (.le (.op .add (.v 1) (.c (-1))) (.v 1)) .true), (.fa (.le (.v 1) (.c 256)) .true)] [.none]), (.fin [((.eq (.v 1) (.op .add (.v 4) (.c 1))), .false), ((.le (.v 1) (.v 25)), .true), ((.lt (.v 27) (.v 4)), .false), ((.le (.v 1) (.v 4)), .false), ((.lt (.v 4) (.c 0)), .false), ((.ap 30 (.v 0) (.v 1) (.c 0) (.c 0) (.c 0) (.c 0)), .true), ((.le (.v 1) (.v 3)), .true), ((.le (.c 0) (.v 3)), .true)] 3 ⟨⟨[], []⟩, [(0, 2)], [(0, (.v 25))], []⟩ [(.ar [(.nt .i64), (.nt .i64), (.nt .i64), (.nt .i64), (.nt .i64)] (.ap 33 (.v 0) (.v 1) (.v 4) (.c 0) (.c 0) (.c 0)) (.ap 9 (.ap 9 (.v 30) (.v 4) (.v 30) (.op .add (.v 4) (.c 1)) (.op .sub (.v 1) (.op .add (.v 4) (.c 1))) (.c 0)) (.op .add (.v 1) (.c (-1))) (.c 0) (.c 0) (.c 1) (.c 0)) (.op .add (.v 1) (.c (-1)))), (.fa (.le (.op .add (.v 1) (.c (-1))) (.v 1)) .true), (.fa (.le (.v 1) (.c 256)) .true)] [.none]), (.bad [((.le (.v 1) (.v 25)), .false), ((.lt (.v 27) (.v 4)), .false), ((.le (.v 1) (.v 4)), .false), ((.lt (.v 4) (.c 0)), .false), ((.ap 30 (.v 0) (.v 1) (.c 0) (.c 0) (.c 0) (.c 0)), .true), ((.le (.v 1) (.v 3)), .true), ((.le (.c 0) (.v 3)), .true)])]
set_option maxRecDepth 100000 in
theorem wGrant_h0 : (ex (ccOf Try.prog BF [58, 84] wGrant) ((fun cc => [wRight.ent cc, wMay.ent cc, wFits.ent cc]) (ccOf Try.prog BF [58, 84] wGrant)) (dw (ccOf Try.prog BF [58, 84] wGrant) ((fun cc => [wRight.ent cc, wMay.ent cc, wFits.ent cc]) (ccOf Try.prog BF [58, 84] wGrant)) 1000 4) (stopX []) 4000 (tm0 wGrant Try.f69 (Try.f69.body.getD .skip)).f (tm0 wGrant Try.f69 (Try.f69.body.getD .skip)).fs (tm0 wGrant Try.f69 (Try.f69.body.getD .skip)).H).lfs (ccOf Try.prog BF [58, 84] wGrant) ((tm0 wGrant Try.f69 (Try.f69.body.getD .skip)) :: [wGrant_T1]) wGrant.os = some wGrant_L0 := by kernel_rfl
set_option maxRecDepth 100000 in
theorem wGrant_h1 : (ex (ccOf Try.prog BF [58, 84] wGrant) ((fun cc => [wRight.ent cc, wMay.ent cc, wFits.ent cc]) (ccOf Try.prog BF [58, 84] wGrant)) (dw (ccOf Try.prog BF [58, 84] wGrant) ((fun cc => [wRight.ent cc, wMay.ent cc, wFits.ent cc]) (ccOf Try.prog BF [58, 84] wGrant)) 1000 4) (stopX []) 4000 wGrant_T1.f wGrant_T1.fs wGrant_T1.H).lfs (ccOf Try.prog BF [58, 84] wGrant) ((tm0 wGrant Try.f69 (Try.f69.body.getD .skip)) :: [wGrant_T1]) wGrant.os = some wGrant_L1 := by kernel_rfl
def wGrant_inv : (Nat → Int) → (Nat → Bool) → Nat → (Nat → Int) → (Nat → Bool) → Prop := fun iv0 _ k iv _ => match k with
  | 0 => True
  | _ => rgtW (iv0 0) (iv0 1) ∧ 0 ≤ iv0 4 ∧ iv0 4 < iv0 1 ∧ 0 ≤ iv 27 ∧ iv 27 ≤ iv0 4 ∧ iv0 1 ≤ iv 25 ∧ ∀ j : Nat, (j : Int) < iv0 1 → ∀ f : Nat, f < 5 → fl (iv 30) j f = grtB (iv0 0) (iv0 4) (iv 27) j f
def wGrant_mu : (Nat → Int) → (Nat → Bool) → Nat → (Nat → Int) → (Nat → Bool) → Nat := fun iv0 _ k iv _ => match k with | 0 => 2 ^ 80 | _ => (iv0 4 - iv 27).toNat
set_option maxHeartbeats 0 in
theorem wGrant_o0 (kv : Kv) (iv0 : Nat → Int) (bv0 : Nat → Bool) (hin : InB wGrant.B iv0) (hF : FT (sta FI FB kv iv0 bv0) (dlt dyn0) wGrant.F) (iv : Nat → Int) (bv : Nat → Bool) (ha : Agr 5 iv0 bv0 iv bv) (hi : wGrant_inv iv0 bv0 0 iv bv) :
    ∀ lf ∈ wGrant_L0, LfT (sta FI FB kv) wGrant.os (wGrant_inv iv0 bv0) (wGrant_mu iv0 bv0) 0 iv bv lf := by
  unfold wGrant_L0
  refine List.forall_mem_cons.2 ⟨?_, List.forall_mem_cons.2 ⟨?_, List.forall_mem_cons.2 ⟨?_, List.forall_mem_cons.2 ⟨?_, List.forall_mem_nil _⟩⟩⟩⟩
  all_goals
    intro δ hf
  all_goals
    simp only [FT, TP, SB.tp, SI.tv, sta, IB.eval, and_true, true_and, ObsT, Ob.Tv, rowT, kix, In.tiv, ↓tbvT, In.tbv, get_cons, get_nil, reduceIte, Nat.reduceEqDiff, Int.reduceToNat, Int.reduceAdd, Int.reduceSub, Int.reduceLE, Int.reduceLT, Int.reduceEq, ne_eq, Bool.false_eq_true, not_true_eq_false, not_false_eq_true, true_iff, false_iff, iff_true, iff_false, false_implies, implies_true, decT, decide_true, decide_false, Bool.decide_eq_true, ap2, pb2, FI_3, FI_8, FI_9, FI_10, FI_11, FI_12, FI_13, FB_10, FB_11, FB_12, FB_13, FB_14, FB_15, FB_16, FI_30, FI_31, FI_32, FI_33, FB_30, FB_31, FB_32, FB_33, FI_3g, FI_8m, Int.toNat_natCast, Int.toNat_zero] at hf
  all_goals
    have a0 := ha.1 0 (by omega)
    have a1 := ha.1 1 (by omega)
    have a2 := ha.1 2 (by omega)
    have a3 := ha.1 3 (by omega)
    have a4 := ha.1 4 (by omega)
  all_goals
    have b1 := hin 1 0 1000 (by simp [wGrant, bW, gW, fM, lW, ap3, pb3, pb4, ints, mayV, i64s, i64b, kW, two, b2, lmap, setW, fnd, nW, oEr, wV, oAddW, bAddW, oDropW, bF, zW, oEg, rowW, oGrtW, lW2, gW2, bW2, fM2, lapp])
    simp only [Int.reduceLE, reduceIte, Int.reduceNeg] at b1
  all_goals
    have b4 := hin 4 (-9223372036854775808) 9223372036854775807 (by simp [wGrant, bW, gW, fM, lW, ap3, pb3, pb4, ints, mayV, i64s, i64b, kW, two, b2, lmap, setW, fnd, nW, oEr, wV, oAddW, bAddW, oDropW, bF, zW, oEg, rowW, oGrtW, lW2, gW2, bW2, fM2, lapp])
    simp only [Int.reduceLE, reduceIte, Int.reduceNeg] at b4
  all_goals
    simp only [FT, TP, SB.tp, SI.tv, sta, IB.eval, and_true, true_and, ObsT, Ob.Tv, rowT, kix, In.tiv, ↓tbvT, In.tbv, get_cons, get_nil, reduceIte, Nat.reduceEqDiff, Int.reduceToNat, Int.reduceAdd, Int.reduceSub, Int.reduceLE, Int.reduceLT, Int.reduceEq, ne_eq, Bool.false_eq_true, not_true_eq_false, not_false_eq_true, true_iff, false_iff, iff_true, iff_false, false_implies, implies_true, decT, decide_true, decide_false, Bool.decide_eq_true, ap2, pb2, FI_3, FI_8, FI_9, FI_10, FI_11, FI_12, FI_13, FB_10, FB_11, FB_12, FB_13, FB_14, FB_15, FB_16, FI_30, FI_31, FI_32, FI_33, FB_30, FB_31, FB_32, FB_33, FI_3g, FI_8m, Int.toNat_natCast, Int.toNat_zero, wGrant_inv, wGrant_mu, wGrant, o1, othT, bW, gW, fM, lW, ap3, pb3, pb4, ints, mayV, i64s, i64b, kW, two, b2, lmap, setW, fnd, nW, oEr, wV, oAddW, bAddW, oDropW, bF, zW, oEg, rowW, oGrtW, lW2, gW2, bW2, fM2, lapp, a0, a1, a2, a3, a4] at hf hi ⊢
  all_goals
    (repeat' (with_reducible apply And.intro)) <;> first
    | omega
    | assumption
    | (unfold inM; omega)
    | exact fun j hj f hf => grtB_zero.symm
    | (clear hin hF ha; grind)
set_option maxHeartbeats 0 in
theorem wGrant_o1 (kv : Kv) (iv0 : Nat → Int) (bv0 : Nat → Bool) (hin : InB wGrant.B iv0) (hF : FT (sta FI FB kv iv0 bv0) (dlt dyn0) wGrant.F) (iv : Nat → Int) (bv : Nat → Bool) (ha : Agr 5 iv0 bv0 iv bv) (hi : wGrant_inv iv0 bv0 1 iv bv) :
    ∀ lf ∈ wGrant_L1, LfT (sta FI FB kv) wGrant.os (wGrant_inv iv0 bv0) (wGrant_mu iv0 bv0) 1 iv bv lf := by
  unfold wGrant_L1
  refine List.forall_mem_cons.2 ⟨?_, List.forall_mem_cons.2 ⟨?_, List.forall_mem_cons.2 ⟨?_, List.forall_mem_cons.2 ⟨?_, List.forall_mem_cons.2 ⟨?_, List.forall_mem_nil _⟩⟩⟩⟩⟩
  all_goals
    intro δ hf
  all_goals
    simp only [FT, TP, SB.tp, SI.tv, sta, IB.eval, and_true, true_and, ObsT, Ob.Tv, rowT, kix, In.tiv, ↓tbvT, In.tbv, get_cons, get_nil, reduceIte, Nat.reduceEqDiff, Int.reduceToNat, Int.reduceAdd, Int.reduceSub, Int.reduceLE, Int.reduceLT, Int.reduceEq, ne_eq, Bool.false_eq_true, not_true_eq_false, not_false_eq_true, true_iff, false_iff, iff_true, iff_false, false_implies, implies_true, decT, decide_true, decide_false, Bool.decide_eq_true, ap2, pb2, FI_3, FI_8, FI_9, FI_10, FI_11, FI_12, FI_13, FB_10, FB_11, FB_12, FB_13, FB_14, FB_15, FB_16, FI_30, FI_31, FI_32, FI_33, FB_30, FB_31, FB_32, FB_33, FI_3g, FI_8m, Int.toNat_natCast, Int.toNat_zero] at hf
  all_goals
    have a0 := ha.1 0 (by omega)
    have a1 := ha.1 1 (by omega)
    have a2 := ha.1 2 (by omega)
    have a3 := ha.1 3 (by omega)
    have a4 := ha.1 4 (by omega)
  all_goals
    have b1 := hin 1 0 1000 (by simp [wGrant, bW, gW, fM, lW, ap3, pb3, pb4, ints, mayV, i64s, i64b, kW, two, b2, lmap, setW, fnd, nW, oEr, wV, oAddW, bAddW, oDropW, bF, zW, oEg, rowW, oGrtW, lW2, gW2, bW2, fM2, lapp])
    simp only [Int.reduceLE, reduceIte, Int.reduceNeg] at b1
  all_goals
    have b4 := hin 4 (-9223372036854775808) 9223372036854775807 (by simp [wGrant, bW, gW, fM, lW, ap3, pb3, pb4, ints, mayV, i64s, i64b, kW, two, b2, lmap, setW, fnd, nW, oEr, wV, oAddW, bAddW, oDropW, bF, zW, oEg, rowW, oGrtW, lW2, gW2, bW2, fM2, lapp])
    simp only [Int.reduceLE, reduceIte, Int.reduceNeg] at b4
  all_goals
    simp only [FT, TP, SB.tp, SI.tv, sta, IB.eval, and_true, true_and, ObsT, Ob.Tv, rowT, kix, In.tiv, ↓tbvT, In.tbv, get_cons, get_nil, reduceIte, Nat.reduceEqDiff, Int.reduceToNat, Int.reduceAdd, Int.reduceSub, Int.reduceLE, Int.reduceLT, Int.reduceEq, ne_eq, Bool.false_eq_true, not_true_eq_false, not_false_eq_true, true_iff, false_iff, iff_true, iff_false, false_implies, implies_true, decT, decide_true, decide_false, Bool.decide_eq_true, ap2, pb2, FI_3, FI_8, FI_9, FI_10, FI_11, FI_12, FI_13, FB_10, FB_11, FB_12, FB_13, FB_14, FB_15, FB_16, FI_30, FI_31, FI_32, FI_33, FB_30, FB_31, FB_32, FB_33, FI_3g, FI_8m, Int.toNat_natCast, Int.toNat_zero, wGrant_inv, wGrant_mu, wGrant, o1, othT, bW, gW, fM, lW, ap3, pb3, pb4, ints, mayV, i64s, i64b, kW, two, b2, lmap, setW, fnd, nW, oEr, wV, oAddW, bAddW, oDropW, bF, zW, oEg, rowW, oGrtW, lW2, gW2, bW2, fM2, lapp, a0, a1, a2, a3, a4] at hf hi ⊢
  all_goals
    have hag := fun h1 h2 h3 => @age_in (iv0 0) (iv0 1) h1 (iv 27) h2 h3
    have hag4 := fun h1 h2 h3 => @age_in (iv0 0) (iv0 1) h1 (iv0 4) h2 h3
    have h256 := hi.1.1
    have hrow := hi.2.2.2.2.2.2
    have hr2 : iv 27 < iv0 4 → fl (iv 30) (iv 27).toNat 2 = fl (iv0 0) (iv 27).toNat 2 := fun _ => (hrow (iv 27).toNat (by omega) 2 (by omega)).trans grtB_2
    have hr4 : iv 27 < iv0 4 → fl (iv 30) (iv 27).toNat 4 = fl (iv0 0) (iv 27).toNat 4 := fun _ => (hrow (iv 27).toNat (by omega) 4 (by omega)).trans (grtB_lo (by omega))
    have hend : iv 27 = iv0 4 → ∀ {j f : Nat}, (j : Int) < iv0 1 - 1 → f < 5 → fl (grtW (iv0 0) (iv0 1) (iv0 4)) j f = fl (iv 30) (if (j : Int) < iv0 4 then j else j + 1) f := fun e => grt_row hi.2.1 (by rw [e] at hrow; exact hrow)
  all_goals
    (repeat' (with_reducible apply And.intro)) <;> first
    | omega
    | assumption
    | (unfold inM; omega)
    | (exact grtB_no hi.2.2.2.1 hrow (by rw [← hr2 (by omega)]; exact hf.1.2.2))
    | (have h1 := hag hi.1 (by omega) (by omega); have h2 := hag4 hi.1 (by omega) (by omega); have e2 := hr2 (by omega); have e4 := hr4 (by omega); refine grtB_up hi.2.2.2.1 (by omega) hrow h1.2 (fun hp => hf.1 ⟨by unfold inM; omega, by unfold inM; omega, by rw [e2]; exact hp⟩) ?_; rw [e4, i64_eq' _ (by omega)]; split <;> omega)
    | (intro j hj; refine ⟨?_, ?_, ?_, ?_, ?_⟩ <;> (rw [hend (by omega) (by omega) (by decide)]; (try simp only [fl_blit, fl_set]); (repeat' split) <;> first | rfl | (exfalso; omega) | (congr 1; omega)))
    | (clear hin hF ha; grind)
set_option maxRecDepth 100000 in
theorem wGrant_c : LsC ((tm0 wGrant Try.f69 (Try.f69.body.getD .skip)) :: [wGrant_T1]) wGrant.os [wGrant_L0, wGrant_L1] := by
  unfold wGrant_L0 wGrant_L1
  exact ⟨List.forall_mem_cons.2 ⟨⟨⟨_, rfl, rfl⟩, by kernel_rfl⟩, List.forall_mem_cons.2 ⟨⟨⟨_, rfl, rfl⟩, by kernel_rfl⟩, List.forall_mem_cons.2 ⟨⟨⟨_, rfl, rfl⟩, by kernel_rfl⟩, List.forall_mem_cons.2 ⟨⟨⟨_, rfl, rfl⟩, by kernel_rfl⟩, List.forall_mem_nil _⟩⟩⟩⟩, List.forall_mem_cons.2 ⟨⟨⟨_, rfl, rfl⟩, by kernel_rfl⟩, List.forall_mem_cons.2 ⟨⟨⟨_, rfl, rfl⟩, by kernel_rfl⟩, List.forall_mem_cons.2 ⟨⟨⟨_, rfl, rfl⟩, by kernel_rfl⟩, List.forall_mem_cons.2 ⟨⟨⟨_, rfl, rfl⟩, by kernel_rfl⟩, List.forall_mem_cons.2 ⟨trivial, List.forall_mem_nil _⟩⟩⟩⟩⟩, trivial⟩
theorem wGrant_ok : wGrant.Ok Try.prog FI FB :=
  Con.of_plain (body := Try.f69.body.getD .skip) pok fiok (EntsFor.cons wRight_ok (EntsFor.cons wMay_ok (EntsFor.cons wFits_ok EntsFor.nil))) wGrant Try.func69 (by kernel_rfl) 5 [wGrant_T1] (by kernel_rfl) [wGrant_L0, wGrant_L1] ⟨wGrant_h0, wGrant_h1, trivial⟩ wGrant_c
    wGrant_inv wGrant_mu (fun _ _ _ => trivial) fun kv iv0 bv0 hin hF k l iv bv hk ha hi => match k, hk, hi with
    | 0, hk, hi => by
      cases hk
      exact wGrant_o0 kv iv0 bv0 hin hF iv bv ha hi
    | 1, hk, hi => by
      cases hk
      exact wGrant_o1 kv iv0 bv0 hin hF iv bv ha hi
    | k + 2, hk, _ => by simp at hk
noncomputable def qGrant_T1 : Tm := ⟨⟨70, 58, [(8, (.it .i64 (.v 33))), (7, (.sl (.n 2) (.c 0) (.v 27) (.v 25))), (5, (.pt (.n 0) (.c 0))), (0, (.sl (.k 0) (.v 2) (.v 1) (.v 3))), (1, (.it .i64 (.v 4)))], [(.code (atC Try.f70 [1, 1, 1, 1, 0, 1, 0, 0])), (.inLoop (atC Try.f70 [1, 1, 1, 1, 0, 1, 0, 0])), (.inBlock 0), (.code (atC Try.f70 [1, 1, 1, 1, 1]))], [], .none⟩, [],
    ⟨[(0, (.cells [(.it .i64 (.c 0)), (.it .i64 (.c 0)), (.it .i64 (.c 0)), (.it .i64 (.c 0)), (.it .i64 (.c 0))] 84)), (2, (.arr [(.nt .i64), (.nt .i64), (.nt .i64), (.nt .i64), (.nt .i64)] (.v 28) (.v 27) 84 (.v 25)))], 3, 0, 0, [((.le (.v 1) (.v 4)), .false), ((.lt (.v 4) (.c 0)), .false), ((.ap 30 (.v 0) (.v 1) (.c 0) (.c 0) (.c 0) (.c 0)), .true), ((.le (.v 1) (.v 3)), .true), ((.le (.c 0) (.v 3)), .true)], [1, 0], [(27, (0, 4611686018427387904)), (1, (1, 1000)), (4, (0, 999)), (2, (0, (-1))), (33, (0, (-1)))]⟩, [33, 27, 28, 25]⟩
noncomputable def qGrant_L0 : List Lf :=
  [(.fin [((.lt (.v 4) (.c 0)), .true), ((.ap 30 (.v 0) (.v 1) (.c 0) (.c 0) (.c 0) (.c 0)), .true), ((.le (.v 1) (.v 3)), .true), ((.le (.c 0) (.v 3)), .true)] 1 ⟨⟨[], []⟩, [], [], []⟩ [] []), (.fin [((.le (.v 1) (.v 4)), .true), ((.lt (.v 4) (.c 0)), .false), ((.ap 30 (.v 0) (.v 1) (.c 0) (.c 0) (.c 0) (.c 0)), .true), ((.le (.v 1) (.v 3)), .true), ((.le (.c 0) (.v 3)), .true)] 2 ⟨⟨[], []⟩, [], [], []⟩ [] []), (.cut [((.le (.v 4) (.d 0)), .true), ((.eq (.v 1) (.op .add (.v 4) (.c 1))), .true), ((.le (.v 1) (.v 4)), .false), ((.lt (.v 4) (.c 0)), .false), ((.ap 30 (.v 0) (.v 1) (.c 0) (.c 0) (.c 0) (.c 0)), .true), ((.le (.v 1) (.v 3)), .true), ((.le (.c 0) (.v 3)), .true)] 1 ⟨⟨[(28, (.v 0)), (25, (.d 0)), (27, (.v 4)), (33, (.c 0))], []⟩, [(0, 0), (2, 2)], [], []⟩ [] (shT qGrant_T1 ⟨⟨[(28, (.v 0)), (25, (.d 0)), (27, (.v 4)), (33, (.c 0))], []⟩, [(0, 0), (2, 2)], [], []⟩)), (.cut [((.le (.op .add (.v 1) (.c (-1))) (.d 1)), .true), ((.le (.v 4) (.d 0)), .true), ((.eq (.v 1) (.op .add (.v 4) (.c 1))), .false), ((.le (.v 1) (.v 4)), .false), ((.lt (.v 4) (.c 0)), .false), ((.ap 30 (.v 0) (.v 1) (.c 0) (.c 0) (.c 0) (.c 0)), .true), ((.le (.v 1) (.v 3)), .true), ((.le (.c 0) (.v 3)), .true)] 1 ⟨⟨[(28, (.ap 9 (.v 0) (.v 4) (.v 0) (.op .add (.v 4) (.c 1)) (.op .sub (.v 1) (.op .add (.v 4) (.c 1))) (.c 0))), (25, (.d 1)), (27, (.op .add (.v 1) (.c (-1)))), (33, (.c 0))], []⟩, [(0, 0), (2, 3)], [], []⟩ [] (shT qGrant_T1 ⟨⟨[(28, (.ap 9 (.v 0) (.v 4) (.v 0) (.op .add (.v 4) (.c 1)) (.op .sub (.v 1) (.op .add (.v 4) (.c 1))) (.c 0))), (25, (.d 1)), (27, (.op .add (.v 1) (.c (-1)))), (33, (.c 0))], []⟩, [(0, 0), (2, 3)], [], []⟩)), (.fin [((.ap 30 (.v 0) (.v 1) (.c 0) (.c 0) (.c 0) (.c 0)), .false), ((.le (.v 1) (.v 3)), .true), ((.le (.c 0) (.v 3)), .true)] 0 ⟨⟨[], []⟩, [], [], []⟩ [] [])]
noncomputable def qGrant_L1 : List Lf :=
  [(.cut [((.ap 12 (.ap 3 (.v 0) (.v 33) (.c 2) (.c 0) (.c 0) (.c 0)) (.ap 3 (.v 0) (.v 4) (.c 2) (.c 0) (.c 0) (.c 0)) (.c 0) (.c 0) (.c 0) (.c 0)), .true), ((.lt (.v 33) (.v 4)), .true), ((.le (.v 1) (.v 4)), .false), ((.lt (.v 4) (.c 0)), .false), ((.ap 30 (.v 0) (.v 1) (.c 0) (.c 0) (.c 0) (.c 0)), .true), ((.le (.v 1) (.v 3)), .true), ((.le (.c 0) (.v 3)), .true)] 1 ⟨⟨[(28, (.v 28)), (25, (.v 25)), (27, (.v 27)), (33, (.op .add (.v 33) (.c 1)))], []⟩, [(0, 0), (2, 2)], [], []⟩ [] (shT qGrant_T1 ⟨⟨[(28, (.v 28)), (25, (.v 25)), (27, (.v 27)), (33, (.op .add (.v 33) (.c 1)))], []⟩, [(0, 0), (2, 2)], [], []⟩)), (.cut [((.lt (.v 33) (.v 27)), .true), ((.ap 12 (.ap 3 (.v 0) (.v 33) (.c 2) (.c 0) (.c 0) (.c 0)) (.ap 3 (.v 0) (.v 4) (.c 2) (.c 0) (.c 0) (.c 0)) (.c 0) (.c 0) (.c 0) (.c 0)), .false), ((.lt (.v 33) (.v 4)), .true), ((.le (.v 1) (.v 4)), .false), ((.lt (.v 4) (.c 0)), .false), ((.ap 30 (.v 0) (.v 1) (.c 0) (.c 0) (.c 0) (.c 0)), .true), ((.le (.v 1) (.v 3)), .true), ((.le (.c 0) (.v 3)), .true)] 1 ⟨⟨[(28, (.ap 8 (.v 28) (.v 33) (.c 4) (.op .imin (.c 64) (.wk .i64 (.op .add (.ap 3 (.v 28) (.v 33) (.c 4) (.c 0) (.c 0) (.c 0)) (.c 1)))) (.c 0) (.c 0))), (25, (.v 25)), (27, (.v 27)), (33, (.op .add (.v 33) (.c 1)))], []⟩, [(0, 0), (2, 2)], [], []⟩ [] (shT qGrant_T1 ⟨⟨[(28, (.ap 8 (.v 28) (.v 33) (.c 4) (.op .imin (.c 64) (.wk .i64 (.op .add (.ap 3 (.v 28) (.v 33) (.c 4) (.c 0) (.c 0) (.c 0)) (.c 1)))) (.c 0) (.c 0))), (25, (.v 25)), (27, (.v 27)), (33, (.op .add (.v 33) (.c 1)))], []⟩, [(0, 0), (2, 2)], [], []⟩)), (.bad [((.lt (.v 33) (.v 27)), .false), ((.ap 12 (.ap 3 (.v 0) (.v 33) (.c 2) (.c 0) (.c 0) (.c 0)) (.ap 3 (.v 0) (.v 4) (.c 2) (.c 0) (.c 0) (.c 0)) (.c 0) (.c 0) (.c 0) (.c 0)), .false), ((.lt (.v 33) (.v 4)), .true), ((.le (.v 1) (.v 4)), .false), ((.lt (.v 4) (.c 0)), .false), ((.ap 30 (.v 0) (.v 1) (.c 0) (.c 0) (.c 0) (.c 0)), .true), ((.le (.v 1) (.v 3)), .true), ((.le (.c 0) (.v 3)), .true)]), (.fin [((.lt (.v 33) (.v 4)), .false), ((.le (.v 1) (.v 4)), .false), ((.lt (.v 4) (.c 0)), .false), ((.ap 30 (.v 0) (.v 1) (.c 0) (.c 0) (.c 0) (.c 0)), .true), ((.le (.v 1) (.v 3)), .true), ((.le (.c 0) (.v 3)), .true)] 3 ⟨⟨[], []⟩, [(0, 2)], [(0, (.v 25))], []⟩ [(.ei (.op .add (.v 1) (.c (-1))) (.v 27)), (.ar [(.nt .i64), (.nt .i64), (.nt .i64), (.nt .i64), (.nt .i64)] (.ap 33 (.v 0) (.v 1) (.v 4) (.c 0) (.c 0) (.c 0)) (.v 28) (.op .add (.v 1) (.c (-1)))), (.fa (.le (.op .add (.v 1) (.c (-1))) (.v 27)) .true), (.fa (.le (.op .add (.v 1) (.c (-1))) (.v 25)) .true), (.fa (.le (.v 1) (.c 256)) .true)] [.none])]
set_option maxRecDepth 100000 in
theorem qGrant_h0 : (ex (ccOf Try.prog BF [58, 84] qGrant) ((fun cc => [qRight.ent cc, qMay.ent cc, qFind.ent cc, rFits.ent cc]) (ccOf Try.prog BF [58, 84] qGrant)) (dw (ccOf Try.prog BF [58, 84] qGrant) ((fun cc => [qRight.ent cc, qMay.ent cc, qFind.ent cc, rFits.ent cc]) (ccOf Try.prog BF [58, 84] qGrant)) 1000 4) (stopX []) 4000 (tm0 qGrant Try.f70 (Try.f70.body.getD .skip)).f (tm0 qGrant Try.f70 (Try.f70.body.getD .skip)).fs (tm0 qGrant Try.f70 (Try.f70.body.getD .skip)).H).lfs (ccOf Try.prog BF [58, 84] qGrant) ((tm0 qGrant Try.f70 (Try.f70.body.getD .skip)) :: [qGrant_T1]) qGrant.os = some qGrant_L0 := by kernel_rfl
set_option maxRecDepth 100000 in
theorem qGrant_h1 : (ex (ccOf Try.prog BF [58, 84] qGrant) ((fun cc => [qRight.ent cc, qMay.ent cc, qFind.ent cc, rFits.ent cc]) (ccOf Try.prog BF [58, 84] qGrant)) (dw (ccOf Try.prog BF [58, 84] qGrant) ((fun cc => [qRight.ent cc, qMay.ent cc, qFind.ent cc, rFits.ent cc]) (ccOf Try.prog BF [58, 84] qGrant)) 1000 4) (stopX []) 4000 qGrant_T1.f qGrant_T1.fs qGrant_T1.H).lfs (ccOf Try.prog BF [58, 84] qGrant) ((tm0 qGrant Try.f70 (Try.f70.body.getD .skip)) :: [qGrant_T1]) qGrant.os = some qGrant_L1 := by kernel_rfl
def qGrant_inv : (Nat → Int) → (Nat → Bool) → Nat → (Nat → Int) → (Nat → Bool) → Prop := fun iv0 _ k iv _ => match k with
  | 0 => True
  | _ => rgtW (iv0 0) (iv0 1) ∧ 0 ≤ iv0 4 ∧ iv0 4 < iv0 1 ∧ 0 ≤ iv 33 ∧ iv 33 ≤ iv0 4 ∧ iv 27 = iv0 1 - 1 ∧ iv 27 ≤ iv 25 ∧ (∀ j : Nat, (j : Int) < iv0 4 → ∀ f : Nat, f < 5 → fl (iv 28) j f = grtB (iv0 0) (iv0 4) (iv 33) j f) ∧ ∀ j : Nat, iv0 4 ≤ (j : Int) → (j : Int) < iv0 1 - 1 → ∀ f : Nat, f < 5 → fl (iv 28) j f = fl (iv0 0) (j + 1) f
def qGrant_mu : (Nat → Int) → (Nat → Bool) → Nat → (Nat → Int) → (Nat → Bool) → Nat := fun iv0 _ k iv _ => match k with | 0 => 2 ^ 80 | _ => (iv0 4 - iv 33).toNat
set_option maxHeartbeats 0 in
theorem qGrant_o0 (kv : Kv) (iv0 : Nat → Int) (bv0 : Nat → Bool) (hin : InB qGrant.B iv0) (hF : FT (sta FI FB kv iv0 bv0) (dlt dyn0) qGrant.F) (iv : Nat → Int) (bv : Nat → Bool) (ha : Agr 5 iv0 bv0 iv bv) (hi : qGrant_inv iv0 bv0 0 iv bv) :
    ∀ lf ∈ qGrant_L0, LfT (sta FI FB kv) qGrant.os (qGrant_inv iv0 bv0) (qGrant_mu iv0 bv0) 0 iv bv lf := by
  unfold qGrant_L0
  refine List.forall_mem_cons.2 ⟨?_, List.forall_mem_cons.2 ⟨?_, List.forall_mem_cons.2 ⟨?_, List.forall_mem_cons.2 ⟨?_, List.forall_mem_cons.2 ⟨?_, List.forall_mem_nil _⟩⟩⟩⟩⟩
  all_goals
    intro δ hf
  all_goals
    simp only [FT, TP, SB.tp, SI.tv, sta, IB.eval, and_true, true_and, ObsT, Ob.Tv, rowT, kix, In.tiv, ↓tbvT, In.tbv, get_cons, get_nil, reduceIte, Nat.reduceEqDiff, Int.reduceToNat, Int.reduceAdd, Int.reduceSub, Int.reduceLE, Int.reduceLT, Int.reduceEq, ne_eq, Bool.false_eq_true, not_true_eq_false, not_false_eq_true, true_iff, false_iff, iff_true, iff_false, false_implies, implies_true, decT, decide_true, decide_false, Bool.decide_eq_true, ap2, pb2, FI_3, FI_8, FI_9, FI_10, FI_11, FI_12, FI_13, FB_10, FB_11, FB_12, FB_13, FB_14, FB_15, FB_16, FI_30, FI_31, FI_32, FI_33, FB_30, FB_31, FB_32, FB_33, FI_3g, FI_8m, Int.toNat_natCast, Int.toNat_zero] at hf
  all_goals
    have a0 := ha.1 0 (by omega)
    have a1 := ha.1 1 (by omega)
    have a2 := ha.1 2 (by omega)
    have a3 := ha.1 3 (by omega)
    have a4 := ha.1 4 (by omega)
  all_goals
    have b1 := hin 1 0 1000 (by simp [qGrant, bW, gW, fM, lW, ap3, pb3, pb4, ints, mayV, i64s, i64b, kW, two, b2, lmap, setW, fnd, nW, oEr, wV, oAddW, bAddW, oDropW, bF, zW, oEg, rowW, oGrtW, lW2, gW2, bW2, fM2, lapp])
    simp only [Int.reduceLE, reduceIte, Int.reduceNeg] at b1
  all_goals
    have b4 := hin 4 (-9223372036854775808) 9223372036854775807 (by simp [qGrant, bW, gW, fM, lW, ap3, pb3, pb4, ints, mayV, i64s, i64b, kW, two, b2, lmap, setW, fnd, nW, oEr, wV, oAddW, bAddW, oDropW, bF, zW, oEg, rowW, oGrtW, lW2, gW2, bW2, fM2, lapp])
    simp only [Int.reduceLE, reduceIte, Int.reduceNeg] at b4
  all_goals
    simp only [FT, TP, SB.tp, SI.tv, sta, IB.eval, and_true, true_and, ObsT, Ob.Tv, rowT, kix, In.tiv, ↓tbvT, In.tbv, get_cons, get_nil, reduceIte, Nat.reduceEqDiff, Int.reduceToNat, Int.reduceAdd, Int.reduceSub, Int.reduceLE, Int.reduceLT, Int.reduceEq, ne_eq, Bool.false_eq_true, not_true_eq_false, not_false_eq_true, true_iff, false_iff, iff_true, iff_false, false_implies, implies_true, decT, decide_true, decide_false, Bool.decide_eq_true, ap2, pb2, FI_3, FI_8, FI_9, FI_10, FI_11, FI_12, FI_13, FB_10, FB_11, FB_12, FB_13, FB_14, FB_15, FB_16, FI_30, FI_31, FI_32, FI_33, FB_30, FB_31, FB_32, FB_33, FI_3g, FI_8m, Int.toNat_natCast, Int.toNat_zero, qGrant_inv, qGrant_mu, qGrant, o1, othT, bW, gW, fM, lW, ap3, pb3, pb4, ints, mayV, i64s, i64b, kW, two, b2, lmap, setW, fnd, nW, oEr, wV, oAddW, bAddW, oDropW, bF, zW, oEg, rowW, oGrtW, lW2, gW2, bW2, fM2, lapp, a0, a1, a2, a3, a4] at hf hi ⊢
  all_goals
    (repeat' (with_reducible apply And.intro)) <;> first
    | omega
    | assumption
    | (unfold inM; omega)
    | (exact fun j hj f hf => by rw [grtB_zero, fl_blit, if_neg (by omega)])
    | (exact fun j hj f hf => by rw [grtB_zero]; done)
    | (exact fun j hj hj2 f hf => by omega)
    | (exact fun j hj hj2 f hf => by rw [fl_blit, if_pos (by omega)]; congr 1; omega)
    | (clear hin hF ha; grind)
set_option maxHeartbeats 0 in
theorem qGrant_o1 (kv : Kv) (iv0 : Nat → Int) (bv0 : Nat → Bool) (hin : InB qGrant.B iv0) (hF : FT (sta FI FB kv iv0 bv0) (dlt dyn0) qGrant.F) (iv : Nat → Int) (bv : Nat → Bool) (ha : Agr 5 iv0 bv0 iv bv) (hi : qGrant_inv iv0 bv0 1 iv bv) :
    ∀ lf ∈ qGrant_L1, LfT (sta FI FB kv) qGrant.os (qGrant_inv iv0 bv0) (qGrant_mu iv0 bv0) 1 iv bv lf := by
  unfold qGrant_L1
  refine List.forall_mem_cons.2 ⟨?_, List.forall_mem_cons.2 ⟨?_, List.forall_mem_cons.2 ⟨?_, List.forall_mem_cons.2 ⟨?_, List.forall_mem_nil _⟩⟩⟩⟩
  all_goals
    intro δ hf
  all_goals
    simp only [FT, TP, SB.tp, SI.tv, sta, IB.eval, and_true, true_and, ObsT, Ob.Tv, rowT, kix, In.tiv, ↓tbvT, In.tbv, get_cons, get_nil, reduceIte, Nat.reduceEqDiff, Int.reduceToNat, Int.reduceAdd, Int.reduceSub, Int.reduceLE, Int.reduceLT, Int.reduceEq, ne_eq, Bool.false_eq_true, not_true_eq_false, not_false_eq_true, true_iff, false_iff, iff_true, iff_false, false_implies, implies_true, decT, decide_true, decide_false, Bool.decide_eq_true, ap2, pb2, FI_3, FI_8, FI_9, FI_10, FI_11, FI_12, FI_13, FB_10, FB_11, FB_12, FB_13, FB_14, FB_15, FB_16, FI_30, FI_31, FI_32, FI_33, FB_30, FB_31, FB_32, FB_33, FI_3g, FI_8m, Int.toNat_natCast, Int.toNat_zero] at hf
  all_goals
    have a0 := ha.1 0 (by omega)
    have a1 := ha.1 1 (by omega)
    have a2 := ha.1 2 (by omega)
    have a3 := ha.1 3 (by omega)
    have a4 := ha.1 4 (by omega)
  all_goals
    have b1 := hin 1 0 1000 (by simp [qGrant, bW, gW, fM, lW, ap3, pb3, pb4, ints, mayV, i64s, i64b, kW, two, b2, lmap, setW, fnd, nW, oEr, wV, oAddW, bAddW, oDropW, bF, zW, oEg, rowW, oGrtW, lW2, gW2, bW2, fM2, lapp])
    simp only [Int.reduceLE, reduceIte, Int.reduceNeg] at b1
  all_goals
    have b4 := hin 4 (-9223372036854775808) 9223372036854775807 (by simp [qGrant, bW, gW, fM, lW, ap3, pb3, pb4, ints, mayV, i64s, i64b, kW, two, b2, lmap, setW, fnd, nW, oEr, wV, oAddW, bAddW, oDropW, bF, zW, oEg, rowW, oGrtW, lW2, gW2, bW2, fM2, lapp])
    simp only [Int.reduceLE, reduceIte, Int.reduceNeg] at b4
  all_goals
    simp only [FT, TP, SB.tp, SI.tv, sta, IB.eval, and_true, true_and, ObsT, Ob.Tv, rowT, kix, In.tiv, ↓tbvT, In.tbv, get_cons, get_nil, reduceIte, Nat.reduceEqDiff, Int.reduceToNat, Int.reduceAdd, Int.reduceSub, Int.reduceLE, Int.reduceLT, Int.reduceEq, ne_eq, Bool.false_eq_true, not_true_eq_false, not_false_eq_true, true_iff, false_iff, iff_true, iff_false, false_implies, implies_true, decT, decide_true, decide_false, Bool.decide_eq_true, ap2, pb2, FI_3, FI_8, FI_9, FI_10, FI_11, FI_12, FI_13, FB_10, FB_11, FB_12, FB_13, FB_14, FB_15, FB_16, FI_30, FI_31, FI_32, FI_33, FB_30, FB_31, FB_32, FB_33, FI_3g, FI_8m, Int.toNat_natCast, Int.toNat_zero, qGrant_inv, qGrant_mu, qGrant, o1, othT, bW, gW, fM, lW, ap3, pb3, pb4, ints, mayV, i64s, i64b, kW, two, b2, lmap, setW, fnd, nW, oEr, wV, oAddW, bAddW, oDropW, bF, zW, oEg, rowW, oGrtW, lW2, gW2, bW2, fM2, lapp, a0, a1, a2, a3, a4] at hf hi ⊢
  all_goals
    have hag := fun h1 h2 h3 => @age_in (iv0 0) (iv0 1) h1 (iv 33) h2 h3
    have hag4 := fun h1 h2 h3 => @age_in (iv0 0) (iv0 1) h1 (iv0 4) h2 h3
    have h256 := hi.1.1
    have hrow := hi.2.2.2.2.2.2.2.1
    have hrw2 := hi.2.2.2.2.2.2.2.2
    have hr4 : iv 33 < iv0 4 → fl (iv 28) (iv 33).toNat 4 = fl (iv0 0) (iv 33).toNat 4 := fun _ => (hrow (iv 33).toNat (by omega) 4 (by omega)).trans (grtB_lo (by omega))
    have hend : iv 33 = iv0 4 → ∀ {j f : Nat}, (j : Int) < iv0 1 - 1 → f < 5 → fl (grtW (iv0 0) (iv0 1) (iv0 4)) j f = fl (iv 28) j f := fun e => grt_rowQ (by rw [e] at hrow; exact hrow) hrw2
  all_goals
    (repeat' (with_reducible apply And.intro)) <;> first
    | omega
    | assumption
    | (unfold inM; omega)
    | exact hrw2
    | (exact grtB_no hi.2.2.2.1 hrow hf.1)
    | (exact hi_set hi.2.2.2.1 (by omega) hrw2)
    | (have h1 := hag hi.1 (by omega) (by omega); have e4 := hr4 (by omega); refine grtB_up hi.2.2.2.1 (by omega) hrow h1.2 (by first | exact hf.1 | exact hf.2.1) ?_; rw [e4, i64_eq' _ (by omega)]; split <;> omega)
    | (intro j hj; refine ⟨?_, ?_, ?_, ?_, ?_⟩ <;> (rw [hend (by omega) (by omega) (by decide)]))
    | (clear hin hF ha; grind)
set_option maxRecDepth 100000 in
theorem qGrant_c : LsC ((tm0 qGrant Try.f70 (Try.f70.body.getD .skip)) :: [qGrant_T1]) qGrant.os [qGrant_L0, qGrant_L1] := by
  unfold qGrant_L0 qGrant_L1
  exact ⟨List.forall_mem_cons.2 ⟨⟨⟨_, rfl, rfl⟩, by kernel_rfl⟩, List.forall_mem_cons.2 ⟨⟨⟨_, rfl, rfl⟩, by kernel_rfl⟩, List.forall_mem_cons.2 ⟨⟨⟨_, rfl, rfl⟩, by kernel_rfl⟩, List.forall_mem_cons.2 ⟨⟨⟨_, rfl, rfl⟩, by kernel_rfl⟩, List.forall_mem_cons.2 ⟨⟨⟨_, rfl, rfl⟩, by kernel_rfl⟩, List.forall_mem_nil _⟩⟩⟩⟩⟩, List.forall_mem_cons.2 ⟨⟨⟨_, rfl, rfl⟩, by kernel_rfl⟩, List.forall_mem_cons.2 ⟨⟨⟨_, rfl, rfl⟩, by kernel_rfl⟩, List.forall_mem_cons.2 ⟨trivial, List.forall_mem_cons.2 ⟨⟨⟨_, rfl, rfl⟩, by kernel_rfl⟩, List.forall_mem_nil _⟩⟩⟩⟩, trivial⟩
theorem qGrant_ok : qGrant.Ok Try.prog FI FB :=
  Con.of_plain (body := Try.f70.body.getD .skip) pok fiok (EntsFor.cons qRight_ok (EntsFor.cons qMay_ok (EntsFor.cons qFind_ok (EntsFor.cons rFits_ok EntsFor.nil)))) qGrant Try.func70 (by kernel_rfl) 5 [qGrant_T1] (by kernel_rfl) [qGrant_L0, qGrant_L1] ⟨qGrant_h0, qGrant_h1, trivial⟩ qGrant_c
    qGrant_inv qGrant_mu (fun _ _ _ => trivial) fun kv iv0 bv0 hin hF k l iv bv hk ha hi => match k, hk, hi with
    | 0, hk, hi => by
      cases hk
      exact qGrant_o0 kv iv0 bv0 hin hF iv bv ha hi
    | 1, hk, hi => by
      cases hk
      exact qGrant_o1 kv iv0 bv0 hin hF iv bv ha hi
    | k + 2, hk, _ => by simp at hk
end Go.Sx.Mhw
