/- Modes: the functions, by contract. -/
import Derived.Test.YtfgdpkceoadgjaaMoD
namespace Go.Sx.Mhw
set_option linter.unusedVariables false
set_option linter.unusedSimpArgs false
open Go Go.Sx Go.Proofs
/-- what a list of modes covers, as bits -/
def Msk (s c k : Int) : Prop := (s = 0 ∨ s = 1 ∨ s = 3 ∨ s = 7 ∨ s = 11 ∨ s = 15 ∨ s = 31 ∨ s = 63) ∧ (covA 0 c k ↔ s ≤ 1) ∧ (covA 1 c k ↔ s ≤ 3) ∧ (covA 2 c k ↔ s ≤ 7) ∧ (covA 3 c k ↔ (s ≤ 3 ∨ s = 11)) ∧ (covA 4 c k ↔ s ≤ 31)
theorem covA_succ {m c k : Int} (h : 0 ≤ k) : covA m c (k + 1) ↔ (covA m c k ∧ covP m (fl c k.toNat 0)) :=
  ⟨fun hh => ⟨fun i hi => hh i (by omega), hh k.toNat (by omega)⟩, fun hh => all_succ h hh.1 hh.2⟩
theorem Msk.zero (c : Int) : Msk 0 c 0 := by
  have h : ∀ m, covA m c 0 := fun m i hi => by omega
  refine ⟨.inl rfl, ?_, ?_, ?_, ?_, ?_⟩ <;> simp [h]
theorem Msk.step {s c k d : Int} (h : Msk s c k) (hk : 0 ≤ k) (hd : (fl c k.toNat 0 = 0 ∧ d = 1) ∨ (fl c k.toNat 0 = 1 ∧ d = 3) ∨ (fl c k.toNat 0 = 2 ∧ d = 7) ∨ (fl c k.toNat 0 = 3 ∧ d = 11) ∨ (fl c k.toNat 0 = 4 ∧ d = 31) ∨ (fl c k.toNat 0 = 5 ∧ d = 63)) :
    Msk (IntKind.u64.wrap (BitVec.ofInt IntKind.u64.bits s ||| BitVec.ofInt IntKind.u64.bits d).toNat) c (k + 1) := by
  obtain ⟨h0, h1, h2, h3, h4, h5⟩ := h
  unfold Msk
  simp only [covA_succ hk, h1, h2, h3, h4, h5]
  rcases hd with ⟨e, rfl⟩ | ⟨e, rfl⟩ | ⟨e, rfl⟩ | ⟨e, rfl⟩ | ⟨e, rfl⟩ | ⟨e, rfl⟩ <;> rw [e] <;> rcases h0 with rfl | rfl | rfl | rfl | rfl | rfl | rfl | rfl <;> decide
theorem Msk.fin {s c k : Int} (h : Msk s c k) (x : Int) (hx : x = 1 ∨ x = 3 ∨ x = 7 ∨ x = 11 ∨ x = 31 ∨ x = 63) : IntKind.u64.wrap (BitVec.ofInt IntKind.u64.bits s &&& ~~~BitVec.ofInt IntKind.u64.bits x).toNat = 0 ↔ (if x = 11 then s ≤ 3 ∨ s = 11 else s ≤ x ∧ (x = 63 ∨ x = 31 ∨ s ≠ 11 ∧ s ≠ 15)) := by
  obtain ⟨h0, _⟩ := h
  rcases hx with rfl | rfl | rfl | rfl | rfl | rfl <;> rcases h0 with rfl | rfl | rfl | rfl | rfl | rfl | rfl | rfl <;> decide
theorem joinC_is {c n m : Int} (h0 : 0 ≤ m) (h5 : m ≤ 5) (hm : m = 5 ∨ covA m c n) (h : ∀ p : Int, 0 ≤ p → p < m → ¬ covA p c n) : joinC c n = m := by
  unfold joinC
  have hh := fun p a b => h p a b
  have c0 := hh 0 (by omega); have c1 := hh 1 (by omega); have c2 := hh 2 (by omega); have c3 := hh 3 (by omega); have c4 := hh 4 (by omega)
  have : m = 0 ∨ m = 1 ∨ m = 2 ∨ m = 3 ∨ m = 4 ∨ m = 5 := by omega
  rcases this with rfl | rfl | rfl | rfl | rfl | rfl
  · rw [if_pos (by simpa using hm)]
  · rw [if_neg (c0 (by omega)), if_pos (by simpa using hm)]
  · rw [if_neg (c0 (by omega)), if_neg (c1 (by omega)), if_pos (by simpa using hm)]
  · rw [if_neg (c0 (by omega)), if_neg (c1 (by omega)), if_neg (c2 (by omega)), if_pos (by simpa using hm)]
  · rw [if_neg (c0 (by omega)), if_neg (c1 (by omega)), if_neg (c2 (by omega)), if_neg (c3 (by omega)), if_pos (by simpa using hm)]
  · rw [if_neg (c0 (by omega)), if_neg (c1 (by omega)), if_neg (c2 (by omega)), if_neg (c3 (by omega)), if_neg (c4 (by omega))]
theorem Msk.joins {s c n : Int} (h : Msk s c n) : joinC c n = if s ≤ 1 then 0 else if s ≤ 3 then 1 else if s = 7 then 2 else if s = 11 then 3 else if s ≤ 31 then 4 else 5 := by
  obtain ⟨h0, h1, h2, h3, h4, h5⟩ := h
  unfold joinC
  simp only [h1, h2, h3, h4, h5]
  rcases h0 with rfl | rfl | rfl | rfl | rfl | rfl | rfl | rfl <;> rfl
noncomputable def eFits_L0 : List Lf :=
  [(.fin [((.eq (.v 0) (.c 0)), .true), ((.lt (.v 1) (.c 6)), .true), ((.le (.c 0) (.v 1)), .true), ((.lt (.v 0) (.c 6)), .true), ((.le (.c 0) (.v 0)), .true)] 0 ⟨⟨[], []⟩, [], [], []⟩ [(.eb (.ap 10 (.v 0) (.v 1) (.c 0) (.c 0) (.c 0) (.c 0)) (.not (.eq (.op (.band .u64) (.c 63) (.op (.shl .u64) (.c 1) (.v 1))) (.c 0)))), (.ei (.ap 10 (.v 0) (.v 1) (.c 0) (.c 0) (.c 0) (.c 0)) (.c 0))] []), (.fin [((.eq (.v 0) (.c 1)), .true), ((.eq (.v 0) (.c 0)), .false), ((.lt (.v 1) (.c 6)), .true), ((.le (.c 0) (.v 1)), .true), ((.lt (.v 0) (.c 6)), .true), ((.le (.c 0) (.v 0)), .true)] 0 ⟨⟨[], []⟩, [], [], []⟩ [(.eb (.ap 10 (.v 0) (.v 1) (.c 0) (.c 0) (.c 0) (.c 0)) (.not (.eq (.op (.band .u64) (.c 31) (.op (.shl .u64) (.c 1) (.v 1))) (.c 0)))), (.ei (.ap 10 (.v 0) (.v 1) (.c 0) (.c 0) (.c 0) (.c 0)) (.c 0))] []), (.fin [((.eq (.v 0) (.c 2)), .true), ((.eq (.v 0) (.c 1)), .false), ((.eq (.v 0) (.c 0)), .false), ((.lt (.v 1) (.c 6)), .true), ((.le (.c 0) (.v 1)), .true), ((.lt (.v 0) (.c 6)), .true), ((.le (.c 0) (.v 0)), .true)] 0 ⟨⟨[], []⟩, [], [], []⟩ [(.eb (.ap 10 (.v 0) (.v 1) (.c 0) (.c 0) (.c 0) (.c 0)) (.not (.eq (.op (.band .u64) (.c 7) (.op (.shl .u64) (.c 1) (.v 1))) (.c 0)))), (.ei (.ap 10 (.v 0) (.v 1) (.c 0) (.c 0) (.c 0) (.c 0)) (.c 0))] []), (.fin [((.eq (.v 0) (.c 3)), .true), ((.eq (.v 0) (.c 2)), .false), ((.eq (.v 0) (.c 1)), .false), ((.eq (.v 0) (.c 0)), .false), ((.lt (.v 1) (.c 6)), .true), ((.le (.c 0) (.v 1)), .true), ((.lt (.v 0) (.c 6)), .true), ((.le (.c 0) (.v 0)), .true)] 0 ⟨⟨[], []⟩, [], [], []⟩ [(.eb (.ap 10 (.v 0) (.v 1) (.c 0) (.c 0) (.c 0) (.c 0)) (.not (.eq (.op (.band .u64) (.c 11) (.op (.shl .u64) (.c 1) (.v 1))) (.c 0)))), (.ei (.ap 10 (.v 0) (.v 1) (.c 0) (.c 0) (.c 0) (.c 0)) (.c 0))] []), (.fin [((.eq (.v 0) (.c 4)), .true), ((.eq (.v 0) (.c 3)), .false), ((.eq (.v 0) (.c 2)), .false), ((.eq (.v 0) (.c 1)), .false), ((.eq (.v 0) (.c 0)), .false), ((.lt (.v 1) (.c 6)), .true), ((.le (.c 0) (.v 1)), .true), ((.lt (.v 0) (.c 6)), .true), ((.le (.c 0) (.v 0)), .true)] 0 ⟨⟨[], []⟩, [], [], []⟩ [(.eb (.ap 10 (.v 0) (.v 1) (.c 0) (.c 0) (.c 0) (.c 0)) (.not (.eq (.op (.band .u64) (.c 3) (.op (.shl .u64) (.c 1) (.v 1))) (.c 0)))), (.ei (.ap 10 (.v 0) (.v 1) (.c 0) (.c 0) (.c 0) (.c 0)) (.c 0))] []), (.fin [((.eq (.v 0) (.c 4)), .false), ((.eq (.v 0) (.c 3)), .false), ((.eq (.v 0) (.c 2)), .false), ((.eq (.v 0) (.c 1)), .false), ((.eq (.v 0) (.c 0)), .false), ((.lt (.v 1) (.c 6)), .true), ((.le (.c 0) (.v 1)), .true), ((.lt (.v 0) (.c 6)), .true), ((.le (.c 0) (.v 0)), .true)] 0 ⟨⟨[], []⟩, [], [], []⟩ [(.eb (.ap 10 (.v 0) (.v 1) (.c 0) (.c 0) (.c 0) (.c 0)) (.not (.eq (.op (.band .u64) (.c 1) (.op (.shl .u64) (.c 1) (.v 1))) (.c 0)))), (.ei (.ap 10 (.v 0) (.v 1) (.c 0) (.c 0) (.c 0) (.c 0)) (.c 0))] []), (.fin [((.lt (.v 1) (.c 6)), .false), ((.le (.c 0) (.v 1)), .true), ((.lt (.v 0) (.c 6)), .true), ((.le (.c 0) (.v 0)), .true)] 0 ⟨⟨[], []⟩, [], [], []⟩ [(.eb (.ap 10 (.v 0) (.v 1) (.c 0) (.c 0) (.c 0) (.c 0)) (.c .false)), (.ei (.ap 10 (.v 0) (.v 1) (.c 0) (.c 0) (.c 0) (.c 0)) (.c 130))] []), (.fin [((.le (.c 0) (.v 1)), .false), ((.lt (.v 0) (.c 6)), .true), ((.le (.c 0) (.v 0)), .true)] 0 ⟨⟨[], []⟩, [], [], []⟩ [(.eb (.ap 10 (.v 0) (.v 1) (.c 0) (.c 0) (.c 0) (.c 0)) (.c .false)), (.ei (.ap 10 (.v 0) (.v 1) (.c 0) (.c 0) (.c 0) (.c 0)) (.c 130))] []), (.fin [((.lt (.v 0) (.c 6)), .false), ((.le (.c 0) (.v 0)), .true)] 0 ⟨⟨[], []⟩, [], [], []⟩ [(.eb (.ap 10 (.v 0) (.v 1) (.c 0) (.c 0) (.c 0) (.c 0)) (.c .false)), (.ei (.ap 10 (.v 0) (.v 1) (.c 0) (.c 0) (.c 0) (.c 0)) (.c 130))] []), (.fin [((.le (.c 0) (.v 0)), .false)] 0 ⟨⟨[], []⟩, [], [], []⟩ [(.eb (.ap 10 (.v 0) (.v 1) (.c 0) (.c 0) (.c 0) (.c 0)) (.c .false)), (.ei (.ap 10 (.v 0) (.v 1) (.c 0) (.c 0) (.c 0) (.c 0)) (.c 130))] [])]
set_option maxRecDepth 100000 in
theorem eFits_h0 : (ex (ccOf Try.prog BF [58, 84] eFits) ((fun _ => []) (ccOf Try.prog BF [58, 84] eFits)) (dw (ccOf Try.prog BF [58, 84] eFits) ((fun _ => []) (ccOf Try.prog BF [58, 84] eFits)) 1000 4) (stopX []) 4000 (tm0 eFits Try.f19 (Try.f19.body.getD .skip)).f (tm0 eFits Try.f19 (Try.f19.body.getD .skip)).fs (tm0 eFits Try.f19 (Try.f19.body.getD .skip)).H).lfs (ccOf Try.prog BF [58, 84] eFits) ((tm0 eFits Try.f19 (Try.f19.body.getD .skip)) :: []) eFits.os = some eFits_L0 := by kernel_rfl
def eFits_inv : (Nat → Int) → (Nat → Bool) → Nat → (Nat → Int) → (Nat → Bool) → Prop := fun _ _ _ _ _ => True
def eFits_mu : (Nat → Int) → (Nat → Bool) → Nat → (Nat → Int) → (Nat → Bool) → Nat := fun _ _ _ _ _ => 0
set_option maxHeartbeats 0 in
theorem eFits_o0 (kv : Kv) (iv0 : Nat → Int) (bv0 : Nat → Bool) (hin : InB eFits.B iv0) (hF : FT (sta FI FB kv iv0 bv0) (dlt dyn0) eFits.F) (iv : Nat → Int) (bv : Nat → Bool) (ha : Agr 2 iv0 bv0 iv bv) (hi : eFits_inv iv0 bv0 0 iv bv) :
    ∀ lf ∈ eFits_L0, LfT (sta FI FB kv) eFits.os (eFits_inv iv0 bv0) (eFits_mu iv0 bv0) 0 iv bv lf := by
  unfold eFits_L0
  refine List.forall_mem_cons.2 ⟨?_, List.forall_mem_cons.2 ⟨?_, List.forall_mem_cons.2 ⟨?_, List.forall_mem_cons.2 ⟨?_, List.forall_mem_cons.2 ⟨?_, List.forall_mem_cons.2 ⟨?_, List.forall_mem_cons.2 ⟨?_, List.forall_mem_cons.2 ⟨?_, List.forall_mem_cons.2 ⟨?_, List.forall_mem_cons.2 ⟨?_, List.forall_mem_nil _⟩⟩⟩⟩⟩⟩⟩⟩⟩⟩
  all_goals
    intro δ hf
  all_goals
    simp only [FT, TP, SB.tp, SI.tv, sta, IB.eval, and_true, true_and, ObsT, Ob.Tv, rowT, kix, In.tiv, ↓tbvT, In.tbv, get_cons, get_nil, reduceIte, Nat.reduceEqDiff, Int.reduceToNat, Int.reduceAdd, Int.reduceSub, Int.reduceLE, Int.reduceLT, Int.reduceEq, ne_eq, Bool.false_eq_true, not_true_eq_false, not_false_eq_true, true_iff, false_iff, iff_true, iff_false, false_implies, implies_true, decT, decide_true, decide_false, Bool.decide_eq_true, ap2, pb2, FI_3, FI_8, FI_9, FI_10, FI_11, FI_12, FI_13, FB_10, FB_11, FB_12, FB_13, FB_14, FB_15, FB_16] at hf
  all_goals
    have a0 := ha.1 0 (by omega)
    have a1 := ha.1 1 (by omega)
  all_goals
    simp only [FT, TP, SB.tp, SI.tv, sta, IB.eval, and_true, true_and, ObsT, Ob.Tv, rowT, kix, In.tiv, ↓tbvT, In.tbv, get_cons, get_nil, reduceIte, Nat.reduceEqDiff, Int.reduceToNat, Int.reduceAdd, Int.reduceSub, Int.reduceLE, Int.reduceLT, Int.reduceEq, ne_eq, Bool.false_eq_true, not_true_eq_false, not_false_eq_true, true_iff, false_iff, iff_true, iff_false, false_implies, implies_true, decT, decide_true, decide_false, Bool.decide_eq_true, ap2, pb2, FI_3, FI_8, FI_9, FI_10, FI_11, FI_12, FI_13, FB_10, FB_11, FB_12, FB_13, FB_14, FB_15, FB_16, eFits_inv, eFits_mu, eFits, o1, othT, b2, two, a0, a1] at hf hi ⊢
  all_goals
    first
    | omega
    | (have ha : inM (iv0 0) := by unfold inM; omega
       have hb : inM (iv0 1) := by unfold inM; omega
       rcases six ha with h | h | h | h | h | h <;> rcases six hb with h' | h' | h' | h' | h' | h' <;> first | omega | (simp only [h, h']; decide))
    | (simp only [inM, fitP, covP]; constructor <;> first | omega | (split <;> omega))
    | (simp only [inM, fitP, covP]; omega)
set_option maxRecDepth 100000 in
theorem eFits_c : LsC ((tm0 eFits Try.f19 (Try.f19.body.getD .skip)) :: []) eFits.os [eFits_L0] := by
  unfold eFits_L0
  exact ⟨List.forall_mem_cons.2 ⟨⟨⟨_, rfl, rfl⟩, by kernel_rfl⟩, List.forall_mem_cons.2 ⟨⟨⟨_, rfl, rfl⟩, by kernel_rfl⟩, List.forall_mem_cons.2 ⟨⟨⟨_, rfl, rfl⟩, by kernel_rfl⟩, List.forall_mem_cons.2 ⟨⟨⟨_, rfl, rfl⟩, by kernel_rfl⟩, List.forall_mem_cons.2 ⟨⟨⟨_, rfl, rfl⟩, by kernel_rfl⟩, List.forall_mem_cons.2 ⟨⟨⟨_, rfl, rfl⟩, by kernel_rfl⟩, List.forall_mem_cons.2 ⟨⟨⟨_, rfl, rfl⟩, by kernel_rfl⟩, List.forall_mem_cons.2 ⟨⟨⟨_, rfl, rfl⟩, by kernel_rfl⟩, List.forall_mem_cons.2 ⟨⟨⟨_, rfl, rfl⟩, by kernel_rfl⟩, List.forall_mem_cons.2 ⟨⟨⟨_, rfl, rfl⟩, by kernel_rfl⟩, List.forall_mem_nil _⟩⟩⟩⟩⟩⟩⟩⟩⟩⟩, trivial⟩
theorem eFits_ok : eFits.Ok Try.prog FI FB :=
  Con.of_plain (body := Try.f19.body.getD .skip) pok fiok EntsFor.nil eFits Try.func19 (by kernel_rfl) 2 [] (by kernel_rfl) [eFits_L0] ⟨eFits_h0, trivial⟩ eFits_c
    eFits_inv eFits_mu (fun _ _ _ => trivial) fun kv iv0 bv0 hin hF k l iv bv hk ha hi => match k, hk, hi with
    | 0, hk, hi => by
      cases hk
      exact eFits_o0 kv iv0 bv0 hin hF iv bv ha hi
    | k + 1, hk, _ => by simp at hk
noncomputable def eCovers_L0 : List Lf :=
  [(.fin [((.eq (.v 0) (.c 0)), .true), ((.lt (.v 1) (.c 6)), .true), ((.le (.c 0) (.v 1)), .true), ((.lt (.v 0) (.c 6)), .true), ((.le (.c 0) (.v 0)), .true)] 0 ⟨⟨[], []⟩, [], [], []⟩ [(.eb (.ap 11 (.v 0) (.v 1) (.c 0) (.c 0) (.c 0) (.c 0)) (.not (.eq (.op (.band .u64) (.c 1) (.op (.shl .u64) (.c 1) (.v 1))) (.c 0)))), (.ei (.ap 10 (.v 0) (.v 1) (.c 0) (.c 0) (.c 0) (.c 0)) (.c 0))] []), (.fin [((.eq (.v 0) (.c 1)), .true), ((.eq (.v 0) (.c 0)), .false), ((.lt (.v 1) (.c 6)), .true), ((.le (.c 0) (.v 1)), .true), ((.lt (.v 0) (.c 6)), .true), ((.le (.c 0) (.v 0)), .true)] 0 ⟨⟨[], []⟩, [], [], []⟩ [(.eb (.ap 11 (.v 0) (.v 1) (.c 0) (.c 0) (.c 0) (.c 0)) (.not (.eq (.op (.band .u64) (.c 3) (.op (.shl .u64) (.c 1) (.v 1))) (.c 0)))), (.ei (.ap 10 (.v 0) (.v 1) (.c 0) (.c 0) (.c 0) (.c 0)) (.c 0))] []), (.fin [((.eq (.v 0) (.c 2)), .true), ((.eq (.v 0) (.c 1)), .false), ((.eq (.v 0) (.c 0)), .false), ((.lt (.v 1) (.c 6)), .true), ((.le (.c 0) (.v 1)), .true), ((.lt (.v 0) (.c 6)), .true), ((.le (.c 0) (.v 0)), .true)] 0 ⟨⟨[], []⟩, [], [], []⟩ [(.eb (.ap 11 (.v 0) (.v 1) (.c 0) (.c 0) (.c 0) (.c 0)) (.not (.eq (.op (.band .u64) (.c 7) (.op (.shl .u64) (.c 1) (.v 1))) (.c 0)))), (.ei (.ap 10 (.v 0) (.v 1) (.c 0) (.c 0) (.c 0) (.c 0)) (.c 0))] []), (.fin [((.eq (.v 0) (.c 3)), .true), ((.eq (.v 0) (.c 2)), .false), ((.eq (.v 0) (.c 1)), .false), ((.eq (.v 0) (.c 0)), .false), ((.lt (.v 1) (.c 6)), .true), ((.le (.c 0) (.v 1)), .true), ((.lt (.v 0) (.c 6)), .true), ((.le (.c 0) (.v 0)), .true)] 0 ⟨⟨[], []⟩, [], [], []⟩ [(.eb (.ap 11 (.v 0) (.v 1) (.c 0) (.c 0) (.c 0) (.c 0)) (.not (.eq (.op (.band .u64) (.c 11) (.op (.shl .u64) (.c 1) (.v 1))) (.c 0)))), (.ei (.ap 10 (.v 0) (.v 1) (.c 0) (.c 0) (.c 0) (.c 0)) (.c 0))] []), (.fin [((.eq (.v 0) (.c 4)), .true), ((.eq (.v 0) (.c 3)), .false), ((.eq (.v 0) (.c 2)), .false), ((.eq (.v 0) (.c 1)), .false), ((.eq (.v 0) (.c 0)), .false), ((.lt (.v 1) (.c 6)), .true), ((.le (.c 0) (.v 1)), .true), ((.lt (.v 0) (.c 6)), .true), ((.le (.c 0) (.v 0)), .true)] 0 ⟨⟨[], []⟩, [], [], []⟩ [(.eb (.ap 11 (.v 0) (.v 1) (.c 0) (.c 0) (.c 0) (.c 0)) (.not (.eq (.op (.band .u64) (.c 31) (.op (.shl .u64) (.c 1) (.v 1))) (.c 0)))), (.ei (.ap 10 (.v 0) (.v 1) (.c 0) (.c 0) (.c 0) (.c 0)) (.c 0))] []), (.fin [((.eq (.v 0) (.c 4)), .false), ((.eq (.v 0) (.c 3)), .false), ((.eq (.v 0) (.c 2)), .false), ((.eq (.v 0) (.c 1)), .false), ((.eq (.v 0) (.c 0)), .false), ((.lt (.v 1) (.c 6)), .true), ((.le (.c 0) (.v 1)), .true), ((.lt (.v 0) (.c 6)), .true), ((.le (.c 0) (.v 0)), .true)] 0 ⟨⟨[], []⟩, [], [], []⟩ [(.eb (.ap 11 (.v 0) (.v 1) (.c 0) (.c 0) (.c 0) (.c 0)) (.not (.eq (.op (.band .u64) (.c 63) (.op (.shl .u64) (.c 1) (.v 1))) (.c 0)))), (.ei (.ap 10 (.v 0) (.v 1) (.c 0) (.c 0) (.c 0) (.c 0)) (.c 0))] []), (.fin [((.lt (.v 1) (.c 6)), .false), ((.le (.c 0) (.v 1)), .true), ((.lt (.v 0) (.c 6)), .true), ((.le (.c 0) (.v 0)), .true)] 0 ⟨⟨[], []⟩, [], [], []⟩ [(.eb (.ap 11 (.v 0) (.v 1) (.c 0) (.c 0) (.c 0) (.c 0)) (.c .false)), (.ei (.ap 10 (.v 0) (.v 1) (.c 0) (.c 0) (.c 0) (.c 0)) (.c 130))] []), (.fin [((.le (.c 0) (.v 1)), .false), ((.lt (.v 0) (.c 6)), .true), ((.le (.c 0) (.v 0)), .true)] 0 ⟨⟨[], []⟩, [], [], []⟩ [(.eb (.ap 11 (.v 0) (.v 1) (.c 0) (.c 0) (.c 0) (.c 0)) (.c .false)), (.ei (.ap 10 (.v 0) (.v 1) (.c 0) (.c 0) (.c 0) (.c 0)) (.c 130))] []), (.fin [((.lt (.v 0) (.c 6)), .false), ((.le (.c 0) (.v 0)), .true)] 0 ⟨⟨[], []⟩, [], [], []⟩ [(.eb (.ap 11 (.v 0) (.v 1) (.c 0) (.c 0) (.c 0) (.c 0)) (.c .false)), (.ei (.ap 10 (.v 0) (.v 1) (.c 0) (.c 0) (.c 0) (.c 0)) (.c 130))] []), (.fin [((.le (.c 0) (.v 0)), .false)] 0 ⟨⟨[], []⟩, [], [], []⟩ [(.eb (.ap 11 (.v 0) (.v 1) (.c 0) (.c 0) (.c 0) (.c 0)) (.c .false)), (.ei (.ap 10 (.v 0) (.v 1) (.c 0) (.c 0) (.c 0) (.c 0)) (.c 130))] [])]
set_option maxRecDepth 100000 in
theorem eCovers_h0 : (ex (ccOf Try.prog BF [58, 84] eCovers) ((fun _ => []) (ccOf Try.prog BF [58, 84] eCovers)) (dw (ccOf Try.prog BF [58, 84] eCovers) ((fun _ => []) (ccOf Try.prog BF [58, 84] eCovers)) 1000 4) (stopX []) 4000 (tm0 eCovers Try.f20 (Try.f20.body.getD .skip)).f (tm0 eCovers Try.f20 (Try.f20.body.getD .skip)).fs (tm0 eCovers Try.f20 (Try.f20.body.getD .skip)).H).lfs (ccOf Try.prog BF [58, 84] eCovers) ((tm0 eCovers Try.f20 (Try.f20.body.getD .skip)) :: []) eCovers.os = some eCovers_L0 := by kernel_rfl
def eCovers_inv : (Nat → Int) → (Nat → Bool) → Nat → (Nat → Int) → (Nat → Bool) → Prop := fun _ _ _ _ _ => True
def eCovers_mu : (Nat → Int) → (Nat → Bool) → Nat → (Nat → Int) → (Nat → Bool) → Nat := fun _ _ _ _ _ => 0
set_option maxHeartbeats 0 in
theorem eCovers_o0 (kv : Kv) (iv0 : Nat → Int) (bv0 : Nat → Bool) (hin : InB eCovers.B iv0) (hF : FT (sta FI FB kv iv0 bv0) (dlt dyn0) eCovers.F) (iv : Nat → Int) (bv : Nat → Bool) (ha : Agr 2 iv0 bv0 iv bv) (hi : eCovers_inv iv0 bv0 0 iv bv) :
    ∀ lf ∈ eCovers_L0, LfT (sta FI FB kv) eCovers.os (eCovers_inv iv0 bv0) (eCovers_mu iv0 bv0) 0 iv bv lf := by
  unfold eCovers_L0
  refine List.forall_mem_cons.2 ⟨?_, List.forall_mem_cons.2 ⟨?_, List.forall_mem_cons.2 ⟨?_, List.forall_mem_cons.2 ⟨?_, List.forall_mem_cons.2 ⟨?_, List.forall_mem_cons.2 ⟨?_, List.forall_mem_cons.2 ⟨?_, List.forall_mem_cons.2 ⟨?_, List.forall_mem_cons.2 ⟨?_, List.forall_mem_cons.2 ⟨?_, List.forall_mem_nil _⟩⟩⟩⟩⟩⟩⟩⟩⟩⟩
  all_goals
    intro δ hf
  all_goals
    simp only [FT, TP, SB.tp, SI.tv, sta, IB.eval, and_true, true_and, ObsT, Ob.Tv, rowT, kix, In.tiv, ↓tbvT, In.tbv, get_cons, get_nil, reduceIte, Nat.reduceEqDiff, Int.reduceToNat, Int.reduceAdd, Int.reduceSub, Int.reduceLE, Int.reduceLT, Int.reduceEq, ne_eq, Bool.false_eq_true, not_true_eq_false, not_false_eq_true, true_iff, false_iff, iff_true, iff_false, false_implies, implies_true, decT, decide_true, decide_false, Bool.decide_eq_true, ap2, pb2, FI_3, FI_8, FI_9, FI_10, FI_11, FI_12, FI_13, FB_10, FB_11, FB_12, FB_13, FB_14, FB_15, FB_16] at hf
  all_goals
    have a0 := ha.1 0 (by omega)
    have a1 := ha.1 1 (by omega)
  all_goals
    simp only [FT, TP, SB.tp, SI.tv, sta, IB.eval, and_true, true_and, ObsT, Ob.Tv, rowT, kix, In.tiv, ↓tbvT, In.tbv, get_cons, get_nil, reduceIte, Nat.reduceEqDiff, Int.reduceToNat, Int.reduceAdd, Int.reduceSub, Int.reduceLE, Int.reduceLT, Int.reduceEq, ne_eq, Bool.false_eq_true, not_true_eq_false, not_false_eq_true, true_iff, false_iff, iff_true, iff_false, false_implies, implies_true, decT, decide_true, decide_false, Bool.decide_eq_true, ap2, pb2, FI_3, FI_8, FI_9, FI_10, FI_11, FI_12, FI_13, FB_10, FB_11, FB_12, FB_13, FB_14, FB_15, FB_16, eCovers_inv, eCovers_mu, eCovers, o1, othT, b2, two, a0, a1] at hf hi ⊢
  all_goals
    first
    | omega
    | (have ha : inM (iv0 0) := by unfold inM; omega
       have hb : inM (iv0 1) := by unfold inM; omega
       rcases six ha with h | h | h | h | h | h <;> rcases six hb with h' | h' | h' | h' | h' | h' <;> first | omega | (simp only [h, h']; decide))
    | (simp only [inM, fitP, covP]; constructor <;> first | omega | (split <;> omega))
    | (simp only [inM, fitP, covP]; omega)
set_option maxRecDepth 100000 in
theorem eCovers_c : LsC ((tm0 eCovers Try.f20 (Try.f20.body.getD .skip)) :: []) eCovers.os [eCovers_L0] := by
  unfold eCovers_L0
  exact ⟨List.forall_mem_cons.2 ⟨⟨⟨_, rfl, rfl⟩, by kernel_rfl⟩, List.forall_mem_cons.2 ⟨⟨⟨_, rfl, rfl⟩, by kernel_rfl⟩, List.forall_mem_cons.2 ⟨⟨⟨_, rfl, rfl⟩, by kernel_rfl⟩, List.forall_mem_cons.2 ⟨⟨⟨_, rfl, rfl⟩, by kernel_rfl⟩, List.forall_mem_cons.2 ⟨⟨⟨_, rfl, rfl⟩, by kernel_rfl⟩, List.forall_mem_cons.2 ⟨⟨⟨_, rfl, rfl⟩, by kernel_rfl⟩, List.forall_mem_cons.2 ⟨⟨⟨_, rfl, rfl⟩, by kernel_rfl⟩, List.forall_mem_cons.2 ⟨⟨⟨_, rfl, rfl⟩, by kernel_rfl⟩, List.forall_mem_cons.2 ⟨⟨⟨_, rfl, rfl⟩, by kernel_rfl⟩, List.forall_mem_cons.2 ⟨⟨⟨_, rfl, rfl⟩, by kernel_rfl⟩, List.forall_mem_nil _⟩⟩⟩⟩⟩⟩⟩⟩⟩⟩, trivial⟩
theorem eCovers_ok : eCovers.Ok Try.prog FI FB :=
  Con.of_plain (body := Try.f20.body.getD .skip) pok fiok EntsFor.nil eCovers Try.func20 (by kernel_rfl) 2 [] (by kernel_rfl) [eCovers_L0] ⟨eCovers_h0, trivial⟩ eCovers_c
    eCovers_inv eCovers_mu (fun _ _ _ => trivial) fun kv iv0 bv0 hin hF k l iv bv hk ha hi => match k, hk, hi with
    | 0, hk, hi => by
      cases hk
      exact eCovers_o0 kv iv0 bv0 hin hF iv bv ha hi
    | k + 1, hk, _ => by simp at hk
noncomputable def rFits_L0 : List Lf :=
  [(.fin [((.eq (.v 0) (.c 0)), .true)] 0 ⟨⟨[], []⟩, [], [], []⟩ [(.eb (.ap 12 (.v 0) (.v 1) (.c 0) (.c 0) (.c 0) (.c 0)) (.c .true))] []), (.fin [((.eq (.v 1) (.c 0)), .true), ((.eq (.v 0) (.c 0)), .false)] 0 ⟨⟨[], []⟩, [], [], []⟩ [(.eb (.ap 12 (.v 0) (.v 1) (.c 0) (.c 0) (.c 0) (.c 0)) (.c .true))] []), (.fin [((.eq (.v 0) (.c 5)), .true), ((.eq (.v 1) (.c 0)), .false), ((.eq (.v 0) (.c 0)), .false)] 0 ⟨⟨[], []⟩, [], [], []⟩ [(.eb (.ap 12 (.v 0) (.v 1) (.c 0) (.c 0) (.c 0) (.c 0)) (.c .false))] []), (.fin [((.eq (.v 1) (.c 5)), .true), ((.eq (.v 0) (.c 5)), .false), ((.eq (.v 1) (.c 0)), .false), ((.eq (.v 0) (.c 0)), .false)] 0 ⟨⟨[], []⟩, [], [], []⟩ [(.eb (.ap 12 (.v 0) (.v 1) (.c 0) (.c 0) (.c 0) (.c 0)) (.c .false))] []), (.fin [((.eq (.v 0) (.c 1)), .true), ((.eq (.v 1) (.c 5)), .false), ((.eq (.v 0) (.c 5)), .false), ((.eq (.v 1) (.c 0)), .false), ((.eq (.v 0) (.c 0)), .false)] 0 ⟨⟨[], []⟩, [], [], []⟩ [(.eb (.ap 12 (.v 0) (.v 1) (.c 0) (.c 0) (.c 0) (.c 0)) (.c .true))] []), (.fin [((.eq (.v 1) (.c 1)), .true), ((.eq (.v 0) (.c 1)), .false), ((.eq (.v 1) (.c 5)), .false), ((.eq (.v 0) (.c 5)), .false), ((.eq (.v 1) (.c 0)), .false), ((.eq (.v 0) (.c 0)), .false)] 0 ⟨⟨[], []⟩, [], [], []⟩ [(.eb (.ap 12 (.v 0) (.v 1) (.c 0) (.c 0) (.c 0) (.c 0)) (.c .true))] []), (.fin [((.eq (.v 0) (.v 1)), .true), ((.eq (.v 1) (.c 1)), .false), ((.eq (.v 0) (.c 1)), .false), ((.eq (.v 1) (.c 5)), .false), ((.eq (.v 0) (.c 5)), .false), ((.eq (.v 1) (.c 0)), .false), ((.eq (.v 0) (.c 0)), .false)] 0 ⟨⟨[], []⟩, [], [], []⟩ [(.eb (.ap 12 (.v 0) (.v 1) (.c 0) (.c 0) (.c 0) (.c 0)) (.not (.eq (.v 0) (.c 4))))] []), (.fin [((.eq (.v 0) (.v 1)), .false), ((.eq (.v 1) (.c 1)), .false), ((.eq (.v 0) (.c 1)), .false), ((.eq (.v 1) (.c 5)), .false), ((.eq (.v 0) (.c 5)), .false), ((.eq (.v 1) (.c 0)), .false), ((.eq (.v 0) (.c 0)), .false)] 0 ⟨⟨[], []⟩, [], [], []⟩ [(.eb (.ap 12 (.v 0) (.v 1) (.c 0) (.c 0) (.c 0) (.c 0)) (.c .false))] [])]
set_option maxRecDepth 100000 in
theorem rFits_h0 : (ex (ccOf Try.prog BF [58, 84] rFits) ((fun _ => []) (ccOf Try.prog BF [58, 84] rFits)) (dw (ccOf Try.prog BF [58, 84] rFits) ((fun _ => []) (ccOf Try.prog BF [58, 84] rFits)) 1000 4) (stopX []) 4000 (tm0 rFits Try.f25 (Try.f25.body.getD .skip)).f (tm0 rFits Try.f25 (Try.f25.body.getD .skip)).fs (tm0 rFits Try.f25 (Try.f25.body.getD .skip)).H).lfs (ccOf Try.prog BF [58, 84] rFits) ((tm0 rFits Try.f25 (Try.f25.body.getD .skip)) :: []) rFits.os = some rFits_L0 := by kernel_rfl
def rFits_inv : (Nat → Int) → (Nat → Bool) → Nat → (Nat → Int) → (Nat → Bool) → Prop := fun _ _ _ _ _ => True
def rFits_mu : (Nat → Int) → (Nat → Bool) → Nat → (Nat → Int) → (Nat → Bool) → Nat := fun _ _ _ _ _ => 0
set_option maxHeartbeats 0 in
theorem rFits_o0 (kv : Kv) (iv0 : Nat → Int) (bv0 : Nat → Bool) (hin : InB rFits.B iv0) (hF : FT (sta FI FB kv iv0 bv0) (dlt dyn0) rFits.F) (iv : Nat → Int) (bv : Nat → Bool) (ha : Agr 2 iv0 bv0 iv bv) (hi : rFits_inv iv0 bv0 0 iv bv) :
    ∀ lf ∈ rFits_L0, LfT (sta FI FB kv) rFits.os (rFits_inv iv0 bv0) (rFits_mu iv0 bv0) 0 iv bv lf := by
  unfold rFits_L0
  refine List.forall_mem_cons.2 ⟨?_, List.forall_mem_cons.2 ⟨?_, List.forall_mem_cons.2 ⟨?_, List.forall_mem_cons.2 ⟨?_, List.forall_mem_cons.2 ⟨?_, List.forall_mem_cons.2 ⟨?_, List.forall_mem_cons.2 ⟨?_, List.forall_mem_cons.2 ⟨?_, List.forall_mem_nil _⟩⟩⟩⟩⟩⟩⟩⟩
  all_goals
    intro δ hf
  all_goals
    simp only [FT, TP, SB.tp, SI.tv, sta, IB.eval, and_true, true_and, ObsT, Ob.Tv, rowT, kix, In.tiv, ↓tbvT, In.tbv, get_cons, get_nil, reduceIte, Nat.reduceEqDiff, Int.reduceToNat, Int.reduceAdd, Int.reduceSub, Int.reduceLE, Int.reduceLT, Int.reduceEq, ne_eq, Bool.false_eq_true, not_true_eq_false, not_false_eq_true, true_iff, false_iff, iff_true, iff_false, false_implies, implies_true, decT, decide_true, decide_false, Bool.decide_eq_true, ap2, pb2, FI_3, FI_8, FI_9, FI_10, FI_11, FI_12, FI_13, FB_10, FB_11, FB_12, FB_13, FB_14, FB_15, FB_16] at hf
  all_goals
    have a0 := ha.1 0 (by omega)
    have a1 := ha.1 1 (by omega)
  all_goals
    simp only [FT, TP, SB.tp, SI.tv, sta, IB.eval, and_true, true_and, ObsT, Ob.Tv, rowT, kix, In.tiv, ↓tbvT, In.tbv, get_cons, get_nil, reduceIte, Nat.reduceEqDiff, Int.reduceToNat, Int.reduceAdd, Int.reduceSub, Int.reduceLE, Int.reduceLT, Int.reduceEq, ne_eq, Bool.false_eq_true, not_true_eq_false, not_false_eq_true, true_iff, false_iff, iff_true, iff_false, false_implies, implies_true, decT, decide_true, decide_false, Bool.decide_eq_true, ap2, pb2, FI_3, FI_8, FI_9, FI_10, FI_11, FI_12, FI_13, FB_10, FB_11, FB_12, FB_13, FB_14, FB_15, FB_16, rFits_inv, rFits_mu, rFits, o1, othT, b2, two, a0, a1] at hf hi ⊢
  all_goals
    first
    | omega
    | (have ha : inM (iv0 0) := by unfold inM; omega
       have hb : inM (iv0 1) := by unfold inM; omega
       rcases six ha with h | h | h | h | h | h <;> rcases six hb with h' | h' | h' | h' | h' | h' <;> first | omega | (simp only [h, h']; decide))
    | (simp only [inM, fitP, covP]; constructor <;> first | omega | (split <;> omega))
    | (simp only [inM, fitP, covP]; omega)
set_option maxRecDepth 100000 in
theorem rFits_c : LsC ((tm0 rFits Try.f25 (Try.f25.body.getD .skip)) :: []) rFits.os [rFits_L0] := by
  unfold rFits_L0
  exact ⟨List.forall_mem_cons.2 ⟨⟨⟨_, rfl, rfl⟩, by kernel_rfl⟩, List.forall_mem_cons.2 ⟨⟨⟨_, rfl, rfl⟩, by kernel_rfl⟩, List.forall_mem_cons.2 ⟨⟨⟨_, rfl, rfl⟩, by kernel_rfl⟩, List.forall_mem_cons.2 ⟨⟨⟨_, rfl, rfl⟩, by kernel_rfl⟩, List.forall_mem_cons.2 ⟨⟨⟨_, rfl, rfl⟩, by kernel_rfl⟩, List.forall_mem_cons.2 ⟨⟨⟨_, rfl, rfl⟩, by kernel_rfl⟩, List.forall_mem_cons.2 ⟨⟨⟨_, rfl, rfl⟩, by kernel_rfl⟩, List.forall_mem_cons.2 ⟨⟨⟨_, rfl, rfl⟩, by kernel_rfl⟩, List.forall_mem_nil _⟩⟩⟩⟩⟩⟩⟩⟩, trivial⟩
theorem rFits_ok : rFits.Ok Try.prog FI FB :=
  Con.of_plain (body := Try.f25.body.getD .skip) pok fiok EntsFor.nil rFits Try.func25 (by kernel_rfl) 2 [] (by kernel_rfl) [rFits_L0] ⟨rFits_h0, trivial⟩ rFits_c
    rFits_inv rFits_mu (fun _ _ _ => trivial) fun kv iv0 bv0 hin hF k l iv bv hk ha hi => match k, hk, hi with
    | 0, hk, hi => by
      cases hk
      exact rFits_o0 kv iv0 bv0 hin hF iv bv ha hi
    | k + 1, hk, _ => by simp at hk
noncomputable def rCovers_L0 : List Lf :=
  [(.fin [((.eq (.v 0) (.v 1)), .true)] 0 ⟨⟨[], []⟩, [], [], []⟩ [(.eb (.ap 13 (.v 0) (.v 1) (.c 0) (.c 0) (.c 0) (.c 0)) (.c .true))] []), (.fin [((.eq (.v 1) (.c 0)), .true), ((.eq (.v 0) (.v 1)), .false)] 0 ⟨⟨[], []⟩, [], [], []⟩ [(.eb (.ap 13 (.v 0) (.v 1) (.c 0) (.c 0) (.c 0) (.c 0)) (.c .true))] []), (.fin [((.eq (.v 0) (.c 5)), .true), ((.eq (.v 1) (.c 0)), .false), ((.eq (.v 0) (.v 1)), .false)] 0 ⟨⟨[], []⟩, [], [], []⟩ [(.eb (.ap 13 (.v 0) (.v 1) (.c 0) (.c 0) (.c 0) (.c 0)) (.c .true))] []), (.fin [((.eq (.v 0) (.c 4)), .true), ((.eq (.v 0) (.c 5)), .false), ((.eq (.v 1) (.c 0)), .false), ((.eq (.v 0) (.v 1)), .false)] 0 ⟨⟨[], []⟩, [], [], []⟩ [(.eb (.ap 13 (.v 0) (.v 1) (.c 0) (.c 0) (.c 0) (.c 0)) (.lt (.v 1) (.c 4)))] []), (.fin [((.eq (.v 0) (.c 2)), .true), ((.eq (.v 0) (.c 4)), .false), ((.eq (.v 0) (.c 5)), .false), ((.eq (.v 1) (.c 0)), .false), ((.eq (.v 0) (.v 1)), .false)] 0 ⟨⟨[], []⟩, [], [], []⟩ [(.eb (.ap 13 (.v 0) (.v 1) (.c 0) (.c 0) (.c 0) (.c 0)) (.eq (.v 1) (.c 1)))] []), (.fin [((.eq (.v 0) (.c 3)), .true), ((.eq (.v 0) (.c 2)), .false), ((.eq (.v 0) (.c 4)), .false), ((.eq (.v 0) (.c 5)), .false), ((.eq (.v 1) (.c 0)), .false), ((.eq (.v 0) (.v 1)), .false)] 0 ⟨⟨[], []⟩, [], [], []⟩ [(.eb (.ap 13 (.v 0) (.v 1) (.c 0) (.c 0) (.c 0) (.c 0)) (.eq (.v 1) (.c 1)))] []), (.fin [((.eq (.v 0) (.c 3)), .false), ((.eq (.v 0) (.c 2)), .false), ((.eq (.v 0) (.c 4)), .false), ((.eq (.v 0) (.c 5)), .false), ((.eq (.v 1) (.c 0)), .false), ((.eq (.v 0) (.v 1)), .false)] 0 ⟨⟨[], []⟩, [], [], []⟩ [(.eb (.ap 13 (.v 0) (.v 1) (.c 0) (.c 0) (.c 0) (.c 0)) (.c .false))] [])]
set_option maxRecDepth 100000 in
theorem rCovers_h0 : (ex (ccOf Try.prog BF [58, 84] rCovers) ((fun _ => []) (ccOf Try.prog BF [58, 84] rCovers)) (dw (ccOf Try.prog BF [58, 84] rCovers) ((fun _ => []) (ccOf Try.prog BF [58, 84] rCovers)) 1000 4) (stopX []) 4000 (tm0 rCovers Try.f26 (Try.f26.body.getD .skip)).f (tm0 rCovers Try.f26 (Try.f26.body.getD .skip)).fs (tm0 rCovers Try.f26 (Try.f26.body.getD .skip)).H).lfs (ccOf Try.prog BF [58, 84] rCovers) ((tm0 rCovers Try.f26 (Try.f26.body.getD .skip)) :: []) rCovers.os = some rCovers_L0 := by kernel_rfl
def rCovers_inv : (Nat → Int) → (Nat → Bool) → Nat → (Nat → Int) → (Nat → Bool) → Prop := fun _ _ _ _ _ => True
def rCovers_mu : (Nat → Int) → (Nat → Bool) → Nat → (Nat → Int) → (Nat → Bool) → Nat := fun _ _ _ _ _ => 0
set_option maxHeartbeats 0 in
theorem rCovers_o0 (kv : Kv) (iv0 : Nat → Int) (bv0 : Nat → Bool) (hin : InB rCovers.B iv0) (hF : FT (sta FI FB kv iv0 bv0) (dlt dyn0) rCovers.F) (iv : Nat → Int) (bv : Nat → Bool) (ha : Agr 2 iv0 bv0 iv bv) (hi : rCovers_inv iv0 bv0 0 iv bv) :
    ∀ lf ∈ rCovers_L0, LfT (sta FI FB kv) rCovers.os (rCovers_inv iv0 bv0) (rCovers_mu iv0 bv0) 0 iv bv lf := by
  unfold rCovers_L0
  refine List.forall_mem_cons.2 ⟨?_, List.forall_mem_cons.2 ⟨?_, List.forall_mem_cons.2 ⟨?_, List.forall_mem_cons.2 ⟨?_, List.forall_mem_cons.2 ⟨?_, List.forall_mem_cons.2 ⟨?_, List.forall_mem_cons.2 ⟨?_, List.forall_mem_nil _⟩⟩⟩⟩⟩⟩⟩
  all_goals
    intro δ hf
  all_goals
    simp only [FT, TP, SB.tp, SI.tv, sta, IB.eval, and_true, true_and, ObsT, Ob.Tv, rowT, kix, In.tiv, ↓tbvT, In.tbv, get_cons, get_nil, reduceIte, Nat.reduceEqDiff, Int.reduceToNat, Int.reduceAdd, Int.reduceSub, Int.reduceLE, Int.reduceLT, Int.reduceEq, ne_eq, Bool.false_eq_true, not_true_eq_false, not_false_eq_true, true_iff, false_iff, iff_true, iff_false, false_implies, implies_true, decT, decide_true, decide_false, Bool.decide_eq_true, ap2, pb2, FI_3, FI_8, FI_9, FI_10, FI_11, FI_12, FI_13, FB_10, FB_11, FB_12, FB_13, FB_14, FB_15, FB_16] at hf
  all_goals
    have a0 := ha.1 0 (by omega)
    have a1 := ha.1 1 (by omega)
  all_goals
    simp only [FT, TP, SB.tp, SI.tv, sta, IB.eval, and_true, true_and, ObsT, Ob.Tv, rowT, kix, In.tiv, ↓tbvT, In.tbv, get_cons, get_nil, reduceIte, Nat.reduceEqDiff, Int.reduceToNat, Int.reduceAdd, Int.reduceSub, Int.reduceLE, Int.reduceLT, Int.reduceEq, ne_eq, Bool.false_eq_true, not_true_eq_false, not_false_eq_true, true_iff, false_iff, iff_true, iff_false, false_implies, implies_true, decT, decide_true, decide_false, Bool.decide_eq_true, ap2, pb2, FI_3, FI_8, FI_9, FI_10, FI_11, FI_12, FI_13, FB_10, FB_11, FB_12, FB_13, FB_14, FB_15, FB_16, rCovers_inv, rCovers_mu, rCovers, o1, othT, b2, two, a0, a1] at hf hi ⊢
  all_goals
    first
    | omega
    | (have ha : inM (iv0 0) := by unfold inM; omega
       have hb : inM (iv0 1) := by unfold inM; omega
       rcases six ha with h | h | h | h | h | h <;> rcases six hb with h' | h' | h' | h' | h' | h' <;> first | omega | (simp only [h, h']; decide))
    | (simp only [inM, fitP, covP]; constructor <;> first | omega | (split <;> omega))
    | (simp only [inM, fitP, covP]; omega)
set_option maxRecDepth 100000 in
theorem rCovers_c : LsC ((tm0 rCovers Try.f26 (Try.f26.body.getD .skip)) :: []) rCovers.os [rCovers_L0] := by
  unfold rCovers_L0
  exact ⟨List.forall_mem_cons.2 ⟨⟨⟨_, rfl, rfl⟩, by kernel_rfl⟩, List.forall_mem_cons.2 ⟨⟨⟨_, rfl, rfl⟩, by kernel_rfl⟩, List.forall_mem_cons.2 ⟨⟨⟨_, rfl, rfl⟩, by kernel_rfl⟩, List.forall_mem_cons.2 ⟨⟨⟨_, rfl, rfl⟩, by kernel_rfl⟩, List.forall_mem_cons.2 ⟨⟨⟨_, rfl, rfl⟩, by kernel_rfl⟩, List.forall_mem_cons.2 ⟨⟨⟨_, rfl, rfl⟩, by kernel_rfl⟩, List.forall_mem_cons.2 ⟨⟨⟨_, rfl, rfl⟩, by kernel_rfl⟩, List.forall_mem_nil _⟩⟩⟩⟩⟩⟩⟩, trivial⟩
theorem rCovers_ok : rCovers.Ok Try.prog FI FB :=
  Con.of_plain (body := Try.f26.body.getD .skip) pok fiok EntsFor.nil rCovers Try.func26 (by kernel_rfl) 2 [] (by kernel_rfl) [rCovers_L0] ⟨rCovers_h0, trivial⟩ rCovers_c
    rCovers_inv rCovers_mu (fun _ _ _ => trivial) fun kv iv0 bv0 hin hF k l iv bv hk ha hi => match k, hk, hi with
    | 0, hk, hi => by
      cases hk
      exact rCovers_o0 kv iv0 bv0 hin hF iv bv ha hi
    | k + 1, hk, _ => by simp at hk
noncomputable def rAll_T1 : Tm := ⟨⟨29, 16, [(3, (.it .i64 (.v 24))), (0, (.sl (.k 0) (.v 2) (.v 1) (.v 3)))], [(.code (atC Try.f29 [1, 0, 1, 0, 0])), (.inLoop (atC Try.f29 [1, 0, 1, 0, 0])), (.inBlock 0), (.code (atC Try.f29 [1, 1]))], [], .none⟩, [],
    ⟨[], 0, 0, 0, [((.le (.v 1) (.v 3)), .true), ((.le (.c 0) (.v 3)), .true)], [1, 0], [(1, (0, 9223372036854775807)), (2, (0, (-1))), (24, (0, (-1)))]⟩, [24]⟩
noncomputable def rAll_L0 : List Lf :=
  [(.cut [((.le (.v 1) (.v 3)), .true), ((.le (.c 0) (.v 3)), .true)] 1 ⟨⟨[(24, (.c 0))], []⟩, [], [], []⟩ [] (shT rAll_T1 ⟨⟨[(24, (.c 0))], []⟩, [], [], []⟩))]
noncomputable def rAll_L1 : List Lf :=
  [(.cut [((.le (.ap 3 (.v 0) (.v 24) (.c 0) (.c 0) (.c 0) (.c 0)) (.c 5)), .true), ((.le (.c 0) (.ap 3 (.v 0) (.v 24) (.c 0) (.c 0) (.c 0) (.c 0))), .true), ((.lt (.v 24) (.v 1)), .true), ((.le (.v 1) (.v 3)), .true), ((.le (.c 0) (.v 3)), .true)] 1 ⟨⟨[(24, (.op .add (.v 24) (.c 1)))], []⟩, [], [], []⟩ [] (shT rAll_T1 ⟨⟨[(24, (.op .add (.v 24) (.c 1)))], []⟩, [], [], []⟩)), (.fin [((.le (.ap 3 (.v 0) (.v 24) (.c 0) (.c 0) (.c 0) (.c 0)) (.c 5)), .false), ((.le (.c 0) (.ap 3 (.v 0) (.v 24) (.c 0) (.c 0) (.c 0) (.c 0))), .true), ((.lt (.v 24) (.v 1)), .true), ((.le (.v 1) (.v 3)), .true), ((.le (.c 0) (.v 3)), .true)] 0 ⟨⟨[], []⟩, [], [], []⟩ [(.eb (.ap 15 (.v 0) (.v 1) (.c 0) (.c 0) (.c 0) (.c 0)) (.c .false))] []), (.fin [((.le (.c 0) (.ap 3 (.v 0) (.v 24) (.c 0) (.c 0) (.c 0) (.c 0))), .false), ((.lt (.v 24) (.v 1)), .true), ((.le (.v 1) (.v 3)), .true), ((.le (.c 0) (.v 3)), .true)] 0 ⟨⟨[], []⟩, [], [], []⟩ [(.eb (.ap 15 (.v 0) (.v 1) (.c 0) (.c 0) (.c 0) (.c 0)) (.c .false))] []), (.fin [((.lt (.v 24) (.v 1)), .false), ((.le (.v 1) (.v 3)), .true), ((.le (.c 0) (.v 3)), .true)] 0 ⟨⟨[], []⟩, [], [], []⟩ [(.eb (.ap 15 (.v 0) (.v 1) (.c 0) (.c 0) (.c 0) (.c 0)) (.c .true))] [])]
set_option maxRecDepth 100000 in
theorem rAll_h0 : (ex (ccOf Try.prog BF [58, 84] rAll) ((fun _ => []) (ccOf Try.prog BF [58, 84] rAll)) (dw (ccOf Try.prog BF [58, 84] rAll) ((fun _ => []) (ccOf Try.prog BF [58, 84] rAll)) 1000 4) (stopX []) 4000 (tm0 rAll Try.f29 (Try.f29.body.getD .skip)).f (tm0 rAll Try.f29 (Try.f29.body.getD .skip)).fs (tm0 rAll Try.f29 (Try.f29.body.getD .skip)).H).lfs (ccOf Try.prog BF [58, 84] rAll) ((tm0 rAll Try.f29 (Try.f29.body.getD .skip)) :: [rAll_T1]) rAll.os = some rAll_L0 := by kernel_rfl
set_option maxRecDepth 100000 in
theorem rAll_h1 : (ex (ccOf Try.prog BF [58, 84] rAll) ((fun _ => []) (ccOf Try.prog BF [58, 84] rAll)) (dw (ccOf Try.prog BF [58, 84] rAll) ((fun _ => []) (ccOf Try.prog BF [58, 84] rAll)) 1000 4) (stopX []) 4000 rAll_T1.f rAll_T1.fs rAll_T1.H).lfs (ccOf Try.prog BF [58, 84] rAll) ((tm0 rAll Try.f29 (Try.f29.body.getD .skip)) :: [rAll_T1]) rAll.os = some rAll_L1 := by kernel_rfl
def rAll_inv : (Nat → Int) → (Nat → Bool) → Nat → (Nat → Int) → (Nat → Bool) → Prop := fun iv0 _ k iv _ => match k with
  | 0 => True
  | _ => 0 ≤ iv 24 ∧ ∀ j : Nat, (j : Int) < iv 24 → inM (fl (iv0 0) j 0)
def rAll_mu : (Nat → Int) → (Nat → Bool) → Nat → (Nat → Int) → (Nat → Bool) → Nat := fun iv0 _ k iv _ => match k with | 0 => 2 ^ 80 | _ => (iv0 1 - iv 24).toNat
set_option maxHeartbeats 0 in
theorem rAll_o0 (kv : Kv) (iv0 : Nat → Int) (bv0 : Nat → Bool) (hin : InB rAll.B iv0) (hF : FT (sta FI FB kv iv0 bv0) (dlt dyn0) rAll.F) (iv : Nat → Int) (bv : Nat → Bool) (ha : Agr 4 iv0 bv0 iv bv) (hi : rAll_inv iv0 bv0 0 iv bv) :
    ∀ lf ∈ rAll_L0, LfT (sta FI FB kv) rAll.os (rAll_inv iv0 bv0) (rAll_mu iv0 bv0) 0 iv bv lf := by
  unfold rAll_L0
  refine List.forall_mem_cons.2 ⟨?_, List.forall_mem_nil _⟩
  all_goals
    intro δ hf
  all_goals
    simp only [FT, TP, SB.tp, SI.tv, sta, IB.eval, and_true, true_and, ObsT, Ob.Tv, rowT, kix, In.tiv, ↓tbvT, In.tbv, get_cons, get_nil, reduceIte, Nat.reduceEqDiff, Int.reduceToNat, Int.reduceAdd, Int.reduceSub, Int.reduceLE, Int.reduceLT, Int.reduceEq, ne_eq, Bool.false_eq_true, not_true_eq_false, not_false_eq_true, true_iff, false_iff, iff_true, iff_false, false_implies, implies_true, decT, decide_true, decide_false, Bool.decide_eq_true, ap2, pb2, FI_3, FI_8, FI_9, FI_10, FI_11, FI_12, FI_13, FB_10, FB_11, FB_12, FB_13, FB_14, FB_15, FB_16] at hf
  all_goals
    have a0 := ha.1 0 (by omega)
    have a1 := ha.1 1 (by omega)
    have a2 := ha.1 2 (by omega)
    have a3 := ha.1 3 (by omega)
  all_goals
    have b1 := hin 1 0 9223372036854775807 (by simp [rAll, bM, fM, gM, lM])
    simp only [Int.reduceLE, reduceIte, Int.reduceNeg] at b1
  all_goals
    simp only [FT, TP, SB.tp, SI.tv, sta, IB.eval, and_true, true_and, ObsT, Ob.Tv, rowT, kix, In.tiv, ↓tbvT, In.tbv, get_cons, get_nil, reduceIte, Nat.reduceEqDiff, Int.reduceToNat, Int.reduceAdd, Int.reduceSub, Int.reduceLE, Int.reduceLT, Int.reduceEq, ne_eq, Bool.false_eq_true, not_true_eq_false, not_false_eq_true, true_iff, false_iff, iff_true, iff_false, false_implies, implies_true, decT, decide_true, decide_false, Bool.decide_eq_true, ap2, pb2, FI_3, FI_8, FI_9, FI_10, FI_11, FI_12, FI_13, FB_10, FB_11, FB_12, FB_13, FB_14, FB_15, FB_16, rAll_inv, rAll_mu, rAll, o1, othT, bM, fM, gM, lM, a0, a1, a2, a3] at hf hi ⊢
  all_goals
    (repeat' (with_reducible apply And.intro)) <;> first
    | omega
    | assumption
    | (unfold inM; omega)
    | exact fun j hj => by omega
set_option maxHeartbeats 0 in
theorem rAll_o1 (kv : Kv) (iv0 : Nat → Int) (bv0 : Nat → Bool) (hin : InB rAll.B iv0) (hF : FT (sta FI FB kv iv0 bv0) (dlt dyn0) rAll.F) (iv : Nat → Int) (bv : Nat → Bool) (ha : Agr 4 iv0 bv0 iv bv) (hi : rAll_inv iv0 bv0 1 iv bv) :
    ∀ lf ∈ rAll_L1, LfT (sta FI FB kv) rAll.os (rAll_inv iv0 bv0) (rAll_mu iv0 bv0) 1 iv bv lf := by
  unfold rAll_L1
  refine List.forall_mem_cons.2 ⟨?_, List.forall_mem_cons.2 ⟨?_, List.forall_mem_cons.2 ⟨?_, List.forall_mem_cons.2 ⟨?_, List.forall_mem_nil _⟩⟩⟩⟩
  all_goals
    intro δ hf
  all_goals
    simp only [FT, TP, SB.tp, SI.tv, sta, IB.eval, and_true, true_and, ObsT, Ob.Tv, rowT, kix, In.tiv, ↓tbvT, In.tbv, get_cons, get_nil, reduceIte, Nat.reduceEqDiff, Int.reduceToNat, Int.reduceAdd, Int.reduceSub, Int.reduceLE, Int.reduceLT, Int.reduceEq, ne_eq, Bool.false_eq_true, not_true_eq_false, not_false_eq_true, true_iff, false_iff, iff_true, iff_false, false_implies, implies_true, decT, decide_true, decide_false, Bool.decide_eq_true, ap2, pb2, FI_3, FI_8, FI_9, FI_10, FI_11, FI_12, FI_13, FB_10, FB_11, FB_12, FB_13, FB_14, FB_15, FB_16] at hf
  all_goals
    have a0 := ha.1 0 (by omega)
    have a1 := ha.1 1 (by omega)
    have a2 := ha.1 2 (by omega)
    have a3 := ha.1 3 (by omega)
  all_goals
    have b1 := hin 1 0 9223372036854775807 (by simp [rAll, bM, fM, gM, lM])
    simp only [Int.reduceLE, reduceIte, Int.reduceNeg] at b1
  all_goals
    simp only [FT, TP, SB.tp, SI.tv, sta, IB.eval, and_true, true_and, ObsT, Ob.Tv, rowT, kix, In.tiv, ↓tbvT, In.tbv, get_cons, get_nil, reduceIte, Nat.reduceEqDiff, Int.reduceToNat, Int.reduceAdd, Int.reduceSub, Int.reduceLE, Int.reduceLT, Int.reduceEq, ne_eq, Bool.false_eq_true, not_true_eq_false, not_false_eq_true, true_iff, false_iff, iff_true, iff_false, false_implies, implies_true, decT, decide_true, decide_false, Bool.decide_eq_true, ap2, pb2, FI_3, FI_8, FI_9, FI_10, FI_11, FI_12, FI_13, FB_10, FB_11, FB_12, FB_13, FB_14, FB_15, FB_16, rAll_inv, rAll_mu, rAll, o1, othT, bM, fM, gM, lM, a0, a1, a2, a3] at hf hi ⊢
  all_goals
    (repeat' (with_reducible apply And.intro)) <;> first
    | omega
    | assumption
    | (unfold inM; omega)
    | exact all_succ hi.1 hi.2 (by unfold inM; omega)
    | exact fun h => absurd (h (iv 24).toNat (by omega)) (by unfold inM; omega)
    | exact fun j hj => hi.2 j (by omega)
set_option maxRecDepth 100000 in
theorem rAll_c : LsC ((tm0 rAll Try.f29 (Try.f29.body.getD .skip)) :: [rAll_T1]) rAll.os [rAll_L0, rAll_L1] := by
  unfold rAll_L0 rAll_L1
  exact ⟨List.forall_mem_cons.2 ⟨⟨⟨_, rfl, rfl⟩, by kernel_rfl⟩, List.forall_mem_nil _⟩, List.forall_mem_cons.2 ⟨⟨⟨_, rfl, rfl⟩, by kernel_rfl⟩, List.forall_mem_cons.2 ⟨⟨⟨_, rfl, rfl⟩, by kernel_rfl⟩, List.forall_mem_cons.2 ⟨⟨⟨_, rfl, rfl⟩, by kernel_rfl⟩, List.forall_mem_cons.2 ⟨⟨⟨_, rfl, rfl⟩, by kernel_rfl⟩, List.forall_mem_nil _⟩⟩⟩⟩, trivial⟩
theorem rAll_ok : rAll.Ok Try.prog FI FB :=
  Con.of_plain (body := Try.f29.body.getD .skip) pok fiok EntsFor.nil rAll Try.func29 (by kernel_rfl) 4 [rAll_T1] (by kernel_rfl) [rAll_L0, rAll_L1] ⟨rAll_h0, rAll_h1, trivial⟩ rAll_c
    rAll_inv rAll_mu (fun _ _ _ => trivial) fun kv iv0 bv0 hin hF k l iv bv hk ha hi => match k, hk, hi with
    | 0, hk, hi => by
      cases hk
      exact rAll_o0 kv iv0 bv0 hin hF iv bv ha hi
    | 1, hk, hi => by
      cases hk
      exact rAll_o1 kv iv0 bv0 hin hF iv bv ha hi
    | k + 2, hk, _ => by simp at hk
noncomputable def rTog_T1 : Tm := ⟨⟨31, 26, [(3, (.it .i64 (.v 24))), (0, (.sl (.k 0) (.v 2) (.v 1) (.v 3)))], [(.code (atC Try.f31 [1, 0, 1, 0, 0])), (.inLoop (atC Try.f31 [1, 0, 1, 0, 0])), (.inBlock 0), (.code (atC Try.f31 [1, 1]))], [], .none⟩, [],
    ⟨[], 0, 0, 0, [((.le (.v 1) (.v 3)), .true), ((.le (.c 0) (.v 3)), .true)], [1, 0], [(1, (0, 9223372036854775807)), (2, (0, (-1))), (24, (0, (-1)))]⟩, [24]⟩
noncomputable def rTog_T2 : Tm := ⟨⟨31, 26, [(4, (.it .i64 (.v 25))), (3, (.it .i64 (.v 24))), (0, (.sl (.k 0) (.v 2) (.v 1) (.v 3)))], [(.code (atC Try.f31 [1, 0, 1, 0, 0, 1, 0, 0, 1, 0, 0])), (.inLoop (atC Try.f31 [1, 0, 1, 0, 0, 1, 0, 0, 1, 0, 0])), (.inBlock 2), (.inBlock 1), (.code (atC Try.f31 [1, 0, 1, 0, 0, 1, 1])), (.inLoop (atC Try.f31 [1, 0, 1, 0, 0])), (.inBlock 0), (.code (atC Try.f31 [1, 1]))], [], .none⟩, [],
    ⟨[], 0, 0, 0, [((.lt (.v 24) (.v 1)), .true), ((.le (.v 1) (.v 3)), .true), ((.le (.c 0) (.v 3)), .true)], [1, 0], [(1, (1, 9223372036854775807)), (24, (0, 9223372036854775806)), (2, (0, (-1))), (25, (0, (-1)))]⟩, [25]⟩
noncomputable def rTog_L0 : List Lf :=
  [(.cut [((.le (.v 1) (.v 3)), .true), ((.le (.c 0) (.v 3)), .true)] 1 ⟨⟨[(24, (.c 0))], []⟩, [], [], []⟩ [] (shT rTog_T1 ⟨⟨[(24, (.c 0))], []⟩, [], [], []⟩))]
noncomputable def rTog_L1 : List Lf :=
  [(.cut [((.lt (.v 24) (.v 1)), .true), ((.le (.v 1) (.v 3)), .true), ((.le (.c 0) (.v 3)), .true)] 2 ⟨⟨[(25, (.c 0))], []⟩, [], [], []⟩ [] (shT rTog_T2 ⟨⟨[(25, (.c 0))], []⟩, [], [], []⟩)), (.fin [((.lt (.v 24) (.v 1)), .false), ((.le (.v 1) (.v 3)), .true), ((.le (.c 0) (.v 3)), .true)] 0 ⟨⟨[], []⟩, [], [], []⟩ [(.eb (.ap 16 (.v 0) (.v 1) (.c 0) (.c 0) (.c 0) (.c 0)) (.c .true))] [])]
noncomputable def rTog_L2 : List Lf :=
  [(.cut [((.ap 12 (.ap 3 (.v 0) (.v 24) (.c 0) (.c 0) (.c 0) (.c 0)) (.ap 3 (.v 0) (.v 25) (.c 0) (.c 0) (.c 0) (.c 0)) (.c 0) (.c 0) (.c 0) (.c 0)), .true), ((.lt (.v 25) (.v 24)), .true), ((.lt (.v 24) (.v 1)), .true), ((.le (.v 1) (.v 3)), .true), ((.le (.c 0) (.v 3)), .true)] 2 ⟨⟨[(25, (.op .add (.v 25) (.c 1)))], []⟩, [], [], []⟩ [] (shT rTog_T2 ⟨⟨[(25, (.op .add (.v 25) (.c 1)))], []⟩, [], [], []⟩)), (.fin [((.ap 12 (.ap 3 (.v 0) (.v 24) (.c 0) (.c 0) (.c 0) (.c 0)) (.ap 3 (.v 0) (.v 25) (.c 0) (.c 0) (.c 0) (.c 0)) (.c 0) (.c 0) (.c 0) (.c 0)), .false), ((.lt (.v 25) (.v 24)), .true), ((.lt (.v 24) (.v 1)), .true), ((.le (.v 1) (.v 3)), .true), ((.le (.c 0) (.v 3)), .true)] 0 ⟨⟨[], []⟩, [], [], []⟩ [(.eb (.ap 16 (.v 0) (.v 1) (.c 0) (.c 0) (.c 0) (.c 0)) (.c .false))] []), (.cut [((.lt (.v 25) (.v 24)), .false), ((.lt (.v 24) (.v 1)), .true), ((.le (.v 1) (.v 3)), .true), ((.le (.c 0) (.v 3)), .true)] 1 ⟨⟨[(24, (.op .add (.v 24) (.c 1)))], []⟩, [], [], []⟩ [] (shT rTog_T1 ⟨⟨[(24, (.op .add (.v 24) (.c 1)))], []⟩, [], [], []⟩))]
set_option maxRecDepth 100000 in
theorem rTog_h0 : (ex (ccOf Try.prog BF [58, 84] rTog) ((fun cc => [rFits.ent cc]) (ccOf Try.prog BF [58, 84] rTog)) (dw (ccOf Try.prog BF [58, 84] rTog) ((fun cc => [rFits.ent cc]) (ccOf Try.prog BF [58, 84] rTog)) 1000 4) (stopX []) 4000 (tm0 rTog Try.f31 (Try.f31.body.getD .skip)).f (tm0 rTog Try.f31 (Try.f31.body.getD .skip)).fs (tm0 rTog Try.f31 (Try.f31.body.getD .skip)).H).lfs (ccOf Try.prog BF [58, 84] rTog) ((tm0 rTog Try.f31 (Try.f31.body.getD .skip)) :: [rTog_T1, rTog_T2]) rTog.os = some rTog_L0 := by kernel_rfl
set_option maxRecDepth 100000 in
theorem rTog_h1 : (ex (ccOf Try.prog BF [58, 84] rTog) ((fun cc => [rFits.ent cc]) (ccOf Try.prog BF [58, 84] rTog)) (dw (ccOf Try.prog BF [58, 84] rTog) ((fun cc => [rFits.ent cc]) (ccOf Try.prog BF [58, 84] rTog)) 1000 4) (stopX []) 4000 rTog_T1.f rTog_T1.fs rTog_T1.H).lfs (ccOf Try.prog BF [58, 84] rTog) ((tm0 rTog Try.f31 (Try.f31.body.getD .skip)) :: [rTog_T1, rTog_T2]) rTog.os = some rTog_L1 := by kernel_rfl
set_option maxRecDepth 100000 in
theorem rTog_h2 : (ex (ccOf Try.prog BF [58, 84] rTog) ((fun cc => [rFits.ent cc]) (ccOf Try.prog BF [58, 84] rTog)) (dw (ccOf Try.prog BF [58, 84] rTog) ((fun cc => [rFits.ent cc]) (ccOf Try.prog BF [58, 84] rTog)) 1000 4) (stopX []) 4000 rTog_T2.f rTog_T2.fs rTog_T2.H).lfs (ccOf Try.prog BF [58, 84] rTog) ((tm0 rTog Try.f31 (Try.f31.body.getD .skip)) :: [rTog_T1, rTog_T2]) rTog.os = some rTog_L2 := by kernel_rfl
def rTog_inv : (Nat → Int) → (Nat → Bool) → Nat → (Nat → Int) → (Nat → Bool) → Prop := fun iv0 _ k iv _ => match k with
  | 0 => True
  | 1 => 0 ≤ iv 24 ∧ togA (iv0 0) (iv 24)
  | _ => 0 ≤ iv 24 ∧ togA (iv0 0) (iv 24) ∧ 0 ≤ iv 25 ∧ fitA (fl (iv0 0) (iv 24).toNat 0) (iv0 0) (iv 25)
def rTog_mu : (Nat → Int) → (Nat → Bool) → Nat → (Nat → Int) → (Nat → Bool) → Nat := fun iv0 _ k iv _ => match k with
  | 0 => 2 ^ 200 | 1 => (iv0 1 - iv 24).toNat * 2 ^ 70 + 2 ^ 69
  | _ => (iv0 1 - iv 24).toNat * 2 ^ 70 + (iv 24 - iv 25).toNat
set_option maxHeartbeats 0 in
theorem rTog_o0 (kv : Kv) (iv0 : Nat → Int) (bv0 : Nat → Bool) (hin : InB rTog.B iv0) (hF : FT (sta FI FB kv iv0 bv0) (dlt dyn0) rTog.F) (iv : Nat → Int) (bv : Nat → Bool) (ha : Agr 4 iv0 bv0 iv bv) (hi : rTog_inv iv0 bv0 0 iv bv) :
    ∀ lf ∈ rTog_L0, LfT (sta FI FB kv) rTog.os (rTog_inv iv0 bv0) (rTog_mu iv0 bv0) 0 iv bv lf := by
  unfold rTog_L0
  refine List.forall_mem_cons.2 ⟨?_, List.forall_mem_nil _⟩
  all_goals
    intro δ hf
  all_goals
    simp only [FT, TP, SB.tp, SI.tv, sta, IB.eval, and_true, true_and, ObsT, Ob.Tv, rowT, kix, In.tiv, ↓tbvT, In.tbv, get_cons, get_nil, reduceIte, Nat.reduceEqDiff, Int.reduceToNat, Int.reduceAdd, Int.reduceSub, Int.reduceLE, Int.reduceLT, Int.reduceEq, ne_eq, Bool.false_eq_true, not_true_eq_false, not_false_eq_true, true_iff, false_iff, iff_true, iff_false, false_implies, implies_true, decT, decide_true, decide_false, Bool.decide_eq_true, ap2, pb2, FI_3, FI_8, FI_9, FI_10, FI_11, FI_12, FI_13, FB_10, FB_11, FB_12, FB_13, FB_14, FB_15, FB_16] at hf
  all_goals
    have a0 := ha.1 0 (by omega)
    have a1 := ha.1 1 (by omega)
    have a2 := ha.1 2 (by omega)
    have a3 := ha.1 3 (by omega)
  all_goals
    have b1 := hin 1 0 9223372036854775807 (by simp [rTog, bM, fM, gM, lM])
    simp only [Int.reduceLE, reduceIte, Int.reduceNeg] at b1
  all_goals
    simp only [FT, TP, SB.tp, SI.tv, sta, IB.eval, and_true, true_and, ObsT, Ob.Tv, rowT, kix, In.tiv, ↓tbvT, In.tbv, get_cons, get_nil, reduceIte, Nat.reduceEqDiff, Int.reduceToNat, Int.reduceAdd, Int.reduceSub, Int.reduceLE, Int.reduceLT, Int.reduceEq, ne_eq, Bool.false_eq_true, not_true_eq_false, not_false_eq_true, true_iff, false_iff, iff_true, iff_false, false_implies, implies_true, decT, decide_true, decide_false, Bool.decide_eq_true, ap2, pb2, FI_3, FI_8, FI_9, FI_10, FI_11, FI_12, FI_13, FB_10, FB_11, FB_12, FB_13, FB_14, FB_15, FB_16, rTog_inv, rTog_mu, rTog, o1, othT, bM, fM, gM, lM, a0, a1, a2, a3] at hf hi ⊢
  all_goals
    (repeat' (with_reducible apply And.intro)) <;> first
    | omega
    | assumption
    | (unfold inM; omega)
    | exact fun j hj => by omega
set_option maxHeartbeats 0 in
theorem rTog_o1 (kv : Kv) (iv0 : Nat → Int) (bv0 : Nat → Bool) (hin : InB rTog.B iv0) (hF : FT (sta FI FB kv iv0 bv0) (dlt dyn0) rTog.F) (iv : Nat → Int) (bv : Nat → Bool) (ha : Agr 4 iv0 bv0 iv bv) (hi : rTog_inv iv0 bv0 1 iv bv) :
    ∀ lf ∈ rTog_L1, LfT (sta FI FB kv) rTog.os (rTog_inv iv0 bv0) (rTog_mu iv0 bv0) 1 iv bv lf := by
  unfold rTog_L1
  refine List.forall_mem_cons.2 ⟨?_, List.forall_mem_cons.2 ⟨?_, List.forall_mem_nil _⟩⟩
  all_goals
    intro δ hf
  all_goals
    simp only [FT, TP, SB.tp, SI.tv, sta, IB.eval, and_true, true_and, ObsT, Ob.Tv, rowT, kix, In.tiv, ↓tbvT, In.tbv, get_cons, get_nil, reduceIte, Nat.reduceEqDiff, Int.reduceToNat, Int.reduceAdd, Int.reduceSub, Int.reduceLE, Int.reduceLT, Int.reduceEq, ne_eq, Bool.false_eq_true, not_true_eq_false, not_false_eq_true, true_iff, false_iff, iff_true, iff_false, false_implies, implies_true, decT, decide_true, decide_false, Bool.decide_eq_true, ap2, pb2, FI_3, FI_8, FI_9, FI_10, FI_11, FI_12, FI_13, FB_10, FB_11, FB_12, FB_13, FB_14, FB_15, FB_16] at hf
  all_goals
    have a0 := ha.1 0 (by omega)
    have a1 := ha.1 1 (by omega)
    have a2 := ha.1 2 (by omega)
    have a3 := ha.1 3 (by omega)
  all_goals
    have b1 := hin 1 0 9223372036854775807 (by simp [rTog, bM, fM, gM, lM])
    simp only [Int.reduceLE, reduceIte, Int.reduceNeg] at b1
  all_goals
    simp only [FT, TP, SB.tp, SI.tv, sta, IB.eval, and_true, true_and, ObsT, Ob.Tv, rowT, kix, In.tiv, ↓tbvT, In.tbv, get_cons, get_nil, reduceIte, Nat.reduceEqDiff, Int.reduceToNat, Int.reduceAdd, Int.reduceSub, Int.reduceLE, Int.reduceLT, Int.reduceEq, ne_eq, Bool.false_eq_true, not_true_eq_false, not_false_eq_true, true_iff, false_iff, iff_true, iff_false, false_implies, implies_true, decT, decide_true, decide_false, Bool.decide_eq_true, ap2, pb2, FI_3, FI_8, FI_9, FI_10, FI_11, FI_12, FI_13, FB_10, FB_11, FB_12, FB_13, FB_14, FB_15, FB_16, rTog_inv, rTog_mu, rTog, o1, othT, bM, fM, gM, lM, a0, a1, a2, a3] at hf hi ⊢
  all_goals
    (repeat' (with_reducible apply And.intro)) <;> first
    | omega
    | assumption
    | (unfold inM; omega)
    | exact fun j hj => by omega
    | exact hi.2
    | exact fun j hj => hi.2 j (by omega)
set_option maxHeartbeats 0 in
theorem rTog_o2 (kv : Kv) (iv0 : Nat → Int) (bv0 : Nat → Bool) (hin : InB rTog.B iv0) (hF : FT (sta FI FB kv iv0 bv0) (dlt dyn0) rTog.F) (iv : Nat → Int) (bv : Nat → Bool) (ha : Agr 4 iv0 bv0 iv bv) (hi : rTog_inv iv0 bv0 2 iv bv) :
    ∀ lf ∈ rTog_L2, LfT (sta FI FB kv) rTog.os (rTog_inv iv0 bv0) (rTog_mu iv0 bv0) 2 iv bv lf := by
  unfold rTog_L2
  refine List.forall_mem_cons.2 ⟨?_, List.forall_mem_cons.2 ⟨?_, List.forall_mem_cons.2 ⟨?_, List.forall_mem_nil _⟩⟩⟩
  all_goals
    intro δ hf
  all_goals
    simp only [FT, TP, SB.tp, SI.tv, sta, IB.eval, and_true, true_and, ObsT, Ob.Tv, rowT, kix, In.tiv, ↓tbvT, In.tbv, get_cons, get_nil, reduceIte, Nat.reduceEqDiff, Int.reduceToNat, Int.reduceAdd, Int.reduceSub, Int.reduceLE, Int.reduceLT, Int.reduceEq, ne_eq, Bool.false_eq_true, not_true_eq_false, not_false_eq_true, true_iff, false_iff, iff_true, iff_false, false_implies, implies_true, decT, decide_true, decide_false, Bool.decide_eq_true, ap2, pb2, FI_3, FI_8, FI_9, FI_10, FI_11, FI_12, FI_13, FB_10, FB_11, FB_12, FB_13, FB_14, FB_15, FB_16] at hf
  all_goals
    have a0 := ha.1 0 (by omega)
    have a1 := ha.1 1 (by omega)
    have a2 := ha.1 2 (by omega)
    have a3 := ha.1 3 (by omega)
  all_goals
    have b1 := hin 1 0 9223372036854775807 (by simp [rTog, bM, fM, gM, lM])
    simp only [Int.reduceLE, reduceIte, Int.reduceNeg] at b1
  all_goals
    simp only [FT, TP, SB.tp, SI.tv, sta, IB.eval, and_true, true_and, ObsT, Ob.Tv, rowT, kix, In.tiv, ↓tbvT, In.tbv, get_cons, get_nil, reduceIte, Nat.reduceEqDiff, Int.reduceToNat, Int.reduceAdd, Int.reduceSub, Int.reduceLE, Int.reduceLT, Int.reduceEq, ne_eq, Bool.false_eq_true, not_true_eq_false, not_false_eq_true, true_iff, false_iff, iff_true, iff_false, false_implies, implies_true, decT, decide_true, decide_false, Bool.decide_eq_true, ap2, pb2, FI_3, FI_8, FI_9, FI_10, FI_11, FI_12, FI_13, FB_10, FB_11, FB_12, FB_13, FB_14, FB_15, FB_16, rTog_inv, rTog_mu, rTog, o1, othT, bM, fM, gM, lM, a0, a1, a2, a3] at hf hi ⊢
  all_goals
    (repeat' (with_reducible apply And.intro)) <;> first
    | omega
    | assumption
    | (unfold inM; omega)
    | exact hi.2.1
    | exact all_succ hi.2.2.1 hi.2.2.2 hf.1
    | exact fun h => hf.1 (h (iv 24).toNat (by omega) (iv 25).toNat (by omega))
    | exact all_succ hi.1 hi.2.1 (fun j hj => hi.2.2.2 j (by omega))
set_option maxRecDepth 100000 in
theorem rTog_c : LsC ((tm0 rTog Try.f31 (Try.f31.body.getD .skip)) :: [rTog_T1, rTog_T2]) rTog.os [rTog_L0, rTog_L1, rTog_L2] := by
  unfold rTog_L0 rTog_L1 rTog_L2
  exact ⟨List.forall_mem_cons.2 ⟨⟨⟨_, rfl, rfl⟩, by kernel_rfl⟩, List.forall_mem_nil _⟩, List.forall_mem_cons.2 ⟨⟨⟨_, rfl, rfl⟩, by kernel_rfl⟩, List.forall_mem_cons.2 ⟨⟨⟨_, rfl, rfl⟩, by kernel_rfl⟩, List.forall_mem_nil _⟩⟩, List.forall_mem_cons.2 ⟨⟨⟨_, rfl, rfl⟩, by kernel_rfl⟩, List.forall_mem_cons.2 ⟨⟨⟨_, rfl, rfl⟩, by kernel_rfl⟩, List.forall_mem_cons.2 ⟨⟨⟨_, rfl, rfl⟩, by kernel_rfl⟩, List.forall_mem_nil _⟩⟩⟩, trivial⟩
theorem rTog_ok : rTog.Ok Try.prog FI FB :=
  Con.of_plain (body := Try.f31.body.getD .skip) pok fiok (EntsFor.cons rFits_ok EntsFor.nil) rTog Try.func31 (by kernel_rfl) 4 [rTog_T1, rTog_T2] (by kernel_rfl) [rTog_L0, rTog_L1, rTog_L2] ⟨rTog_h0, rTog_h1, rTog_h2, trivial⟩ rTog_c
    rTog_inv rTog_mu (fun _ _ _ => trivial) fun kv iv0 bv0 hin hF k l iv bv hk ha hi => match k, hk, hi with
    | 0, hk, hi => by
      cases hk
      exact rTog_o0 kv iv0 bv0 hin hF iv bv ha hi
    | 1, hk, hi => by
      cases hk
      exact rTog_o1 kv iv0 bv0 hin hF iv bv ha hi
    | 2, hk, hi => by
      cases hk
      exact rTog_o2 kv iv0 bv0 hin hF iv bv ha hi
    | k + 3, hk, _ => by simp at hk
noncomputable def eTog_T1 : Tm := ⟨⟨28, 28, [(10, (.it .i64 (.v 24))), (9, (.it .i64 (.v 1))), (8, (.sl (.k 0) (.v 2) (.v 1) (.v 3))), (4, (.bo (.v 27))), (0, (.sl (.k 0) (.v 2) (.v 1) (.v 3)))], [(.code (atC Try.f28 [1, 1, 0, 1, 0, 0])), (.inLoop (atC Try.f28 [1, 1, 0, 1, 0, 0])), (.inBlock 0), (.code (atC Try.f28 [1, 1, 1]))], [], .none⟩, [],
    ⟨[], 0, 0, 0, [((.le (.v 1) (.v 3)), .true), ((.le (.c 0) (.v 3)), .true)], [1, 0], [(1, (0, 9223372036854775807)), (2, (0, (-1))), (24, (0, (-1)))]⟩, [27, 24]⟩
noncomputable def eTog_T2 : Tm := ⟨⟨154, 16, [(7, (.it .i64 (.v 28))), (6, (.it .i64 (.v 24))), (5, (.sl (.k 0) (.v 2) (.v 24) (.v 3))), (0, (.yl 5))], [(.code (atC Try.f154 [1, 0, 0])), (.inLoop (atC Try.f154 [1, 0, 0])), (.inBlock 0)], [], .none⟩, [⟨93, 16, [(3, (.pt (.n 1) (.c 0)))], [(.inRangeFunc 5), (.inBlock 0), (.code (atC Try.f93 [1, 1]))], [4], .none⟩, ⟨28, 28, [(24, (.fn 94 [] [(.pt (.n 0) (.c 0))])), (23, (.sl (.k 0) (.v 2) (.v 24) (.v 3))), (20, (.bo (.v 27))), (10, (.it .i64 (.v 24))), (9, (.it .i64 (.v 1))), (8, (.sl (.k 0) (.v 2) (.v 1) (.v 3))), (0, (.sl (.k 0) (.v 2) (.v 1) (.v 3)))], [(.inRegion (opsC (atC Try.f28 [1, 1, 0, 1, 0, 0, 1, 1, 0, 0, 1, 1])) [5, 6]), (.inBlock 1), (.code (atC Try.f28 [1, 1, 0, 1, 0, 0, 1, 1, 1])), (.inLoop (atC Try.f28 [1, 1, 0, 1, 0, 0])), (.inBlock 0), (.code (atC Try.f28 [1, 1, 1]))], [], .none⟩],
    ⟨[(0, (.cells [(.it .i64 (.ap 3 (.v 0) (.v 24) (.c 0) (.c 0) (.c 0) (.c 0)))] 22)), (1, (.cells [(.bo (.v 29))] 4)), (2, (.cells [(.fn 94 [] [(.pt (.n 0) (.c 0))])] 131)), (4, .dfr), (5, (.loop .ready .none 93 16 [(5, (.pt (.n 2) (.c 0))), (3, (.pt (.n 1) (.c 0)))] #[10] (atC Try.f93 [1, 0, 1, 0, 0]) (atC Try.f93 [1, 0, 1, 0, 1]) 4))], 6, 0, 0, [((.lt (.ap 3 (.v 0) (.v 24) (.c 0) (.c 0) (.c 0) (.c 0)) (.c 6)), .true), ((.le (.c 0) (.ap 3 (.v 0) (.v 24) (.c 0) (.c 0) (.c 0) (.c 0))), .true), ((.lt (.v 24) (.v 1)), .true), ((.le (.v 1) (.v 3)), .true), ((.le (.c 0) (.v 3)), .true)], [1, 0], [(1, (1, 9223372036854775807)), (24, (0, 9223372036854775806)), (2, (0, (-1))), (28, (0, (-1)))]⟩, [28, 29]⟩
noncomputable def eTog_L0 : List Lf :=
  [(.cut [((.le (.v 1) (.v 3)), .true), ((.le (.c 0) (.v 3)), .true)] 1 ⟨⟨[(24, (.c 0))], [(27, (.c .true))]⟩, [], [], []⟩ [] (shT eTog_T1 ⟨⟨[(24, (.c 0))], [(27, (.c .true))]⟩, [], [], []⟩))]
noncomputable def eTog_L1 : List Lf :=
  [(.cut [((.lt (.ap 3 (.v 0) (.v 24) (.c 0) (.c 0) (.c 0) (.c 0)) (.c 6)), .true), ((.le (.c 0) (.ap 3 (.v 0) (.v 24) (.c 0) (.c 0) (.c 0) (.c 0))), .true), ((.lt (.v 24) (.v 1)), .true), ((.le (.v 1) (.v 3)), .true), ((.le (.c 0) (.v 3)), .true)] 2 ⟨⟨[(28, (.c 0))], [(29, (.v 27))]⟩, [(2, 2), (0, 0), (4, 4), (1, 1), (5, 5)], [], []⟩ [] (shT eTog_T2 ⟨⟨[(28, (.c 0))], [(29, (.v 27))]⟩, [(2, 2), (0, 0), (4, 4), (1, 1), (5, 5)], [], []⟩)), (.fin [((.lt (.ap 3 (.v 0) (.v 24) (.c 0) (.c 0) (.c 0) (.c 0)) (.c 6)), .false), ((.le (.c 0) (.ap 3 (.v 0) (.v 24) (.c 0) (.c 0) (.c 0) (.c 0))), .true), ((.lt (.v 24) (.v 1)), .true), ((.le (.v 1) (.v 3)), .true), ((.le (.c 0) (.v 3)), .true)] 0 ⟨⟨[], []⟩, [], [], []⟩ [(.eb (.ap 14 (.v 0) (.v 1) (.c 0) (.c 0) (.c 0) (.c 0)) (.c .false)), (.ei (.ap 12 (.v 0) (.v 1) (.c 0) (.c 0) (.c 0) (.c 0)) (.c 130))] []), (.fin [((.le (.c 0) (.ap 3 (.v 0) (.v 24) (.c 0) (.c 0) (.c 0) (.c 0))), .false), ((.lt (.v 24) (.v 1)), .true), ((.le (.v 1) (.v 3)), .true), ((.le (.c 0) (.v 3)), .true)] 0 ⟨⟨[], []⟩, [], [], []⟩ [(.eb (.ap 14 (.v 0) (.v 1) (.c 0) (.c 0) (.c 0) (.c 0)) (.c .false)), (.ei (.ap 12 (.v 0) (.v 1) (.c 0) (.c 0) (.c 0) (.c 0)) (.c 130))] []), (.fin [((.lt (.v 24) (.v 1)), .false), ((.le (.v 1) (.v 3)), .true), ((.le (.c 0) (.v 3)), .true)] 0 ⟨⟨[], []⟩, [], [], []⟩ [(.eb (.ap 14 (.v 0) (.v 1) (.c 0) (.c 0) (.c 0) (.c 0)) (.v 27)), (.ei (.ap 12 (.v 0) (.v 1) (.c 0) (.c 0) (.c 0) (.c 0)) (.c 0))] [])]
noncomputable def eTog_L2 : List Lf :=
  [(.cut [((.v 29), .true), ((.lt (.v 28) (.v 24)), .true), ((.lt (.ap 3 (.v 0) (.v 24) (.c 0) (.c 0) (.c 0) (.c 0)) (.c 6)), .true), ((.le (.c 0) (.ap 3 (.v 0) (.v 24) (.c 0) (.c 0) (.c 0) (.c 0))), .true), ((.lt (.v 24) (.v 1)), .true), ((.le (.v 1) (.v 3)), .true), ((.le (.c 0) (.v 3)), .true)] 2 ⟨⟨[(28, (.op .add (.v 28) (.c 1)))], [(29, (.ap 10 (.ap 3 (.v 0) (.v 24) (.c 0) (.c 0) (.c 0) (.c 0)) (.ap 3 (.v 0) (.v 28) (.c 0) (.c 0) (.c 0) (.c 0)) (.c 0) (.c 0) (.c 0) (.c 0)))]⟩, [(2, 2), (0, 0), (4, 4), (1, 1), (5, 5)], [], []⟩ [] (shT eTog_T2 ⟨⟨[(28, (.op .add (.v 28) (.c 1)))], [(29, (.ap 10 (.ap 3 (.v 0) (.v 24) (.c 0) (.c 0) (.c 0) (.c 0)) (.ap 3 (.v 0) (.v 28) (.c 0) (.c 0) (.c 0) (.c 0)) (.c 0) (.c 0) (.c 0) (.c 0)))]⟩, [(2, 2), (0, 0), (4, 4), (1, 1), (5, 5)], [], []⟩)), (.cut [((.v 29), .false), ((.lt (.v 28) (.v 24)), .true), ((.lt (.ap 3 (.v 0) (.v 24) (.c 0) (.c 0) (.c 0) (.c 0)) (.c 6)), .true), ((.le (.c 0) (.ap 3 (.v 0) (.v 24) (.c 0) (.c 0) (.c 0) (.c 0))), .true), ((.lt (.v 24) (.v 1)), .true), ((.le (.v 1) (.v 3)), .true), ((.le (.c 0) (.v 3)), .true)] 2 ⟨⟨[(28, (.op .add (.v 28) (.c 1)))], [(29, (.c .false))]⟩, [(2, 2), (0, 0), (4, 4), (1, 1), (5, 5)], [], []⟩ [] (shT eTog_T2 ⟨⟨[(28, (.op .add (.v 28) (.c 1)))], [(29, (.c .false))]⟩, [(2, 2), (0, 0), (4, 4), (1, 1), (5, 5)], [], []⟩)), (.cut [((.lt (.v 28) (.v 24)), .false), ((.lt (.ap 3 (.v 0) (.v 24) (.c 0) (.c 0) (.c 0) (.c 0)) (.c 6)), .true), ((.le (.c 0) (.ap 3 (.v 0) (.v 24) (.c 0) (.c 0) (.c 0) (.c 0))), .true), ((.lt (.v 24) (.v 1)), .true), ((.le (.v 1) (.v 3)), .true), ((.le (.c 0) (.v 3)), .true)] 1 ⟨⟨[(24, (.op .add (.v 24) (.c 1)))], [(27, (.v 29))]⟩, [], [], []⟩ [] (shT eTog_T1 ⟨⟨[(24, (.op .add (.v 24) (.c 1)))], [(27, (.v 29))]⟩, [], [], []⟩))]
set_option maxRecDepth 100000 in
theorem eTog_h0 : (ex (ccOf Try.prog BF [58, 84] eTog) ((fun cc => [eFits.ent cc]) (ccOf Try.prog BF [58, 84] eTog)) (dw (ccOf Try.prog BF [58, 84] eTog) ((fun cc => [eFits.ent cc]) (ccOf Try.prog BF [58, 84] eTog)) 1000 4) (stopX []) 4000 (tm0 eTog Try.f28 (Try.f28.body.getD .skip)).f (tm0 eTog Try.f28 (Try.f28.body.getD .skip)).fs (tm0 eTog Try.f28 (Try.f28.body.getD .skip)).H).lfs (ccOf Try.prog BF [58, 84] eTog) ((tm0 eTog Try.f28 (Try.f28.body.getD .skip)) :: [eTog_T1, eTog_T2]) eTog.os = some eTog_L0 := by kernel_rfl
set_option maxRecDepth 100000 in
theorem eTog_h1 : (ex (ccOf Try.prog BF [58, 84] eTog) ((fun cc => [eFits.ent cc]) (ccOf Try.prog BF [58, 84] eTog)) (dw (ccOf Try.prog BF [58, 84] eTog) ((fun cc => [eFits.ent cc]) (ccOf Try.prog BF [58, 84] eTog)) 1000 4) (stopX []) 4000 eTog_T1.f eTog_T1.fs eTog_T1.H).lfs (ccOf Try.prog BF [58, 84] eTog) ((tm0 eTog Try.f28 (Try.f28.body.getD .skip)) :: [eTog_T1, eTog_T2]) eTog.os = some eTog_L1 := by kernel_rfl
set_option maxRecDepth 100000 in
theorem eTog_h2 : (ex (ccOf Try.prog BF [58, 84] eTog) ((fun cc => [eFits.ent cc]) (ccOf Try.prog BF [58, 84] eTog)) (dw (ccOf Try.prog BF [58, 84] eTog) ((fun cc => [eFits.ent cc]) (ccOf Try.prog BF [58, 84] eTog)) 1000 4) (stopX []) 4000 eTog_T2.f eTog_T2.fs eTog_T2.H).lfs (ccOf Try.prog BF [58, 84] eTog) ((tm0 eTog Try.f28 (Try.f28.body.getD .skip)) :: [eTog_T1, eTog_T2]) eTog.os = some eTog_L2 := by kernel_rfl
def eTog_inv : (Nat → Int) → (Nat → Bool) → Nat → (Nat → Int) → (Nat → Bool) → Prop := fun iv0 _ k iv bv => match k with
  | 0 => True
  | 1 => (0 ≤ iv 24 ∧ iv 24 ≤ iv0 1) ∧ allM (iv0 0) (iv 24) ∧ (bv 27 = true ↔ togA (iv0 0) (iv 24))
  | _ => 0 ≤ iv 24 ∧ allM (iv0 0) (iv 24) ∧ (bv 27 = true ↔ togA (iv0 0) (iv 24)) ∧ (0 ≤ iv 28 ∧ iv 28 ≤ iv 24) ∧ (bv 29 = true ↔ (bv 27 = true ∧ fitA (fl (iv0 0) (iv 24).toNat 0) (iv0 0) (iv 28)))
def eTog_mu : (Nat → Int) → (Nat → Bool) → Nat → (Nat → Int) → (Nat → Bool) → Nat := fun iv0 _ k iv _ => match k with
  | 0 => 2 ^ 200 | 1 => (iv0 1 - iv 24).toNat * 2 ^ 70 + 2 ^ 69
  | _ => (iv0 1 - iv 24).toNat * 2 ^ 70 + (iv 24 - iv 28).toNat
set_option maxHeartbeats 0 in
theorem eTog_o0 (kv : Kv) (iv0 : Nat → Int) (bv0 : Nat → Bool) (hin : InB eTog.B iv0) (hF : FT (sta FI FB kv iv0 bv0) (dlt dyn0) eTog.F) (iv : Nat → Int) (bv : Nat → Bool) (ha : Agr 4 iv0 bv0 iv bv) (hi : eTog_inv iv0 bv0 0 iv bv) :
    ∀ lf ∈ eTog_L0, LfT (sta FI FB kv) eTog.os (eTog_inv iv0 bv0) (eTog_mu iv0 bv0) 0 iv bv lf := by
  unfold eTog_L0
  refine List.forall_mem_cons.2 ⟨?_, List.forall_mem_nil _⟩
  all_goals
    intro δ hf
  all_goals
    simp only [FT, TP, SB.tp, SI.tv, sta, IB.eval, and_true, true_and, ObsT, Ob.Tv, rowT, kix, In.tiv, ↓tbvT, In.tbv, get_cons, get_nil, reduceIte, Nat.reduceEqDiff, Int.reduceToNat, Int.reduceAdd, Int.reduceSub, Int.reduceLE, Int.reduceLT, Int.reduceEq, ne_eq, Bool.false_eq_true, not_true_eq_false, not_false_eq_true, true_iff, false_iff, iff_true, iff_false, false_implies, implies_true, decT, decide_true, decide_false, Bool.decide_eq_true, ap2, pb2, FI_3, FI_8, FI_9, FI_10, FI_11, FI_12, FI_13, FB_10, FB_11, FB_12, FB_13, FB_14, FB_15, FB_16] at hf
  all_goals
    have a0 := ha.1 0 (by omega)
    have a1 := ha.1 1 (by omega)
    have a2 := ha.1 2 (by omega)
    have a3 := ha.1 3 (by omega)
  all_goals
    have b1 := hin 1 0 9223372036854775807 (by simp [eTog, bM, fM, gM, lM])
    simp only [Int.reduceLE, reduceIte, Int.reduceNeg] at b1
  all_goals
    simp only [FT, TP, SB.tp, SI.tv, sta, IB.eval, and_true, true_and, ObsT, Ob.Tv, rowT, kix, In.tiv, ↓tbvT, In.tbv, get_cons, get_nil, reduceIte, Nat.reduceEqDiff, Int.reduceToNat, Int.reduceAdd, Int.reduceSub, Int.reduceLE, Int.reduceLT, Int.reduceEq, ne_eq, Bool.false_eq_true, not_true_eq_false, not_false_eq_true, true_iff, false_iff, iff_true, iff_false, false_implies, implies_true, decT, decide_true, decide_false, Bool.decide_eq_true, ap2, pb2, FI_3, FI_8, FI_9, FI_10, FI_11, FI_12, FI_13, FB_10, FB_11, FB_12, FB_13, FB_14, FB_15, FB_16, eTog_inv, eTog_mu, eTog, o1, othT, bM, fM, gM, lM, a0, a1, a2, a3] at hf hi ⊢
  all_goals
    (repeat' (with_reducible apply And.intro)) <;> first
    | omega
    | assumption
    | (unfold inM; omega)
    | exact fun j hj => by omega
set_option maxHeartbeats 0 in
theorem eTog_o1 (kv : Kv) (iv0 : Nat → Int) (bv0 : Nat → Bool) (hin : InB eTog.B iv0) (hF : FT (sta FI FB kv iv0 bv0) (dlt dyn0) eTog.F) (iv : Nat → Int) (bv : Nat → Bool) (ha : Agr 4 iv0 bv0 iv bv) (hi : eTog_inv iv0 bv0 1 iv bv) :
    ∀ lf ∈ eTog_L1, LfT (sta FI FB kv) eTog.os (eTog_inv iv0 bv0) (eTog_mu iv0 bv0) 1 iv bv lf := by
  unfold eTog_L1
  refine List.forall_mem_cons.2 ⟨?_, List.forall_mem_cons.2 ⟨?_, List.forall_mem_cons.2 ⟨?_, List.forall_mem_cons.2 ⟨?_, List.forall_mem_nil _⟩⟩⟩⟩
  all_goals
    intro δ hf
  all_goals
    simp only [FT, TP, SB.tp, SI.tv, sta, IB.eval, and_true, true_and, ObsT, Ob.Tv, rowT, kix, In.tiv, ↓tbvT, In.tbv, get_cons, get_nil, reduceIte, Nat.reduceEqDiff, Int.reduceToNat, Int.reduceAdd, Int.reduceSub, Int.reduceLE, Int.reduceLT, Int.reduceEq, ne_eq, Bool.false_eq_true, not_true_eq_false, not_false_eq_true, true_iff, false_iff, iff_true, iff_false, false_implies, implies_true, decT, decide_true, decide_false, Bool.decide_eq_true, ap2, pb2, FI_3, FI_8, FI_9, FI_10, FI_11, FI_12, FI_13, FB_10, FB_11, FB_12, FB_13, FB_14, FB_15, FB_16] at hf
  all_goals
    have a0 := ha.1 0 (by omega)
    have a1 := ha.1 1 (by omega)
    have a2 := ha.1 2 (by omega)
    have a3 := ha.1 3 (by omega)
  all_goals
    have b1 := hin 1 0 9223372036854775807 (by simp [eTog, bM, fM, gM, lM])
    simp only [Int.reduceLE, reduceIte, Int.reduceNeg] at b1
  all_goals
    simp only [FT, TP, SB.tp, SI.tv, sta, IB.eval, and_true, true_and, ObsT, Ob.Tv, rowT, kix, In.tiv, ↓tbvT, In.tbv, get_cons, get_nil, reduceIte, Nat.reduceEqDiff, Int.reduceToNat, Int.reduceAdd, Int.reduceSub, Int.reduceLE, Int.reduceLT, Int.reduceEq, ne_eq, Bool.false_eq_true, not_true_eq_false, not_false_eq_true, true_iff, false_iff, iff_true, iff_false, false_implies, implies_true, decT, decide_true, decide_false, Bool.decide_eq_true, ap2, pb2, FI_3, FI_8, FI_9, FI_10, FI_11, FI_12, FI_13, FB_10, FB_11, FB_12, FB_13, FB_14, FB_15, FB_16, eTog_inv, eTog_mu, eTog, o1, othT, bM, fM, gM, lM, a0, a1, a2, a3] at hf hi ⊢
  all_goals
    (repeat' (with_reducible apply And.intro)) <;> first
    | omega
    | assumption
    | (unfold inM; omega)
    | exact hi.2.1
    | exact hi.2.2
    | exact fun h => absurd (h.1 (iv 24).toNat (by omega)) (by unfold inM; omega)
    | exact ⟨fun h => ⟨h, fun j hj => by omega⟩, fun h => h.1⟩
    | exact if_pos fun j hj => hi.2.1 j (by omega)
    | exact if_neg fun h => absurd (h (iv 24).toNat (by omega)) (by unfold inM; omega)
    | exact Eq.symm (if_pos fun j hj => hi.2.1 j (by omega))
    | exact Eq.symm (if_neg fun h => absurd (h (iv 24).toNat (by omega)) (by unfold inM; omega))
    | exact Iff.symm ⟨fun h => ⟨fun j hj => hi.2.1 j (by omega), fun j hj => hi.2.2.1 h j (by omega)⟩, fun h => hi.2.2.2 fun j hj => h.2 j (by omega)⟩
set_option maxHeartbeats 0 in
theorem eTog_o2 (kv : Kv) (iv0 : Nat → Int) (bv0 : Nat → Bool) (hin : InB eTog.B iv0) (hF : FT (sta FI FB kv iv0 bv0) (dlt dyn0) eTog.F) (iv : Nat → Int) (bv : Nat → Bool) (ha : Agr 4 iv0 bv0 iv bv) (hi : eTog_inv iv0 bv0 2 iv bv) :
    ∀ lf ∈ eTog_L2, LfT (sta FI FB kv) eTog.os (eTog_inv iv0 bv0) (eTog_mu iv0 bv0) 2 iv bv lf := by
  unfold eTog_L2
  refine List.forall_mem_cons.2 ⟨?_, List.forall_mem_cons.2 ⟨?_, List.forall_mem_cons.2 ⟨?_, List.forall_mem_nil _⟩⟩⟩
  all_goals
    intro δ hf
  all_goals
    simp only [FT, TP, SB.tp, SI.tv, sta, IB.eval, and_true, true_and, ObsT, Ob.Tv, rowT, kix, In.tiv, ↓tbvT, In.tbv, get_cons, get_nil, reduceIte, Nat.reduceEqDiff, Int.reduceToNat, Int.reduceAdd, Int.reduceSub, Int.reduceLE, Int.reduceLT, Int.reduceEq, ne_eq, Bool.false_eq_true, not_true_eq_false, not_false_eq_true, true_iff, false_iff, iff_true, iff_false, false_implies, implies_true, decT, decide_true, decide_false, Bool.decide_eq_true, ap2, pb2, FI_3, FI_8, FI_9, FI_10, FI_11, FI_12, FI_13, FB_10, FB_11, FB_12, FB_13, FB_14, FB_15, FB_16] at hf
  all_goals
    have a0 := ha.1 0 (by omega)
    have a1 := ha.1 1 (by omega)
    have a2 := ha.1 2 (by omega)
    have a3 := ha.1 3 (by omega)
  all_goals
    have b1 := hin 1 0 9223372036854775807 (by simp [eTog, bM, fM, gM, lM])
    simp only [Int.reduceLE, reduceIte, Int.reduceNeg] at b1
  all_goals
    simp only [FT, TP, SB.tp, SI.tv, sta, IB.eval, and_true, true_and, ObsT, Ob.Tv, rowT, kix, In.tiv, ↓tbvT, In.tbv, get_cons, get_nil, reduceIte, Nat.reduceEqDiff, Int.reduceToNat, Int.reduceAdd, Int.reduceSub, Int.reduceLE, Int.reduceLT, Int.reduceEq, ne_eq, Bool.false_eq_true, not_true_eq_false, not_false_eq_true, true_iff, false_iff, iff_true, iff_false, false_implies, implies_true, decT, decide_true, decide_false, Bool.decide_eq_true, ap2, pb2, FI_3, FI_8, FI_9, FI_10, FI_11, FI_12, FI_13, FB_10, FB_11, FB_12, FB_13, FB_14, FB_15, FB_16, eTog_inv, eTog_mu, eTog, o1, othT, bM, fM, gM, lM, a0, a1, a2, a3] at hf hi ⊢
  all_goals
    (repeat' (with_reducible apply And.intro)) <;> first
    | omega
    | assumption
    | (unfold inM; omega)
    | exact hi.2.1
    | exact hi.2.2.1
    | exact all_succ hi.1 hi.2.1 (by unfold inM; omega)
    | (refine ⟨fun h => ⟨(hi.2.2.2.2.1 hf.1).1, all_succ hi.2.2.2.1.1 (hi.2.2.2.2.1 hf.1).2 h.2.2⟩, fun h => ⟨by unfold inM; omega, hi.2.1 (iv 28).toNat (by omega), h.2 (iv 28).toNat (by omega)⟩⟩)
    | (refine fun h => hf.1 (hi.2.2.2.2.2 ⟨h.1, fun j hj => h.2 j (by omega)⟩))
    | exact ⟨fun h => all_succ hi.1 (hi.2.2.1.1 (hi.2.2.2.2.1 h).1) (fun j hj => (hi.2.2.2.2.1 h).2 j (by omega)), fun h => hi.2.2.2.2.2 ⟨hi.2.2.1.2 fun j hj => h j (by omega), fun j hj => h (iv 24).toNat (by omega) j (by omega)⟩⟩
set_option maxRecDepth 100000 in
theorem eTog_c : LsC ((tm0 eTog Try.f28 (Try.f28.body.getD .skip)) :: [eTog_T1, eTog_T2]) eTog.os [eTog_L0, eTog_L1, eTog_L2] := by
  unfold eTog_L0 eTog_L1 eTog_L2
  exact ⟨List.forall_mem_cons.2 ⟨⟨⟨_, rfl, rfl⟩, by kernel_rfl⟩, List.forall_mem_nil _⟩, List.forall_mem_cons.2 ⟨⟨⟨_, rfl, rfl⟩, by kernel_rfl⟩, List.forall_mem_cons.2 ⟨⟨⟨_, rfl, rfl⟩, by kernel_rfl⟩, List.forall_mem_cons.2 ⟨⟨⟨_, rfl, rfl⟩, by kernel_rfl⟩, List.forall_mem_cons.2 ⟨⟨⟨_, rfl, rfl⟩, by kernel_rfl⟩, List.forall_mem_nil _⟩⟩⟩⟩, List.forall_mem_cons.2 ⟨⟨⟨_, rfl, rfl⟩, by kernel_rfl⟩, List.forall_mem_cons.2 ⟨⟨⟨_, rfl, rfl⟩, by kernel_rfl⟩, List.forall_mem_cons.2 ⟨⟨⟨_, rfl, rfl⟩, by kernel_rfl⟩, List.forall_mem_nil _⟩⟩⟩, trivial⟩
theorem eTog_ok : eTog.Ok Try.prog FI FB :=
  Con.of_plain (body := Try.f28.body.getD .skip) pok fiok (EntsFor.cons eFits_ok EntsFor.nil) eTog Try.func28 (by kernel_rfl) 4 [eTog_T1, eTog_T2] (by kernel_rfl) [eTog_L0, eTog_L1, eTog_L2] ⟨eTog_h0, eTog_h1, eTog_h2, trivial⟩ eTog_c
    eTog_inv eTog_mu (fun _ _ _ => trivial) fun kv iv0 bv0 hin hF k l iv bv hk ha hi => match k, hk, hi with
    | 0, hk, hi => by
      cases hk
      exact eTog_o0 kv iv0 bv0 hin hF iv bv ha hi
    | 1, hk, hi => by
      cases hk
      exact eTog_o1 kv iv0 bv0 hin hF iv bv ha hi
    | 2, hk, hi => by
      cases hk
      exact eTog_o2 kv iv0 bv0 hin hF iv bv ha hi
    | k + 3, hk, _ => by simp at hk
noncomputable def rJoin_T1 : Tm := ⟨⟨30, 27, [(3, (.it .i64 (.v 26))), (0, (.sl (.k 0) (.v 2) (.v 1) (.v 3)))], [(.code (atC Try.f30 [1, 0, 1, 0, 0])), (.inLoop (atC Try.f30 [1, 0, 1, 0, 0])), (.inBlock 0), (.code (atC Try.f30 [1, 1]))], [], .none⟩, [],
    ⟨[], 0, 0, 0, [((.le (.v 1) (.v 3)), .true), ((.le (.c 0) (.v 3)), .true)], [1, 0], [(1, (0, 9223372036854775807)), (2, (0, (-1))), (26, (0, (-1)))]⟩, [26]⟩
noncomputable def rJoin_T2 : Tm := ⟨⟨30, 27, [(5, (.it .i64 (.v 27))), (4, (.bo (.v 28))), (3, (.it .i64 (.v 26))), (0, (.sl (.k 0) (.v 2) (.v 1) (.v 3)))], [(.code (atC Try.f30 [1, 0, 1, 0, 0, 1, 0, 0, 1, 0, 1, 0, 0])), (.inLoop (atC Try.f30 [1, 0, 1, 0, 0, 1, 0, 0, 1, 0, 1, 0, 0])), (.inBlock 2), (.code (atC Try.f30 [1, 0, 1, 0, 0, 1, 0, 0, 1, 1])), (.inBlock 1), (.code (atC Try.f30 [1, 0, 1, 0, 0, 1, 1])), (.inLoop (atC Try.f30 [1, 0, 1, 0, 0])), (.inBlock 0), (.code (atC Try.f30 [1, 1]))], [], .none⟩, [],
    ⟨[], 0, 0, 0, [((.lt (.v 26) (.c 5)), .true), ((.le (.v 1) (.v 3)), .true), ((.le (.c 0) (.v 3)), .true)], [1, 0], [(26, (0, 4)), (1, (0, 9223372036854775807)), (2, (0, (-1))), (27, (0, (-1)))]⟩, [27, 28]⟩
noncomputable def rJoin_L0 : List Lf :=
  [(.cut [((.le (.v 1) (.v 3)), .true), ((.le (.c 0) (.v 3)), .true)] 1 ⟨⟨[(26, (.c 0))], []⟩, [], [], []⟩ [] (shT rJoin_T1 ⟨⟨[(26, (.c 0))], []⟩, [], [], []⟩))]
noncomputable def rJoin_L1 : List Lf :=
  [(.cut [((.lt (.v 26) (.c 5)), .true), ((.le (.v 1) (.v 3)), .true), ((.le (.c 0) (.v 3)), .true)] 2 ⟨⟨[(27, (.c 0))], [(28, (.c .true))]⟩, [], [], []⟩ [] (shT rJoin_T2 ⟨⟨[(27, (.c 0))], [(28, (.c .true))]⟩, [], [], []⟩)), (.fin [((.lt (.v 26) (.c 5)), .false), ((.le (.v 1) (.v 3)), .true), ((.le (.c 0) (.v 3)), .true)] 0 ⟨⟨[], []⟩, [], [], []⟩ [(.ei (.ap 13 (.v 0) (.v 1) (.c 0) (.c 0) (.c 0) (.c 0)) (.c 5))] [])]
noncomputable def rJoin_L2 : List Lf :=
  [(.cut [((.v 28), .true), ((.lt (.v 27) (.v 1)), .true), ((.lt (.v 26) (.c 5)), .true), ((.le (.v 1) (.v 3)), .true), ((.le (.c 0) (.v 3)), .true)] 2 ⟨⟨[(27, (.op .add (.v 27) (.c 1)))], [(28, (.ap 13 (.v 26) (.ap 3 (.v 0) (.v 27) (.c 0) (.c 0) (.c 0) (.c 0)) (.c 0) (.c 0) (.c 0) (.c 0)))]⟩, [], [], []⟩ [] (shT rJoin_T2 ⟨⟨[(27, (.op .add (.v 27) (.c 1)))], [(28, (.ap 13 (.v 26) (.ap 3 (.v 0) (.v 27) (.c 0) (.c 0) (.c 0) (.c 0)) (.c 0) (.c 0) (.c 0) (.c 0)))]⟩, [], [], []⟩)), (.cut [((.v 28), .false), ((.lt (.v 27) (.v 1)), .true), ((.lt (.v 26) (.c 5)), .true), ((.le (.v 1) (.v 3)), .true), ((.le (.c 0) (.v 3)), .true)] 2 ⟨⟨[(27, (.op .add (.v 27) (.c 1)))], [(28, (.c .false))]⟩, [], [], []⟩ [] (shT rJoin_T2 ⟨⟨[(27, (.op .add (.v 27) (.c 1)))], [(28, (.c .false))]⟩, [], [], []⟩)), (.fin [((.v 28), .true), ((.lt (.v 27) (.v 1)), .false), ((.lt (.v 26) (.c 5)), .true), ((.le (.v 1) (.v 3)), .true), ((.le (.c 0) (.v 3)), .true)] 0 ⟨⟨[], []⟩, [], [], []⟩ [(.ei (.ap 13 (.v 0) (.v 1) (.c 0) (.c 0) (.c 0) (.c 0)) (.v 26))] []), (.cut [((.v 28), .false), ((.lt (.v 27) (.v 1)), .false), ((.lt (.v 26) (.c 5)), .true), ((.le (.v 1) (.v 3)), .true), ((.le (.c 0) (.v 3)), .true)] 1 ⟨⟨[(26, (.op .add (.v 26) (.c 1)))], []⟩, [], [], []⟩ [] (shT rJoin_T1 ⟨⟨[(26, (.op .add (.v 26) (.c 1)))], []⟩, [], [], []⟩))]
set_option maxRecDepth 100000 in
theorem rJoin_h0 : (ex (ccOf Try.prog BF [58, 84] rJoin) ((fun cc => [rCovers.ent cc]) (ccOf Try.prog BF [58, 84] rJoin)) (dw (ccOf Try.prog BF [58, 84] rJoin) ((fun cc => [rCovers.ent cc]) (ccOf Try.prog BF [58, 84] rJoin)) 1000 4) (stopX []) 4000 (tm0 rJoin Try.f30 (Try.f30.body.getD .skip)).f (tm0 rJoin Try.f30 (Try.f30.body.getD .skip)).fs (tm0 rJoin Try.f30 (Try.f30.body.getD .skip)).H).lfs (ccOf Try.prog BF [58, 84] rJoin) ((tm0 rJoin Try.f30 (Try.f30.body.getD .skip)) :: [rJoin_T1, rJoin_T2]) rJoin.os = some rJoin_L0 := by kernel_rfl
set_option maxRecDepth 100000 in
theorem rJoin_h1 : (ex (ccOf Try.prog BF [58, 84] rJoin) ((fun cc => [rCovers.ent cc]) (ccOf Try.prog BF [58, 84] rJoin)) (dw (ccOf Try.prog BF [58, 84] rJoin) ((fun cc => [rCovers.ent cc]) (ccOf Try.prog BF [58, 84] rJoin)) 1000 4) (stopX []) 4000 rJoin_T1.f rJoin_T1.fs rJoin_T1.H).lfs (ccOf Try.prog BF [58, 84] rJoin) ((tm0 rJoin Try.f30 (Try.f30.body.getD .skip)) :: [rJoin_T1, rJoin_T2]) rJoin.os = some rJoin_L1 := by kernel_rfl
set_option maxRecDepth 100000 in
theorem rJoin_h2 : (ex (ccOf Try.prog BF [58, 84] rJoin) ((fun cc => [rCovers.ent cc]) (ccOf Try.prog BF [58, 84] rJoin)) (dw (ccOf Try.prog BF [58, 84] rJoin) ((fun cc => [rCovers.ent cc]) (ccOf Try.prog BF [58, 84] rJoin)) 1000 4) (stopX []) 4000 rJoin_T2.f rJoin_T2.fs rJoin_T2.H).lfs (ccOf Try.prog BF [58, 84] rJoin) ((tm0 rJoin Try.f30 (Try.f30.body.getD .skip)) :: [rJoin_T1, rJoin_T2]) rJoin.os = some rJoin_L2 := by kernel_rfl
def rJoin_inv : (Nat → Int) → (Nat → Bool) → Nat → (Nat → Int) → (Nat → Bool) → Prop := fun iv0 _ k iv bv => match k with
  | 0 => True
  | 1 => 0 ≤ iv 26 ∧ iv 26 ≤ 5 ∧ ∀ p : Int, 0 ≤ p → p < iv 26 → ¬ covA p (iv0 0) (iv0 1)
  | _ => 0 ≤ iv 26 ∧ iv 26 ≤ 5 ∧ (∀ p : Int, 0 ≤ p → p < iv 26 → ¬ covA p (iv0 0) (iv0 1)) ∧ (0 ≤ iv 27 ∧ iv 27 ≤ iv0 1) ∧ (bv 28 = true ↔ covA (iv 26) (iv0 0) (iv 27))
def rJoin_mu : (Nat → Int) → (Nat → Bool) → Nat → (Nat → Int) → (Nat → Bool) → Nat := fun iv0 _ k iv _ => match k with
  | 0 => 2 ^ 200 | 1 => (5 - iv 26).toNat * 2 ^ 70 + 2 ^ 69
  | _ => (5 - iv 26).toNat * 2 ^ 70 + (iv0 1 - iv 27).toNat
set_option maxHeartbeats 0 in
theorem rJoin_o0 (kv : Kv) (iv0 : Nat → Int) (bv0 : Nat → Bool) (hin : InB rJoin.B iv0) (hF : FT (sta FI FB kv iv0 bv0) (dlt dyn0) rJoin.F) (iv : Nat → Int) (bv : Nat → Bool) (ha : Agr 4 iv0 bv0 iv bv) (hi : rJoin_inv iv0 bv0 0 iv bv) :
    ∀ lf ∈ rJoin_L0, LfT (sta FI FB kv) rJoin.os (rJoin_inv iv0 bv0) (rJoin_mu iv0 bv0) 0 iv bv lf := by
  unfold rJoin_L0
  refine List.forall_mem_cons.2 ⟨?_, List.forall_mem_nil _⟩
  all_goals
    intro δ hf
  all_goals
    simp only [FT, TP, SB.tp, SI.tv, sta, IB.eval, and_true, true_and, ObsT, Ob.Tv, rowT, kix, In.tiv, ↓tbvT, In.tbv, get_cons, get_nil, reduceIte, Nat.reduceEqDiff, Int.reduceToNat, Int.reduceAdd, Int.reduceSub, Int.reduceLE, Int.reduceLT, Int.reduceEq, ne_eq, Bool.false_eq_true, not_true_eq_false, not_false_eq_true, true_iff, false_iff, iff_true, iff_false, false_implies, implies_true, decT, decide_true, decide_false, Bool.decide_eq_true, ap2, pb2, FI_3, FI_8, FI_9, FI_10, FI_11, FI_12, FI_13, FB_10, FB_11, FB_12, FB_13, FB_14, FB_15, FB_16] at hf
  all_goals
    have a0 := ha.1 0 (by omega)
    have a1 := ha.1 1 (by omega)
    have a2 := ha.1 2 (by omega)
    have a3 := ha.1 3 (by omega)
  all_goals
    have b1 := hin 1 0 9223372036854775807 (by simp [rJoin, bM, fM, gM, lM])
    simp only [Int.reduceLE, reduceIte, Int.reduceNeg] at b1
  all_goals
    simp only [FT, TP, SB.tp, SI.tv, sta, IB.eval, and_true, true_and, ObsT, Ob.Tv, rowT, kix, In.tiv, ↓tbvT, In.tbv, get_cons, get_nil, reduceIte, Nat.reduceEqDiff, Int.reduceToNat, Int.reduceAdd, Int.reduceSub, Int.reduceLE, Int.reduceLT, Int.reduceEq, ne_eq, Bool.false_eq_true, not_true_eq_false, not_false_eq_true, true_iff, false_iff, iff_true, iff_false, false_implies, implies_true, decT, decide_true, decide_false, Bool.decide_eq_true, ap2, pb2, FI_3, FI_8, FI_9, FI_10, FI_11, FI_12, FI_13, FB_10, FB_11, FB_12, FB_13, FB_14, FB_15, FB_16, rJoin_inv, rJoin_mu, rJoin, o1, othT, bM, fM, gM, lM, a0, a1, a2, a3] at hf hi ⊢
  all_goals
    (repeat' (with_reducible apply And.intro)) <;> first
    | omega
    | assumption
    | (unfold inM; omega)
    | exact fun p h0 h1 => by omega
set_option maxHeartbeats 0 in
theorem rJoin_o1 (kv : Kv) (iv0 : Nat → Int) (bv0 : Nat → Bool) (hin : InB rJoin.B iv0) (hF : FT (sta FI FB kv iv0 bv0) (dlt dyn0) rJoin.F) (iv : Nat → Int) (bv : Nat → Bool) (ha : Agr 4 iv0 bv0 iv bv) (hi : rJoin_inv iv0 bv0 1 iv bv) :
    ∀ lf ∈ rJoin_L1, LfT (sta FI FB kv) rJoin.os (rJoin_inv iv0 bv0) (rJoin_mu iv0 bv0) 1 iv bv lf := by
  unfold rJoin_L1
  refine List.forall_mem_cons.2 ⟨?_, List.forall_mem_cons.2 ⟨?_, List.forall_mem_nil _⟩⟩
  all_goals
    intro δ hf
  all_goals
    simp only [FT, TP, SB.tp, SI.tv, sta, IB.eval, and_true, true_and, ObsT, Ob.Tv, rowT, kix, In.tiv, ↓tbvT, In.tbv, get_cons, get_nil, reduceIte, Nat.reduceEqDiff, Int.reduceToNat, Int.reduceAdd, Int.reduceSub, Int.reduceLE, Int.reduceLT, Int.reduceEq, ne_eq, Bool.false_eq_true, not_true_eq_false, not_false_eq_true, true_iff, false_iff, iff_true, iff_false, false_implies, implies_true, decT, decide_true, decide_false, Bool.decide_eq_true, ap2, pb2, FI_3, FI_8, FI_9, FI_10, FI_11, FI_12, FI_13, FB_10, FB_11, FB_12, FB_13, FB_14, FB_15, FB_16] at hf
  all_goals
    have a0 := ha.1 0 (by omega)
    have a1 := ha.1 1 (by omega)
    have a2 := ha.1 2 (by omega)
    have a3 := ha.1 3 (by omega)
  all_goals
    have b1 := hin 1 0 9223372036854775807 (by simp [rJoin, bM, fM, gM, lM])
    simp only [Int.reduceLE, reduceIte, Int.reduceNeg] at b1
  all_goals
    simp only [FT, TP, SB.tp, SI.tv, sta, IB.eval, and_true, true_and, ObsT, Ob.Tv, rowT, kix, In.tiv, ↓tbvT, In.tbv, get_cons, get_nil, reduceIte, Nat.reduceEqDiff, Int.reduceToNat, Int.reduceAdd, Int.reduceSub, Int.reduceLE, Int.reduceLT, Int.reduceEq, ne_eq, Bool.false_eq_true, not_true_eq_false, not_false_eq_true, true_iff, false_iff, iff_true, iff_false, false_implies, implies_true, decT, decide_true, decide_false, Bool.decide_eq_true, ap2, pb2, FI_3, FI_8, FI_9, FI_10, FI_11, FI_12, FI_13, FB_10, FB_11, FB_12, FB_13, FB_14, FB_15, FB_16, rJoin_inv, rJoin_mu, rJoin, o1, othT, bM, fM, gM, lM, a0, a1, a2, a3] at hf hi ⊢
  all_goals
    (repeat' (with_reducible apply And.intro)) <;> first
    | omega
    | assumption
    | (unfold inM; omega)
    | exact hi.2.2
    | exact fun j hj => by omega
    | exact joinC_is (by omega) (by omega) (.inl (by omega)) fun p h0 h1 => hi.2.2 p h0 (by omega)
    | exact Eq.symm (joinC_is (by omega) (by omega) (.inl (by omega)) fun p h0 h1 => hi.2.2 p h0 (by omega))
set_option maxHeartbeats 0 in
theorem rJoin_o2 (kv : Kv) (iv0 : Nat → Int) (bv0 : Nat → Bool) (hin : InB rJoin.B iv0) (hF : FT (sta FI FB kv iv0 bv0) (dlt dyn0) rJoin.F) (iv : Nat → Int) (bv : Nat → Bool) (ha : Agr 4 iv0 bv0 iv bv) (hi : rJoin_inv iv0 bv0 2 iv bv) :
    ∀ lf ∈ rJoin_L2, LfT (sta FI FB kv) rJoin.os (rJoin_inv iv0 bv0) (rJoin_mu iv0 bv0) 2 iv bv lf := by
  unfold rJoin_L2
  refine List.forall_mem_cons.2 ⟨?_, List.forall_mem_cons.2 ⟨?_, List.forall_mem_cons.2 ⟨?_, List.forall_mem_cons.2 ⟨?_, List.forall_mem_nil _⟩⟩⟩⟩
  all_goals
    intro δ hf
  all_goals
    simp only [FT, TP, SB.tp, SI.tv, sta, IB.eval, and_true, true_and, ObsT, Ob.Tv, rowT, kix, In.tiv, ↓tbvT, In.tbv, get_cons, get_nil, reduceIte, Nat.reduceEqDiff, Int.reduceToNat, Int.reduceAdd, Int.reduceSub, Int.reduceLE, Int.reduceLT, Int.reduceEq, ne_eq, Bool.false_eq_true, not_true_eq_false, not_false_eq_true, true_iff, false_iff, iff_true, iff_false, false_implies, implies_true, decT, decide_true, decide_false, Bool.decide_eq_true, ap2, pb2, FI_3, FI_8, FI_9, FI_10, FI_11, FI_12, FI_13, FB_10, FB_11, FB_12, FB_13, FB_14, FB_15, FB_16] at hf
  all_goals
    have a0 := ha.1 0 (by omega)
    have a1 := ha.1 1 (by omega)
    have a2 := ha.1 2 (by omega)
    have a3 := ha.1 3 (by omega)
  all_goals
    have b1 := hin 1 0 9223372036854775807 (by simp [rJoin, bM, fM, gM, lM])
    simp only [Int.reduceLE, reduceIte, Int.reduceNeg] at b1
  all_goals
    simp only [FT, TP, SB.tp, SI.tv, sta, IB.eval, and_true, true_and, ObsT, Ob.Tv, rowT, kix, In.tiv, ↓tbvT, In.tbv, get_cons, get_nil, reduceIte, Nat.reduceEqDiff, Int.reduceToNat, Int.reduceAdd, Int.reduceSub, Int.reduceLE, Int.reduceLT, Int.reduceEq, ne_eq, Bool.false_eq_true, not_true_eq_false, not_false_eq_true, true_iff, false_iff, iff_true, iff_false, false_implies, implies_true, decT, decide_true, decide_false, Bool.decide_eq_true, ap2, pb2, FI_3, FI_8, FI_9, FI_10, FI_11, FI_12, FI_13, FB_10, FB_11, FB_12, FB_13, FB_14, FB_15, FB_16, rJoin_inv, rJoin_mu, rJoin, o1, othT, bM, fM, gM, lM, a0, a1, a2, a3] at hf hi ⊢
  all_goals
    (repeat' (with_reducible apply And.intro)) <;> first
    | omega
    | assumption
    | (unfold inM; omega)
    | exact hi.2.2.1
    | ((have hc := hi.2.2.2.2.1 hf.1); first | exact joinC_is (by omega) (by omega) (.inr fun j hj => hc j (by omega)) hi.2.2.1 | exact Eq.symm (joinC_is (by omega) (by omega) (.inr fun j hj => hc j (by omega)) hi.2.2.1))
    | exact ⟨fun h => all_succ hi.2.2.2.1.1 (hi.2.2.2.2.1 hf.1) h, fun h => h (iv 27).toNat (by omega)⟩
    | exact fun h => hf.1 (hi.2.2.2.2.2 fun j hj => h j (by omega))
    | exact fun p h0 h1 h2 => if e : p < iv 26 then hi.2.2.1 p h0 e h2 else hf.1 (hi.2.2.2.2.2 fun j hj => (show p = iv 26 by omega) ▸ h2 j (by omega))
set_option maxRecDepth 100000 in
theorem rJoin_c : LsC ((tm0 rJoin Try.f30 (Try.f30.body.getD .skip)) :: [rJoin_T1, rJoin_T2]) rJoin.os [rJoin_L0, rJoin_L1, rJoin_L2] := by
  unfold rJoin_L0 rJoin_L1 rJoin_L2
  exact ⟨List.forall_mem_cons.2 ⟨⟨⟨_, rfl, rfl⟩, by kernel_rfl⟩, List.forall_mem_nil _⟩, List.forall_mem_cons.2 ⟨⟨⟨_, rfl, rfl⟩, by kernel_rfl⟩, List.forall_mem_cons.2 ⟨⟨⟨_, rfl, rfl⟩, by kernel_rfl⟩, List.forall_mem_nil _⟩⟩, List.forall_mem_cons.2 ⟨⟨⟨_, rfl, rfl⟩, by kernel_rfl⟩, List.forall_mem_cons.2 ⟨⟨⟨_, rfl, rfl⟩, by kernel_rfl⟩, List.forall_mem_cons.2 ⟨⟨⟨_, rfl, rfl⟩, by kernel_rfl⟩, List.forall_mem_cons.2 ⟨⟨⟨_, rfl, rfl⟩, by kernel_rfl⟩, List.forall_mem_nil _⟩⟩⟩⟩, trivial⟩
theorem rJoin_ok : rJoin.Ok Try.prog FI FB :=
  Con.of_plain (body := Try.f30.body.getD .skip) pok fiok (EntsFor.cons rCovers_ok EntsFor.nil) rJoin Try.func30 (by kernel_rfl) 4 [rJoin_T1, rJoin_T2] (by kernel_rfl) [rJoin_L0, rJoin_L1, rJoin_L2] ⟨rJoin_h0, rJoin_h1, rJoin_h2, trivial⟩ rJoin_c
    rJoin_inv rJoin_mu (fun _ _ _ => trivial) fun kv iv0 bv0 hin hF k l iv bv hk ha hi => match k, hk, hi with
    | 0, hk, hi => by
      cases hk
      exact rJoin_o0 kv iv0 bv0 hin hF iv bv ha hi
    | 1, hk, hi => by
      cases hk
      exact rJoin_o1 kv iv0 bv0 hin hF iv bv ha hi
    | 2, hk, hi => by
      cases hk
      exact rJoin_o2 kv iv0 bv0 hin hF iv bv ha hi
    | k + 3, hk, _ => by simp at hk
noncomputable def eJoin_T1 : Tm := ⟨⟨135, 19, [(8, (.it .i64 (.v 24))), (7, (.it .i64 (.v 1))), (0, (.sl (.k 0) (.v 2) (.v 1) (.v 3))), (1, (.fn 85 [] []))], [(.code (atC Try.f135 [1, 0, 1, 0, 0])), (.inLoop (atC Try.f135 [1, 0, 1, 0, 0])), (.inBlock 0), (.code (atC Try.f135 [1, 1]))], [], .none⟩, [⟨84, 9, [(6, (.fn 85 [] [])), (5, (.sl (.k 0) (.v 2) (.v 1) (.v 3)))], [(.inRegion (opsC (atC Try.f84 [1, 0])) [2, 3, 4]), (.code Code.ret)], [], .none⟩, ⟨27, 15, [(6, (.sl (.k 0) (.v 2) (.v 1) (.v 3))), (0, (.sl (.k 0) (.v 2) (.v 1) (.v 3)))], [(.inRegion (opsC (atC Try.f27 [1, 0, 0])) [1]), (.code (atC Try.f27 [1, 0, 1])), (.code (atC Try.f27 [1, 1]))], [], .none⟩],
    ⟨[], 0, 0, 0, [((.le (.v 1) (.v 3)), .true), ((.le (.c 0) (.v 3)), .true)], [1, 0], [(1, (0, 9223372036854775807)), (2, (0, (-1))), (24, (0, (-1)))]⟩, [24]⟩
noncomputable def eJoin_T2 : Tm := ⟨⟨154, 16, [(7, (.it .i64 (.v 25))), (6, (.it .i64 (.v 1))), (5, (.sl (.k 0) (.v 2) (.v 1) (.v 3))), (0, (.yl 4))], [(.code (atC Try.f154 [1, 0, 0])), (.inLoop (atC Try.f154 [1, 0, 0])), (.inBlock 0)], [], .none⟩, [⟨86, 16, [(3, (.pt (.n 0) (.c 0)))], [(.inRangeFunc 4), (.inBlock 0), (.code (atC Try.f86 [1, 1]))], [3], .none⟩, ⟨27, 15, [(8, (.sl (.k 0) (.v 2) (.v 1) (.v 3)))], [(.inRegion (opsC (atC Try.f27 [1, 1, 0])) [1, 2, 3]), (.code (atC Try.f27 [1, 1, 1]))], [], .none⟩],
    ⟨[(0, (.cells [(.it .u64 (.v 26))] 118)), (1, (.cells [(.fn 87 [] [])] 122)), (3, .dfr), (4, (.loop .ready .none 86 16 [(5, (.pt (.n 1) (.c 0))), (3, (.pt (.n 0) (.c 0)))] #[10] (atC Try.f86 [1, 0, 1, 0, 0]) (atC Try.f86 [1, 0, 1, 0, 1]) 3))], 5, 0, 0, [((.lt (.v 24) (.v 1)), .false), ((.le (.v 1) (.v 3)), .true), ((.le (.c 0) (.v 3)), .true)], [1, 0], [(26, (0, 18446744073709551615)), (1, (0, 9223372036854775807)), (2, (0, (-1))), (25, (0, (-1)))]⟩, [26, 25]⟩
noncomputable def eJoin_L0 : List Lf :=
  [(.cut [((.le (.v 1) (.v 3)), .true), ((.le (.c 0) (.v 3)), .true)] 1 ⟨⟨[(24, (.c 0))], []⟩, [], [], []⟩ [] (shT eJoin_T1 ⟨⟨[(24, (.c 0))], []⟩, [], [], []⟩))]
noncomputable def eJoin_L1 : List Lf :=
  [(.cut [((.lt (.ap 3 (.v 0) (.v 24) (.c 0) (.c 0) (.c 0) (.c 0)) (.c 6)), .true), ((.le (.c 0) (.ap 3 (.v 0) (.v 24) (.c 0) (.c 0) (.c 0) (.c 0))), .true), ((.lt (.v 24) (.v 1)), .true), ((.le (.v 1) (.v 3)), .true), ((.le (.c 0) (.v 3)), .true)] 1 ⟨⟨[(24, (.op .add (.v 24) (.c 1)))], []⟩, [], [], []⟩ [] (shT eJoin_T1 ⟨⟨[(24, (.op .add (.v 24) (.c 1)))], []⟩, [], [], []⟩)), (.fin [((.lt (.ap 3 (.v 0) (.v 24) (.c 0) (.c 0) (.c 0) (.c 0)) (.c 6)), .false), ((.le (.c 0) (.ap 3 (.v 0) (.v 24) (.c 0) (.c 0) (.c 0) (.c 0))), .true), ((.lt (.v 24) (.v 1)), .true), ((.le (.v 1) (.v 3)), .true), ((.le (.c 0) (.v 3)), .true)] 0 ⟨⟨[], []⟩, [], [], []⟩ [(.ei (.ap 11 (.v 0) (.v 1) (.c 0) (.c 0) (.c 0) (.c 0)) (.c 0)), (.ei (.ap 12 (.v 0) (.v 1) (.c 0) (.c 0) (.c 0) (.c 0)) (.c 130))] []), (.fin [((.le (.c 0) (.ap 3 (.v 0) (.v 24) (.c 0) (.c 0) (.c 0) (.c 0))), .false), ((.lt (.v 24) (.v 1)), .true), ((.le (.v 1) (.v 3)), .true), ((.le (.c 0) (.v 3)), .true)] 0 ⟨⟨[], []⟩, [], [], []⟩ [(.ei (.ap 11 (.v 0) (.v 1) (.c 0) (.c 0) (.c 0) (.c 0)) (.c 0)), (.ei (.ap 12 (.v 0) (.v 1) (.c 0) (.c 0) (.c 0) (.c 0)) (.c 130))] []), (.cut [((.lt (.v 24) (.v 1)), .false), ((.le (.v 1) (.v 3)), .true), ((.le (.c 0) (.v 3)), .true)] 2 ⟨⟨[(26, (.c 0)), (25, (.c 0))], []⟩, [(1, 1), (3, 3), (0, 0), (4, 4)], [], []⟩ [] (shT eJoin_T2 ⟨⟨[(26, (.c 0)), (25, (.c 0))], []⟩, [(1, 1), (3, 3), (0, 0), (4, 4)], [], []⟩))]
noncomputable def eJoin_L2 : List Lf :=
  [(.cut [((.eq (.ap 3 (.v 0) (.v 25) (.c 0) (.c 0) (.c 0) (.c 0)) (.c 0)), .true), ((.lt (.ap 3 (.v 0) (.v 25) (.c 0) (.c 0) (.c 0) (.c 0)) (.c 6)), .true), ((.le (.c 0) (.ap 3 (.v 0) (.v 25) (.c 0) (.c 0) (.c 0) (.c 0))), .true), ((.lt (.v 25) (.v 1)), .true), ((.lt (.v 24) (.v 1)), .false), ((.le (.v 1) (.v 3)), .true), ((.le (.c 0) (.v 3)), .true)] 2 ⟨⟨[(26, (.op (.bor .u64) (.v 26) (.c 1))), (25, (.op .add (.v 25) (.c 1)))], []⟩, [(1, 1), (3, 3), (0, 0), (4, 4)], [], []⟩ [] (shT eJoin_T2 ⟨⟨[(26, (.op (.bor .u64) (.v 26) (.c 1))), (25, (.op .add (.v 25) (.c 1)))], []⟩, [(1, 1), (3, 3), (0, 0), (4, 4)], [], []⟩)), (.cut [((.eq (.ap 3 (.v 0) (.v 25) (.c 0) (.c 0) (.c 0) (.c 0)) (.c 1)), .true), ((.eq (.ap 3 (.v 0) (.v 25) (.c 0) (.c 0) (.c 0) (.c 0)) (.c 0)), .false), ((.lt (.ap 3 (.v 0) (.v 25) (.c 0) (.c 0) (.c 0) (.c 0)) (.c 6)), .true), ((.le (.c 0) (.ap 3 (.v 0) (.v 25) (.c 0) (.c 0) (.c 0) (.c 0))), .true), ((.lt (.v 25) (.v 1)), .true), ((.lt (.v 24) (.v 1)), .false), ((.le (.v 1) (.v 3)), .true), ((.le (.c 0) (.v 3)), .true)] 2 ⟨⟨[(26, (.op (.bor .u64) (.v 26) (.c 3))), (25, (.op .add (.v 25) (.c 1)))], []⟩, [(1, 1), (3, 3), (0, 0), (4, 4)], [], []⟩ [] (shT eJoin_T2 ⟨⟨[(26, (.op (.bor .u64) (.v 26) (.c 3))), (25, (.op .add (.v 25) (.c 1)))], []⟩, [(1, 1), (3, 3), (0, 0), (4, 4)], [], []⟩)), (.cut [((.eq (.ap 3 (.v 0) (.v 25) (.c 0) (.c 0) (.c 0) (.c 0)) (.c 2)), .true), ((.eq (.ap 3 (.v 0) (.v 25) (.c 0) (.c 0) (.c 0) (.c 0)) (.c 1)), .false), ((.eq (.ap 3 (.v 0) (.v 25) (.c 0) (.c 0) (.c 0) (.c 0)) (.c 0)), .false), ((.lt (.ap 3 (.v 0) (.v 25) (.c 0) (.c 0) (.c 0) (.c 0)) (.c 6)), .true), ((.le (.c 0) (.ap 3 (.v 0) (.v 25) (.c 0) (.c 0) (.c 0) (.c 0))), .true), ((.lt (.v 25) (.v 1)), .true), ((.lt (.v 24) (.v 1)), .false), ((.le (.v 1) (.v 3)), .true), ((.le (.c 0) (.v 3)), .true)] 2 ⟨⟨[(26, (.op (.bor .u64) (.v 26) (.c 7))), (25, (.op .add (.v 25) (.c 1)))], []⟩, [(1, 1), (3, 3), (0, 0), (4, 4)], [], []⟩ [] (shT eJoin_T2 ⟨⟨[(26, (.op (.bor .u64) (.v 26) (.c 7))), (25, (.op .add (.v 25) (.c 1)))], []⟩, [(1, 1), (3, 3), (0, 0), (4, 4)], [], []⟩)), (.cut [((.eq (.ap 3 (.v 0) (.v 25) (.c 0) (.c 0) (.c 0) (.c 0)) (.c 3)), .true), ((.eq (.ap 3 (.v 0) (.v 25) (.c 0) (.c 0) (.c 0) (.c 0)) (.c 2)), .false), ((.eq (.ap 3 (.v 0) (.v 25) (.c 0) (.c 0) (.c 0) (.c 0)) (.c 1)), .false), ((.eq (.ap 3 (.v 0) (.v 25) (.c 0) (.c 0) (.c 0) (.c 0)) (.c 0)), .false), ((.lt (.ap 3 (.v 0) (.v 25) (.c 0) (.c 0) (.c 0) (.c 0)) (.c 6)), .true), ((.le (.c 0) (.ap 3 (.v 0) (.v 25) (.c 0) (.c 0) (.c 0) (.c 0))), .true), ((.lt (.v 25) (.v 1)), .true), ((.lt (.v 24) (.v 1)), .false), ((.le (.v 1) (.v 3)), .true), ((.le (.c 0) (.v 3)), .true)] 2 ⟨⟨[(26, (.op (.bor .u64) (.v 26) (.c 11))), (25, (.op .add (.v 25) (.c 1)))], []⟩, [(1, 1), (3, 3), (0, 0), (4, 4)], [], []⟩ [] (shT eJoin_T2 ⟨⟨[(26, (.op (.bor .u64) (.v 26) (.c 11))), (25, (.op .add (.v 25) (.c 1)))], []⟩, [(1, 1), (3, 3), (0, 0), (4, 4)], [], []⟩)), (.cut [((.eq (.ap 3 (.v 0) (.v 25) (.c 0) (.c 0) (.c 0) (.c 0)) (.c 4)), .true), ((.eq (.ap 3 (.v 0) (.v 25) (.c 0) (.c 0) (.c 0) (.c 0)) (.c 3)), .false), ((.eq (.ap 3 (.v 0) (.v 25) (.c 0) (.c 0) (.c 0) (.c 0)) (.c 2)), .false), ((.eq (.ap 3 (.v 0) (.v 25) (.c 0) (.c 0) (.c 0) (.c 0)) (.c 1)), .false), ((.eq (.ap 3 (.v 0) (.v 25) (.c 0) (.c 0) (.c 0) (.c 0)) (.c 0)), .false), ((.lt (.ap 3 (.v 0) (.v 25) (.c 0) (.c 0) (.c 0) (.c 0)) (.c 6)), .true), ((.le (.c 0) (.ap 3 (.v 0) (.v 25) (.c 0) (.c 0) (.c 0) (.c 0))), .true), ((.lt (.v 25) (.v 1)), .true), ((.lt (.v 24) (.v 1)), .false), ((.le (.v 1) (.v 3)), .true), ((.le (.c 0) (.v 3)), .true)] 2 ⟨⟨[(26, (.op (.bor .u64) (.v 26) (.c 31))), (25, (.op .add (.v 25) (.c 1)))], []⟩, [(1, 1), (3, 3), (0, 0), (4, 4)], [], []⟩ [] (shT eJoin_T2 ⟨⟨[(26, (.op (.bor .u64) (.v 26) (.c 31))), (25, (.op .add (.v 25) (.c 1)))], []⟩, [(1, 1), (3, 3), (0, 0), (4, 4)], [], []⟩)), (.cut [((.eq (.ap 3 (.v 0) (.v 25) (.c 0) (.c 0) (.c 0) (.c 0)) (.c 4)), .false), ((.eq (.ap 3 (.v 0) (.v 25) (.c 0) (.c 0) (.c 0) (.c 0)) (.c 3)), .false), ((.eq (.ap 3 (.v 0) (.v 25) (.c 0) (.c 0) (.c 0) (.c 0)) (.c 2)), .false), ((.eq (.ap 3 (.v 0) (.v 25) (.c 0) (.c 0) (.c 0) (.c 0)) (.c 1)), .false), ((.eq (.ap 3 (.v 0) (.v 25) (.c 0) (.c 0) (.c 0) (.c 0)) (.c 0)), .false), ((.lt (.ap 3 (.v 0) (.v 25) (.c 0) (.c 0) (.c 0) (.c 0)) (.c 6)), .true), ((.le (.c 0) (.ap 3 (.v 0) (.v 25) (.c 0) (.c 0) (.c 0) (.c 0))), .true), ((.lt (.v 25) (.v 1)), .true), ((.lt (.v 24) (.v 1)), .false), ((.le (.v 1) (.v 3)), .true), ((.le (.c 0) (.v 3)), .true)] 2 ⟨⟨[(26, (.op (.bor .u64) (.v 26) (.c 63))), (25, (.op .add (.v 25) (.c 1)))], []⟩, [(1, 1), (3, 3), (0, 0), (4, 4)], [], []⟩ [] (shT eJoin_T2 ⟨⟨[(26, (.op (.bor .u64) (.v 26) (.c 63))), (25, (.op .add (.v 25) (.c 1)))], []⟩, [(1, 1), (3, 3), (0, 0), (4, 4)], [], []⟩)), (.bad [((.lt (.ap 3 (.v 0) (.v 25) (.c 0) (.c 0) (.c 0) (.c 0)) (.c 6)), .false), ((.le (.c 0) (.ap 3 (.v 0) (.v 25) (.c 0) (.c 0) (.c 0) (.c 0))), .true), ((.lt (.v 25) (.v 1)), .true), ((.lt (.v 24) (.v 1)), .false), ((.le (.v 1) (.v 3)), .true), ((.le (.c 0) (.v 3)), .true)]), (.bad [((.le (.c 0) (.ap 3 (.v 0) (.v 25) (.c 0) (.c 0) (.c 0) (.c 0))), .false), ((.lt (.v 25) (.v 1)), .true), ((.lt (.v 24) (.v 1)), .false), ((.le (.v 1) (.v 3)), .true), ((.le (.c 0) (.v 3)), .true)]), (.fin [((.eq (.op (.bandn .u64) (.v 26) (.c 1)) (.c 0)), .true), ((.le (.c 6) (.d 5)), .true), ((.le (.c 5) (.d 4)), .true), ((.le (.c 4) (.d 3)), .true), ((.le (.c 3) (.d 2)), .true), ((.le (.c 2) (.d 1)), .true), ((.le (.c 1) (.d 0)), .true), ((.lt (.v 25) (.v 1)), .false), ((.lt (.v 24) (.v 1)), .false), ((.le (.v 1) (.v 3)), .true), ((.le (.c 0) (.v 3)), .true)] 0 ⟨⟨[], []⟩, [], [], []⟩ [(.ei (.ap 11 (.v 0) (.v 1) (.c 0) (.c 0) (.c 0) (.c 0)) (.c 0)), (.ei (.ap 12 (.v 0) (.v 1) (.c 0) (.c 0) (.c 0) (.c 0)) (.c 0))] []), (.fin [((.eq (.op (.bandn .u64) (.v 26) (.c 3)) (.c 0)), .true), ((.eq (.op (.bandn .u64) (.v 26) (.c 1)) (.c 0)), .false), ((.le (.c 6) (.d 5)), .true), ((.le (.c 5) (.d 4)), .true), ((.le (.c 4) (.d 3)), .true), ((.le (.c 3) (.d 2)), .true), ((.le (.c 2) (.d 1)), .true), ((.le (.c 1) (.d 0)), .true), ((.lt (.v 25) (.v 1)), .false), ((.lt (.v 24) (.v 1)), .false), ((.le (.v 1) (.v 3)), .true), ((.le (.c 0) (.v 3)), .true)] 0 ⟨⟨[], []⟩, [], [], []⟩ [(.ei (.ap 11 (.v 0) (.v 1) (.c 0) (.c 0) (.c 0) (.c 0)) (.c 1)), (.ei (.ap 12 (.v 0) (.v 1) (.c 0) (.c 0) (.c 0) (.c 0)) (.c 0))] []), (.fin [((.eq (.op (.bandn .u64) (.v 26) (.c 7)) (.c 0)), .true), ((.eq (.op (.bandn .u64) (.v 26) (.c 3)) (.c 0)), .false), ((.eq (.op (.bandn .u64) (.v 26) (.c 1)) (.c 0)), .false), ((.le (.c 6) (.d 5)), .true), ((.le (.c 5) (.d 4)), .true), ((.le (.c 4) (.d 3)), .true), ((.le (.c 3) (.d 2)), .true), ((.le (.c 2) (.d 1)), .true), ((.le (.c 1) (.d 0)), .true), ((.lt (.v 25) (.v 1)), .false), ((.lt (.v 24) (.v 1)), .false), ((.le (.v 1) (.v 3)), .true), ((.le (.c 0) (.v 3)), .true)] 0 ⟨⟨[], []⟩, [], [], []⟩ [(.ei (.ap 11 (.v 0) (.v 1) (.c 0) (.c 0) (.c 0) (.c 0)) (.c 2)), (.ei (.ap 12 (.v 0) (.v 1) (.c 0) (.c 0) (.c 0) (.c 0)) (.c 0))] []), (.fin [((.eq (.op (.bandn .u64) (.v 26) (.c 11)) (.c 0)), .true), ((.eq (.op (.bandn .u64) (.v 26) (.c 7)) (.c 0)), .false), ((.eq (.op (.bandn .u64) (.v 26) (.c 3)) (.c 0)), .false), ((.eq (.op (.bandn .u64) (.v 26) (.c 1)) (.c 0)), .false), ((.le (.c 6) (.d 5)), .true), ((.le (.c 5) (.d 4)), .true), ((.le (.c 4) (.d 3)), .true), ((.le (.c 3) (.d 2)), .true), ((.le (.c 2) (.d 1)), .true), ((.le (.c 1) (.d 0)), .true), ((.lt (.v 25) (.v 1)), .false), ((.lt (.v 24) (.v 1)), .false), ((.le (.v 1) (.v 3)), .true), ((.le (.c 0) (.v 3)), .true)] 0 ⟨⟨[], []⟩, [], [], []⟩ [(.ei (.ap 11 (.v 0) (.v 1) (.c 0) (.c 0) (.c 0) (.c 0)) (.c 3)), (.ei (.ap 12 (.v 0) (.v 1) (.c 0) (.c 0) (.c 0) (.c 0)) (.c 0))] []), (.fin [((.eq (.op (.bandn .u64) (.v 26) (.c 31)) (.c 0)), .true), ((.eq (.op (.bandn .u64) (.v 26) (.c 11)) (.c 0)), .false), ((.eq (.op (.bandn .u64) (.v 26) (.c 7)) (.c 0)), .false), ((.eq (.op (.bandn .u64) (.v 26) (.c 3)) (.c 0)), .false), ((.eq (.op (.bandn .u64) (.v 26) (.c 1)) (.c 0)), .false), ((.le (.c 6) (.d 5)), .true), ((.le (.c 5) (.d 4)), .true), ((.le (.c 4) (.d 3)), .true), ((.le (.c 3) (.d 2)), .true), ((.le (.c 2) (.d 1)), .true), ((.le (.c 1) (.d 0)), .true), ((.lt (.v 25) (.v 1)), .false), ((.lt (.v 24) (.v 1)), .false), ((.le (.v 1) (.v 3)), .true), ((.le (.c 0) (.v 3)), .true)] 0 ⟨⟨[], []⟩, [], [], []⟩ [(.ei (.ap 11 (.v 0) (.v 1) (.c 0) (.c 0) (.c 0) (.c 0)) (.c 4)), (.ei (.ap 12 (.v 0) (.v 1) (.c 0) (.c 0) (.c 0) (.c 0)) (.c 0))] []), (.fin [((.eq (.op (.bandn .u64) (.v 26) (.c 63)) (.c 0)), .true), ((.eq (.op (.bandn .u64) (.v 26) (.c 31)) (.c 0)), .false), ((.eq (.op (.bandn .u64) (.v 26) (.c 11)) (.c 0)), .false), ((.eq (.op (.bandn .u64) (.v 26) (.c 7)) (.c 0)), .false), ((.eq (.op (.bandn .u64) (.v 26) (.c 3)) (.c 0)), .false), ((.eq (.op (.bandn .u64) (.v 26) (.c 1)) (.c 0)), .false), ((.le (.c 6) (.d 5)), .true), ((.le (.c 5) (.d 4)), .true), ((.le (.c 4) (.d 3)), .true), ((.le (.c 3) (.d 2)), .true), ((.le (.c 2) (.d 1)), .true), ((.le (.c 1) (.d 0)), .true), ((.lt (.v 25) (.v 1)), .false), ((.lt (.v 24) (.v 1)), .false), ((.le (.v 1) (.v 3)), .true), ((.le (.c 0) (.v 3)), .true)] 0 ⟨⟨[], []⟩, [], [], []⟩ [(.ei (.ap 11 (.v 0) (.v 1) (.c 0) (.c 0) (.c 0) (.c 0)) (.c 5)), (.ei (.ap 12 (.v 0) (.v 1) (.c 0) (.c 0) (.c 0) (.c 0)) (.c 0))] []), (.fin [((.eq (.op (.bandn .u64) (.v 26) (.c 63)) (.c 0)), .false), ((.eq (.op (.bandn .u64) (.v 26) (.c 31)) (.c 0)), .false), ((.eq (.op (.bandn .u64) (.v 26) (.c 11)) (.c 0)), .false), ((.eq (.op (.bandn .u64) (.v 26) (.c 7)) (.c 0)), .false), ((.eq (.op (.bandn .u64) (.v 26) (.c 3)) (.c 0)), .false), ((.eq (.op (.bandn .u64) (.v 26) (.c 1)) (.c 0)), .false), ((.le (.c 6) (.d 5)), .true), ((.le (.c 5) (.d 4)), .true), ((.le (.c 4) (.d 3)), .true), ((.le (.c 3) (.d 2)), .true), ((.le (.c 2) (.d 1)), .true), ((.le (.c 1) (.d 0)), .true), ((.lt (.v 25) (.v 1)), .false), ((.lt (.v 24) (.v 1)), .false), ((.le (.v 1) (.v 3)), .true), ((.le (.c 0) (.v 3)), .true)] 0 ⟨⟨[], []⟩, [], [], []⟩ [(.ei (.ap 11 (.v 0) (.v 1) (.c 0) (.c 0) (.c 0) (.c 0)) (.c (-1))), (.ei (.ap 12 (.v 0) (.v 1) (.c 0) (.c 0) (.c 0) (.c 0)) (.c 0))] [])]
set_option maxRecDepth 100000 in
theorem eJoin_h0 : (ex (ccOf Try.prog BF [58, 84] eJoin) ((fun _ => []) (ccOf Try.prog BF [58, 84] eJoin)) (dw (ccOf Try.prog BF [58, 84] eJoin) ((fun _ => []) (ccOf Try.prog BF [58, 84] eJoin)) 1000 4) (stopX [138, 89, 137]) 4000 (tm0 eJoin Try.f27 (Try.f27.body.getD .skip)).f (tm0 eJoin Try.f27 (Try.f27.body.getD .skip)).fs (tm0 eJoin Try.f27 (Try.f27.body.getD .skip)).H).lfs (ccOf Try.prog BF [58, 84] eJoin) ((tm0 eJoin Try.f27 (Try.f27.body.getD .skip)) :: [eJoin_T1, eJoin_T2]) eJoin.os = some eJoin_L0 := by kernel_rfl
set_option maxRecDepth 100000 in
theorem eJoin_h1 : (ex (ccOf Try.prog BF [58, 84] eJoin) ((fun _ => []) (ccOf Try.prog BF [58, 84] eJoin)) (dw (ccOf Try.prog BF [58, 84] eJoin) ((fun _ => []) (ccOf Try.prog BF [58, 84] eJoin)) 1000 4) (stopX [138, 89, 137]) 4000 eJoin_T1.f eJoin_T1.fs eJoin_T1.H).lfs (ccOf Try.prog BF [58, 84] eJoin) ((tm0 eJoin Try.f27 (Try.f27.body.getD .skip)) :: [eJoin_T1, eJoin_T2]) eJoin.os = some eJoin_L1 := by kernel_rfl
set_option maxRecDepth 100000 in
theorem eJoin_h2 : (ex (ccOf Try.prog BF [58, 84] eJoin) ((fun _ => []) (ccOf Try.prog BF [58, 84] eJoin)) (dw (ccOf Try.prog BF [58, 84] eJoin) ((fun _ => []) (ccOf Try.prog BF [58, 84] eJoin)) 1000 4) (stopX [138, 89, 137]) 4000 eJoin_T2.f eJoin_T2.fs eJoin_T2.H).lfs (ccOf Try.prog BF [58, 84] eJoin) ((tm0 eJoin Try.f27 (Try.f27.body.getD .skip)) :: [eJoin_T1, eJoin_T2]) eJoin.os = some eJoin_L2 := by kernel_rfl
def eJoin_inv : (Nat → Int) → (Nat → Bool) → Nat → (Nat → Int) → (Nat → Bool) → Prop := fun iv0 _ k iv bv => match k with
  | 0 => True
  | 1 => 0 ≤ iv 24 ∧ allM (iv0 0) (iv 24)
  | _ => allM (iv0 0) (iv0 1) ∧ 0 ≤ iv 25 ∧ iv 25 ≤ iv0 1 ∧ Msk (iv 26) (iv0 0) (iv 25)
def eJoin_mu : (Nat → Int) → (Nat → Bool) → Nat → (Nat → Int) → (Nat → Bool) → Nat := fun iv0 _ k iv _ => match k with
  | 0 => 2 ^ 200 | 1 => 2 ^ 70 + (iv0 1 - iv 24).toNat
  | _ => (iv0 1 - iv 25).toNat
set_option maxHeartbeats 0 in
theorem eJoin_o0 (kv : Kv) (iv0 : Nat → Int) (bv0 : Nat → Bool) (hin : InB eJoin.B iv0) (hF : FT (sta FI FB kv iv0 bv0) (dlt dyn0) eJoin.F) (iv : Nat → Int) (bv : Nat → Bool) (ha : Agr 4 iv0 bv0 iv bv) (hi : eJoin_inv iv0 bv0 0 iv bv) :
    ∀ lf ∈ eJoin_L0, LfT (sta FI FB kv) eJoin.os (eJoin_inv iv0 bv0) (eJoin_mu iv0 bv0) 0 iv bv lf := by
  unfold eJoin_L0
  refine List.forall_mem_cons.2 ⟨?_, List.forall_mem_nil _⟩
  all_goals
    intro δ hf
  all_goals
    simp only [FT, TP, SB.tp, SI.tv, sta, IB.eval, and_true, true_and, ObsT, Ob.Tv, rowT, kix, In.tiv, ↓tbvT, In.tbv, get_cons, get_nil, reduceIte, Nat.reduceEqDiff, Int.reduceToNat, Int.reduceAdd, Int.reduceSub, Int.reduceLE, Int.reduceLT, Int.reduceEq, ne_eq, Bool.false_eq_true, not_true_eq_false, not_false_eq_true, true_iff, false_iff, iff_true, iff_false, false_implies, implies_true, decT, decide_true, decide_false, Bool.decide_eq_true, ap2, pb2, FI_3, FI_8, FI_9, FI_10, FI_11, FI_12, FI_13, FB_10, FB_11, FB_12, FB_13, FB_14, FB_15, FB_16] at hf
  all_goals
    have a0 := ha.1 0 (by omega)
    have a1 := ha.1 1 (by omega)
    have a2 := ha.1 2 (by omega)
    have a3 := ha.1 3 (by omega)
  all_goals
    have b1 := hin 1 0 9223372036854775807 (by simp [eJoin, bM, fM, gM, lM])
    simp only [Int.reduceLE, reduceIte, Int.reduceNeg] at b1
  all_goals
    simp only [FT, TP, SB.tp, SI.tv, sta, IB.eval, and_true, true_and, ObsT, Ob.Tv, rowT, kix, In.tiv, ↓tbvT, In.tbv, get_cons, get_nil, reduceIte, Nat.reduceEqDiff, Int.reduceToNat, Int.reduceAdd, Int.reduceSub, Int.reduceLE, Int.reduceLT, Int.reduceEq, ne_eq, Bool.false_eq_true, not_true_eq_false, not_false_eq_true, true_iff, false_iff, iff_true, iff_false, false_implies, implies_true, decT, decide_true, decide_false, Bool.decide_eq_true, ap2, pb2, FI_3, FI_8, FI_9, FI_10, FI_11, FI_12, FI_13, FB_10, FB_11, FB_12, FB_13, FB_14, FB_15, FB_16, eJoin_inv, eJoin_mu, eJoin, o1, othT, bM, fM, gM, lM, a0, a1, a2, a3] at hf hi ⊢
  all_goals
    (repeat' (with_reducible apply And.intro)) <;> first
    | omega
    | assumption
    | (unfold inM; omega)
    | exact fun p h0 => by omega
set_option maxHeartbeats 0 in
theorem eJoin_o1 (kv : Kv) (iv0 : Nat → Int) (bv0 : Nat → Bool) (hin : InB eJoin.B iv0) (hF : FT (sta FI FB kv iv0 bv0) (dlt dyn0) eJoin.F) (iv : Nat → Int) (bv : Nat → Bool) (ha : Agr 4 iv0 bv0 iv bv) (hi : eJoin_inv iv0 bv0 1 iv bv) :
    ∀ lf ∈ eJoin_L1, LfT (sta FI FB kv) eJoin.os (eJoin_inv iv0 bv0) (eJoin_mu iv0 bv0) 1 iv bv lf := by
  unfold eJoin_L1
  refine List.forall_mem_cons.2 ⟨?_, List.forall_mem_cons.2 ⟨?_, List.forall_mem_cons.2 ⟨?_, List.forall_mem_cons.2 ⟨?_, List.forall_mem_nil _⟩⟩⟩⟩
  all_goals
    intro δ hf
  all_goals
    simp only [FT, TP, SB.tp, SI.tv, sta, IB.eval, and_true, true_and, ObsT, Ob.Tv, rowT, kix, In.tiv, ↓tbvT, In.tbv, get_cons, get_nil, reduceIte, Nat.reduceEqDiff, Int.reduceToNat, Int.reduceAdd, Int.reduceSub, Int.reduceLE, Int.reduceLT, Int.reduceEq, ne_eq, Bool.false_eq_true, not_true_eq_false, not_false_eq_true, true_iff, false_iff, iff_true, iff_false, false_implies, implies_true, decT, decide_true, decide_false, Bool.decide_eq_true, ap2, pb2, FI_3, FI_8, FI_9, FI_10, FI_11, FI_12, FI_13, FB_10, FB_11, FB_12, FB_13, FB_14, FB_15, FB_16] at hf
  all_goals
    have a0 := ha.1 0 (by omega)
    have a1 := ha.1 1 (by omega)
    have a2 := ha.1 2 (by omega)
    have a3 := ha.1 3 (by omega)
  all_goals
    have b1 := hin 1 0 9223372036854775807 (by simp [eJoin, bM, fM, gM, lM])
    simp only [Int.reduceLE, reduceIte, Int.reduceNeg] at b1
  all_goals
    simp only [FT, TP, SB.tp, SI.tv, sta, IB.eval, and_true, true_and, ObsT, Ob.Tv, rowT, kix, In.tiv, ↓tbvT, In.tbv, get_cons, get_nil, reduceIte, Nat.reduceEqDiff, Int.reduceToNat, Int.reduceAdd, Int.reduceSub, Int.reduceLE, Int.reduceLT, Int.reduceEq, ne_eq, Bool.false_eq_true, not_true_eq_false, not_false_eq_true, true_iff, false_iff, iff_true, iff_false, false_implies, implies_true, decT, decide_true, decide_false, Bool.decide_eq_true, ap2, pb2, FI_3, FI_8, FI_9, FI_10, FI_11, FI_12, FI_13, FB_10, FB_11, FB_12, FB_13, FB_14, FB_15, FB_16, eJoin_inv, eJoin_mu, eJoin, o1, othT, bM, fM, gM, lM, a0, a1, a2, a3] at hf hi ⊢
  all_goals
    (repeat' (with_reducible apply And.intro)) <;> first
    | omega
    | assumption
    | (unfold inM; omega)
    | exact all_succ hi.1 hi.2 (by unfold inM; omega)
    | exact fun j hj => hi.2 j (by omega)
    | exact Eq.symm (if_neg fun h => absurd (h (iv 24).toNat (by omega)) (by unfold inM; omega))
    | exact if_neg fun h => absurd (h (iv 24).toNat (by omega)) (by unfold inM; omega)
    | exact Msk.zero _
set_option maxHeartbeats 0 in
theorem eJoin_o2 (kv : Kv) (iv0 : Nat → Int) (bv0 : Nat → Bool) (hin : InB eJoin.B iv0) (hF : FT (sta FI FB kv iv0 bv0) (dlt dyn0) eJoin.F) (iv : Nat → Int) (bv : Nat → Bool) (ha : Agr 4 iv0 bv0 iv bv) (hi : eJoin_inv iv0 bv0 2 iv bv) :
    ∀ lf ∈ eJoin_L2, LfT (sta FI FB kv) eJoin.os (eJoin_inv iv0 bv0) (eJoin_mu iv0 bv0) 2 iv bv lf := by
  unfold eJoin_L2
  refine List.forall_mem_cons.2 ⟨?_, List.forall_mem_cons.2 ⟨?_, List.forall_mem_cons.2 ⟨?_, List.forall_mem_cons.2 ⟨?_, List.forall_mem_cons.2 ⟨?_, List.forall_mem_cons.2 ⟨?_, List.forall_mem_cons.2 ⟨?_, List.forall_mem_cons.2 ⟨?_, List.forall_mem_cons.2 ⟨?_, List.forall_mem_cons.2 ⟨?_, List.forall_mem_cons.2 ⟨?_, List.forall_mem_cons.2 ⟨?_, List.forall_mem_cons.2 ⟨?_, List.forall_mem_cons.2 ⟨?_, List.forall_mem_cons.2 ⟨?_, List.forall_mem_nil _⟩⟩⟩⟩⟩⟩⟩⟩⟩⟩⟩⟩⟩⟩⟩
  all_goals
    intro δ hf
  all_goals
    simp only [FT, TP, SB.tp, SI.tv, sta, IB.eval, and_true, true_and, ObsT, Ob.Tv, rowT, kix, In.tiv, ↓tbvT, In.tbv, get_cons, get_nil, reduceIte, Nat.reduceEqDiff, Int.reduceToNat, Int.reduceAdd, Int.reduceSub, Int.reduceLE, Int.reduceLT, Int.reduceEq, ne_eq, Bool.false_eq_true, not_true_eq_false, not_false_eq_true, true_iff, false_iff, iff_true, iff_false, false_implies, implies_true, decT, decide_true, decide_false, Bool.decide_eq_true, ap2, pb2, FI_3, FI_8, FI_9, FI_10, FI_11, FI_12, FI_13, FB_10, FB_11, FB_12, FB_13, FB_14, FB_15, FB_16] at hf
  all_goals
    have a0 := ha.1 0 (by omega)
    have a1 := ha.1 1 (by omega)
    have a2 := ha.1 2 (by omega)
    have a3 := ha.1 3 (by omega)
  all_goals
    have b1 := hin 1 0 9223372036854775807 (by simp [eJoin, bM, fM, gM, lM])
    simp only [Int.reduceLE, reduceIte, Int.reduceNeg] at b1
  all_goals
    simp only [FT, TP, SB.tp, SI.tv, sta, IB.eval, and_true, true_and, ObsT, Ob.Tv, rowT, kix, In.tiv, ↓tbvT, In.tbv, get_cons, get_nil, reduceIte, Nat.reduceEqDiff, Int.reduceToNat, Int.reduceAdd, Int.reduceSub, Int.reduceLE, Int.reduceLT, Int.reduceEq, ne_eq, Bool.false_eq_true, not_true_eq_false, not_false_eq_true, true_iff, false_iff, iff_true, iff_false, false_implies, implies_true, decT, decide_true, decide_false, Bool.decide_eq_true, ap2, pb2, FI_3, FI_8, FI_9, FI_10, FI_11, FI_12, FI_13, FB_10, FB_11, FB_12, FB_13, FB_14, FB_15, FB_16, eJoin_inv, eJoin_mu, eJoin, o1, othT, bM, fM, gM, lM, a0, a1, a2, a3] at hf hi ⊢
  all_goals
    try have hm := hi.1 (iv 25).toNat (by omega)
    try unfold inM at hm
  all_goals
    (repeat' (with_reducible apply And.intro)) <;> first
    | omega
    | assumption
    | (unfold inM; omega)
    | exact hi.1
    | exact if_pos hi.1
    | exact hi.2.2.2.step hi.2.1 (by omega)
    | (have e : iv 25 = iv0 1 := by omega
       rw [e] at hi
       have hj := hi.2.2.2.joins
       have hz := hi.2.2.2.1
       simp only [hi.2.2.2.fin 1 (by omega), hi.2.2.2.fin 3 (by omega), hi.2.2.2.fin 7 (by omega), hi.2.2.2.fin 11 (by omega), hi.2.2.2.fin 31 (by omega), hi.2.2.2.fin 63 (by omega), Int.reduceEq, reduceIte, Int.reduceNeg] at hf
       first | (rw [if_pos hi.1, hj]; clear hj; rcases hz with h | h | h | h | h | h | h | h <;> rw [h] at hf ⊢ <;> first | rfl | (exfalso; omega) | (simp at hf)) | (exfalso; omega))
set_option maxRecDepth 100000 in
theorem eJoin_c : LsC ((tm0 eJoin Try.f27 (Try.f27.body.getD .skip)) :: [eJoin_T1, eJoin_T2]) eJoin.os [eJoin_L0, eJoin_L1, eJoin_L2] := by
  unfold eJoin_L0 eJoin_L1 eJoin_L2
  exact ⟨List.forall_mem_cons.2 ⟨⟨⟨_, rfl, rfl⟩, by kernel_rfl⟩, List.forall_mem_nil _⟩, List.forall_mem_cons.2 ⟨⟨⟨_, rfl, rfl⟩, by kernel_rfl⟩, List.forall_mem_cons.2 ⟨⟨⟨_, rfl, rfl⟩, by kernel_rfl⟩, List.forall_mem_cons.2 ⟨⟨⟨_, rfl, rfl⟩, by kernel_rfl⟩, List.forall_mem_cons.2 ⟨⟨⟨_, rfl, rfl⟩, by kernel_rfl⟩, List.forall_mem_nil _⟩⟩⟩⟩, List.forall_mem_cons.2 ⟨⟨⟨_, rfl, rfl⟩, by kernel_rfl⟩, List.forall_mem_cons.2 ⟨⟨⟨_, rfl, rfl⟩, by kernel_rfl⟩, List.forall_mem_cons.2 ⟨⟨⟨_, rfl, rfl⟩, by kernel_rfl⟩, List.forall_mem_cons.2 ⟨⟨⟨_, rfl, rfl⟩, by kernel_rfl⟩, List.forall_mem_cons.2 ⟨⟨⟨_, rfl, rfl⟩, by kernel_rfl⟩, List.forall_mem_cons.2 ⟨⟨⟨_, rfl, rfl⟩, by kernel_rfl⟩, List.forall_mem_cons.2 ⟨trivial, List.forall_mem_cons.2 ⟨trivial, List.forall_mem_cons.2 ⟨⟨⟨_, rfl, rfl⟩, by kernel_rfl⟩, List.forall_mem_cons.2 ⟨⟨⟨_, rfl, rfl⟩, by kernel_rfl⟩, List.forall_mem_cons.2 ⟨⟨⟨_, rfl, rfl⟩, by kernel_rfl⟩, List.forall_mem_cons.2 ⟨⟨⟨_, rfl, rfl⟩, by kernel_rfl⟩, List.forall_mem_cons.2 ⟨⟨⟨_, rfl, rfl⟩, by kernel_rfl⟩, List.forall_mem_cons.2 ⟨⟨⟨_, rfl, rfl⟩, by kernel_rfl⟩, List.forall_mem_cons.2 ⟨⟨⟨_, rfl, rfl⟩, by kernel_rfl⟩, List.forall_mem_nil _⟩⟩⟩⟩⟩⟩⟩⟩⟩⟩⟩⟩⟩⟩⟩, trivial⟩
theorem eJoin_ok : eJoin.Ok Try.prog FI FB :=
  Con.of_plain (body := Try.f27.body.getD .skip) pok fiok EntsFor.nil eJoin Try.func27 (by kernel_rfl) 4 [eJoin_T1, eJoin_T2] (by kernel_rfl) [eJoin_L0, eJoin_L1, eJoin_L2] ⟨eJoin_h0, eJoin_h1, eJoin_h2, trivial⟩ eJoin_c
    eJoin_inv eJoin_mu (fun _ _ _ => trivial) fun kv iv0 bv0 hin hF k l iv bv hk ha hi => match k, hk, hi with
    | 0, hk, hi => by
      cases hk
      exact eJoin_o0 kv iv0 bv0 hin hF iv bv ha hi
    | 1, hk, hi => by
      cases hk
      exact eJoin_o1 kv iv0 bv0 hin hF iv bv ha hi
    | 2, hk, hi => by
      cases hk
      exact eJoin_o2 kv iv0 bv0 hin hF iv bv ha hi
    | k + 3, hk, _ => by simp at hk
end Go.Sx.Mhw
