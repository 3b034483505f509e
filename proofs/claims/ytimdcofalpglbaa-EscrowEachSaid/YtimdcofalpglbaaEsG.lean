import Derived.Test.YtimdcofalpglbaaEsF
namespace Go.Sx.Esc
set_option linter.unusedVariables false
set_option linter.unusedSimpArgs false
open Go Go.Sx Go.Proofs 
def ap50 (f : Nat) : SI := ap5 f
noncomputable def eRun : Con := ⟨20, [0, 1, 2, 3, 4, 5], [ctr, .sl (.k 0) (.v 4) (.v 3) (.v 5)], [⟨0, .v 4, [.nt .i64], 6, .v 3⟩], bL, [(.le (.c 0) (.v 5), true)],
  [⟨[(.le (.v 1) (.v 0), false)], .tp [.ag [.it .i64 (.c 0), .it .i64 (.c 0), .it .u64 (.c 0)], .it .i64 (.c 0), .it .i64 (.c 2)], [], 0, 0, []⟩,
   ⟨[(.le (.v 1) (.v 0), true), (.le (.v 2) (.c 4611686018427387904), false)], .tp [.ag [.it .i64 (.c 0), .it .i64 (.c 0), .it .u64 (.c 0)], .it .i64 (.c 0), .it .i64 (.c 2)], [], 0, 0, []⟩,
   ⟨[(.le (.v 1) (.v 0), true), (.le (.v 2) (.c 4611686018427387904), true)], .tp [.ag [.it .i64 (ap5 25), .it .i64 (ap5 26), .it .u64 (ap5 27)], .it .i64 (ap5 22), .it .i64 (ap5 23)], [], 0, 0, []⟩]⟩
noncomputable def ents2 (cc : Cc) : Ents := [eX.ent cc]
theorem ents_for2 : EntsFor Try.prog FI FB ents2 := EntsFor.cons eX_ok EntsFor.nil
theorem FI_25 (v f r c n x : Int) : FI 25 v f r c n x = IntKind.i64.wrap (seq (v, f, r) c (M v f r c n)).1 := rfl
theorem FI_26 (v f r c n x : Int) : FI 26 v f r c n x = IntKind.i64.wrap (seq (v, f, r) c (M v f r c n)).2.1 := rfl
theorem FI_27 (v f r c n x : Int) : FI 27 v f r c n x = IntKind.u64.wrap (seq (v, f, r) c (M v f r c n)).2.2 := rfl
/-- at a loop's head -/
def SeqInv (s : Int × Int × Int) (c n i v f r : Int) : Prop :=
  ∃ k : Nat, i = k ∧ 1 ≤ i ∧ i ≤ n ∧ n ≤ 50 ∧ seq s c k = (v, f, r) ∧ (∀ j, j < k → er s c j = 0)
theorem SeqInv.first {s : Int × Int × Int} {c n : Int} (h1 : 0 < n) (h2 : n ≤ 50) (he : xE s.1 s.2.1 s.2.2 (el c 0) = 0) : SeqInv s c n 1 (nxt s (el c 0)).1 (nxt s (el c 0)).2.1 (nxt s (el c 0)).2.2 :=
  ⟨1, rfl, by omega, by omega, by omega, rfl, fun j hj => by have : j = 0 := by omega
                                                             subst this; exact he⟩
theorem SeqInv.next {s : Int × Int × Int} {c n i v f r : Int} (h : SeqInv s c n i v f r) (hl : i < n) (he : xE v f r (el c i.toNat) = 0) : SeqInv s c n (i + 1) (nxt (v, f, r) (el c i.toNat)).1 (nxt (v, f, r) (el c i.toNat)).2.1 (nxt (v, f, r) (el c i.toNat)).2.2 := by
  obtain ⟨k, hk, h1, h2, h3, h4, h5⟩ := h
  rw [hk, Int.toNat_natCast] at he ⊢
  refine ⟨k + 1, by omega, by omega, by omega, by omega, ?_, fun j hj => ?_⟩
  · show nxt (seq _ _ k) _ = _
    rw [h4]
  · by_cases hjk : j = k
    · subst hjk
      show xE _ _ _ _ = 0
      rw [h4]; exact he
    · exact h5 j (by omega)
theorem SeqInv.stop {a b d : Int} {c n i v f r : Int} (h : SeqInv (a, b, d) c n i v f r) (he : i < n → xE v f r (el c i.toNat) ≠ 0) :
    IntKind.i64.wrap (seq (a, b, d) c (M a b d c n)).1 = v ∧ IntKind.i64.wrap (seq (a, b, d) c (M a b d c n)).2.1 = f ∧ IntKind.u64.wrap (seq (a, b, d) c (M a b d c n)).2.2 = r ∧ (M a b d c n : Int) = i ∧
      (if (M a b d c n : Int) < n then er (a, b, d) c (M a b d c n) else 0) = if i < n then xE v f r (el c i.toNat) else 0 := by
  obtain ⟨k, hk, h1, h2, h3, h4, h5⟩ := h
  have e : er (a, b, d) c k = xE v f r (el c i.toNat) := by
    unfold er; rw [h4, hk, Int.toNat_natCast]
  have hM : M a b d c n = k := M_is (s := (a, b, d)) h3 (by omega) h5 (by
    rcases Int.lt_or_le i n with h | h
    · exact .inr (by rw [e]; exact he h)
    · exact .inl (by omega))
  have hw : IntKind.i64.wrap v = v ∧ IntKind.i64.wrap f = f ∧ IntKind.u64.wrap r = r := by
    cases k with
    | zero => omega
    | succ k =>
      have := nxt_in (seq (a, b, d) c k) (el c k)
      have h4' : nxt (seq (a, b, d) c k) (el c k) = (v, f, r) := h4
      rw [h4'] at this
      exact this
  rw [hM, h4, e, hk]
  exact ⟨hw.1, hw.2.1, hw.2.2, rfl, rfl⟩
theorem M_none {a b d : Int} {c n : Int} (b0 : -9223372036854775808 ≤ a ∧ a ≤ 9223372036854775807) (b1 : -9223372036854775808 ≤ b ∧ b ≤ 9223372036854775807) (b2 : 0 ≤ d ∧ d ≤ 18446744073709551615) (h2 : n ≤ 50) (h0 : 0 ≤ n) (he : 0 < n → xE a b d (el c 0) ≠ 0) :
    IntKind.i64.wrap (seq (a, b, d) c (M a b d c n)).1 = a ∧ IntKind.i64.wrap (seq (a, b, d) c (M a b d c n)).2.1 = b ∧ IntKind.u64.wrap (seq (a, b, d) c (M a b d c n)).2.2 = d ∧ (M a b d c n : Int) = 0 ∧
      (if (M a b d c n : Int) < n then er (a, b, d) c (M a b d c n) else 0) = if 0 < n then xE a b d (el c 0) else 0 := by
  have hM : M a b d c n = 0 := M_is (s := (a, b, d)) (k := 0) h2 h0 (fun j hj => absurd hj (Nat.not_lt_zero _)) (by
    rcases Int.lt_or_le 0 n with h | h
    · exact .inr (he h)
    · exact .inl (by simp; omega))
  rw [hM]
  refine ⟨?_, ?_, ?_, rfl, rfl⟩ <;> simp only [seq, wrap_i64, wrap_u64] <;> omega
noncomputable def eRun_T1 : Tm := ⟨⟨31, 34, [(12, (.it .i64 (.v 28))), (11, (.it .i64 (.v 3))), (10, (.sl (.n 7) (.c 0) (.v 3) (.v 27))), (4, (.pt (.n 11) (.c 0))), (0, (.yl 10))], [(.inLoop (atC Try.f31 [0, 1, 1, 1, 0, 0])), (.inBlock 0), (.inScope (atC Try.f31 [0]))], [], .none⟩, [⟨20, 45, [(8, (.pt (.n 4) (.c 0))), (4, (.pt (.n 1) (.c 0))), (2, (.pt (.n 0) (.c 0))), (1, (.sl (.k 0) (.v 4) (.v 3) (.v 5)))], [(.inRangeFunc 10), (.inBlock 0), (.code (atC Try.f20 [1, 1, 1, 1]))], [9], .none⟩],
    ⟨[(0, (.cells [(.it .i64 (.v 29)), (.it .i64 (.v 30)), (.it .u64 (.v 31))] 24)), (1, (.cells [(.it .i64 (.c 0)), (.it .i64 (.c 0)), (.it .u64 (.c 0))] 24)), (4, (.cells [(.it .i64 (.v 28))] 3)), (7, (.arr [(.nt .i64)] (.v 6) (.v 3) 2 (.v 27))), (9, .dfr), (10, (.loop .ready .none 20 45 [(8, (.pt (.n 4) (.c 0))), (2, (.pt (.n 0) (.c 0)))] #[22, 23] (atC Try.f20 [1, 1, 1, 0, 1, 0, 0]) (atC Try.f20 [1, 1, 1, 0, 1, 0, 1]) 9)), (11, (.cells [(.it .i64 (.v 29)), (.it .i64 (.v 30)), (.it .u64 (.v 31))] 24))], 12, 0, 0, [((.eq (.ap 21 (.v 0) (.v 1) (.v 2) (.ap 3 (.v 6) (.c 0) (.c 0) (.c 0) (.c 0) (.c 0)) (.c 0) (.c 0)) (.c 0)), .true), ((.lt (.c 0) (.v 3)), .true), ((.le (.v 2) (.c 4611686018427387904)), .true), ((.le (.v 1) (.v 0)), .true), ((.le (.c 0) (.v 5)), .true)], [1, 0], [(28, (0, 50)), (29, ((-9223372036854775808), 9223372036854775807)), (30, ((-9223372036854775808), 9223372036854775807)), (31, (0, 18446744073709551615)), (3, (1, 50)), (2, (0, 4611686018427387904)), (4, (0, (-1))), (0, ((-9223372036854775808), 9223372036854775807)), (1, ((-9223372036854775808), 9223372036854775807))]⟩, [28, 29, 30, 31, 27]⟩
noncomputable def eRun_L0 : List Lf :=
  [(.cut [((.eq (.ap 21 (.v 0) (.v 1) (.v 2) (.ap 3 (.v 6) (.c 0) (.c 0) (.c 0) (.c 0) (.c 0)) (.c 0) (.c 0)) (.c 0)), .true), ((.lt (.c 0) (.v 3)), .true), ((.le (.v 3) (.d 0)), .true), ((.le (.v 2) (.c 4611686018427387904)), .true), ((.le (.v 1) (.v 0)), .true), ((.le (.c 0) (.v 5)), .true)] 1 ⟨⟨[(31, (.ap 20 (.v 0) (.v 1) (.v 2) (.ap 3 (.v 6) (.c 0) (.c 0) (.c 0) (.c 0) (.c 0)) (.c 0) (.c 0))), (30, (.ap 19 (.v 0) (.v 1) (.v 2) (.ap 3 (.v 6) (.c 0) (.c 0) (.c 0) (.c 0) (.c 0)) (.c 0) (.c 0))), (29, (.ap 18 (.v 0) (.v 1) (.v 2) (.ap 3 (.v 6) (.c 0) (.c 0) (.c 0) (.c 0) (.c 0)) (.c 0) (.c 0))), (27, (.d 0)), (28, (.c 1))], []⟩, [(9, 9), (0, 0), (1, 1), (4, 4), (10, 10), (11, 11), (7, 7)], [], []⟩ [] (shT eRun_T1 ⟨⟨[(31, (.ap 20 (.v 0) (.v 1) (.v 2) (.ap 3 (.v 6) (.c 0) (.c 0) (.c 0) (.c 0) (.c 0)) (.c 0) (.c 0))), (30, (.ap 19 (.v 0) (.v 1) (.v 2) (.ap 3 (.v 6) (.c 0) (.c 0) (.c 0) (.c 0) (.c 0)) (.c 0) (.c 0))), (29, (.ap 18 (.v 0) (.v 1) (.v 2) (.ap 3 (.v 6) (.c 0) (.c 0) (.c 0) (.c 0) (.c 0)) (.c 0) (.c 0))), (27, (.d 0)), (28, (.c 1))], []⟩, [(9, 9), (0, 0), (1, 1), (4, 4), (10, 10), (11, 11), (7, 7)], [], []⟩)), (.fin [((.eq (.ap 21 (.v 0) (.v 1) (.v 2) (.ap 3 (.v 6) (.c 0) (.c 0) (.c 0) (.c 0) (.c 0)) (.c 0) (.c 0)) (.c 0)), .false), ((.lt (.c 0) (.v 3)), .true), ((.le (.v 3) (.d 0)), .true), ((.le (.v 2) (.c 4611686018427387904)), .true), ((.le (.v 1) (.v 0)), .true), ((.le (.c 0) (.v 5)), .true)] 2 ⟨⟨[], []⟩, [], [], []⟩ [(.ei (.ap 25 (.v 0) (.v 1) (.v 2) (.v 6) (.v 3) (.c 0)) (.v 0)), (.ei (.ap 26 (.v 0) (.v 1) (.v 2) (.v 6) (.v 3) (.c 0)) (.v 1)), (.ei (.ap 27 (.v 0) (.v 1) (.v 2) (.v 6) (.v 3) (.c 0)) (.v 2)), (.ei (.ap 22 (.v 0) (.v 1) (.v 2) (.v 6) (.v 3) (.c 0)) (.c 0)), (.ei (.ap 23 (.v 0) (.v 1) (.v 2) (.v 6) (.v 3) (.c 0)) (.ap 21 (.v 0) (.v 1) (.v 2) (.ap 3 (.v 6) (.c 0) (.c 0) (.c 0) (.c 0) (.c 0)) (.c 0) (.c 0)))] []), (.fin [((.eq (.c 0) (.v 3)), .true), ((.lt (.c 0) (.v 3)), .false), ((.le (.v 3) (.d 0)), .true), ((.le (.v 2) (.c 4611686018427387904)), .true), ((.le (.v 1) (.v 0)), .true), ((.le (.c 0) (.v 5)), .true)] 2 ⟨⟨[], []⟩, [], [], []⟩ [(.ei (.ap 25 (.v 0) (.v 1) (.v 2) (.v 6) (.v 3) (.c 0)) (.v 0)), (.ei (.ap 26 (.v 0) (.v 1) (.v 2) (.v 6) (.v 3) (.c 0)) (.v 1)), (.ei (.ap 27 (.v 0) (.v 1) (.v 2) (.v 6) (.v 3) (.c 0)) (.v 2)), (.ei (.ap 22 (.v 0) (.v 1) (.v 2) (.v 6) (.v 3) (.c 0)) (.c 0)), (.ei (.ap 23 (.v 0) (.v 1) (.v 2) (.v 6) (.v 3) (.c 0)) (.c 0))] []), (.bad [((.eq (.c 0) (.v 3)), .false), ((.lt (.c 0) (.v 3)), .false), ((.le (.v 3) (.d 0)), .true), ((.le (.v 2) (.c 4611686018427387904)), .true), ((.le (.v 1) (.v 0)), .true), ((.le (.c 0) (.v 5)), .true)]), (.fin [((.le (.v 2) (.c 4611686018427387904)), .false), ((.le (.v 1) (.v 0)), .true), ((.le (.c 0) (.v 5)), .true)] 1 ⟨⟨[], []⟩, [], [], []⟩ [] []), (.fin [((.le (.v 1) (.v 0)), .false), ((.le (.c 0) (.v 5)), .true)] 0 ⟨⟨[], []⟩, [], [], []⟩ [] [])]
noncomputable def eRun_L1 : List Lf :=
  [(.cut [((.eq (.ap 21 (.v 29) (.v 30) (.v 31) (.ap 3 (.v 6) (.v 28) (.c 0) (.c 0) (.c 0) (.c 0)) (.c 0) (.c 0)) (.c 0)), .true), ((.lt (.v 28) (.v 3)), .true), ((.eq (.ap 21 (.v 0) (.v 1) (.v 2) (.ap 3 (.v 6) (.c 0) (.c 0) (.c 0) (.c 0) (.c 0)) (.c 0) (.c 0)) (.c 0)), .true), ((.lt (.c 0) (.v 3)), .true), ((.le (.v 2) (.c 4611686018427387904)), .true), ((.le (.v 1) (.v 0)), .true), ((.le (.c 0) (.v 5)), .true)] 1 ⟨⟨[(31, (.ap 20 (.v 29) (.v 30) (.v 31) (.ap 3 (.v 6) (.v 28) (.c 0) (.c 0) (.c 0) (.c 0)) (.c 0) (.c 0))), (30, (.ap 19 (.v 29) (.v 30) (.v 31) (.ap 3 (.v 6) (.v 28) (.c 0) (.c 0) (.c 0) (.c 0)) (.c 0) (.c 0))), (29, (.ap 18 (.v 29) (.v 30) (.v 31) (.ap 3 (.v 6) (.v 28) (.c 0) (.c 0) (.c 0) (.c 0)) (.c 0) (.c 0))), (27, (.v 27)), (28, (.op .add (.v 28) (.c 1)))], []⟩, [(9, 9), (0, 0), (1, 1), (4, 4), (10, 10), (11, 11), (7, 7)], [], []⟩ [(.rn (.op .add (.v 28) (.c 1)) 0 50)] (shT eRun_T1 ⟨⟨[(31, (.ap 20 (.v 29) (.v 30) (.v 31) (.ap 3 (.v 6) (.v 28) (.c 0) (.c 0) (.c 0) (.c 0)) (.c 0) (.c 0))), (30, (.ap 19 (.v 29) (.v 30) (.v 31) (.ap 3 (.v 6) (.v 28) (.c 0) (.c 0) (.c 0) (.c 0)) (.c 0) (.c 0))), (29, (.ap 18 (.v 29) (.v 30) (.v 31) (.ap 3 (.v 6) (.v 28) (.c 0) (.c 0) (.c 0) (.c 0)) (.c 0) (.c 0))), (27, (.v 27)), (28, (.op .add (.v 28) (.c 1)))], []⟩, [(9, 9), (0, 0), (1, 1), (4, 4), (10, 10), (11, 11), (7, 7)], [], []⟩)), (.fin [((.eq (.v 28) (.v 3)), .true), ((.eq (.ap 21 (.v 29) (.v 30) (.v 31) (.ap 3 (.v 6) (.v 28) (.c 0) (.c 0) (.c 0) (.c 0)) (.c 0) (.c 0)) (.c 0)), .false), ((.lt (.v 28) (.v 3)), .true), ((.eq (.ap 21 (.v 0) (.v 1) (.v 2) (.ap 3 (.v 6) (.c 0) (.c 0) (.c 0) (.c 0) (.c 0)) (.c 0) (.c 0)) (.c 0)), .true), ((.lt (.c 0) (.v 3)), .true), ((.le (.v 2) (.c 4611686018427387904)), .true), ((.le (.v 1) (.v 0)), .true), ((.le (.c 0) (.v 5)), .true)] 2 ⟨⟨[], []⟩, [], [], []⟩ [(.ei (.ap 25 (.v 0) (.v 1) (.v 2) (.v 6) (.v 3) (.c 0)) (.v 29)), (.ei (.ap 26 (.v 0) (.v 1) (.v 2) (.v 6) (.v 3) (.c 0)) (.v 30)), (.ei (.ap 27 (.v 0) (.v 1) (.v 2) (.v 6) (.v 3) (.c 0)) (.v 31)), (.ei (.ap 22 (.v 0) (.v 1) (.v 2) (.v 6) (.v 3) (.c 0)) (.v 28)), (.ei (.ap 23 (.v 0) (.v 1) (.v 2) (.v 6) (.v 3) (.c 0)) (.c 0))] []), (.fin [((.eq (.v 28) (.v 3)), .false), ((.eq (.ap 21 (.v 29) (.v 30) (.v 31) (.ap 3 (.v 6) (.v 28) (.c 0) (.c 0) (.c 0) (.c 0)) (.c 0) (.c 0)) (.c 0)), .false), ((.lt (.v 28) (.v 3)), .true), ((.eq (.ap 21 (.v 0) (.v 1) (.v 2) (.ap 3 (.v 6) (.c 0) (.c 0) (.c 0) (.c 0) (.c 0)) (.c 0) (.c 0)) (.c 0)), .true), ((.lt (.c 0) (.v 3)), .true), ((.le (.v 2) (.c 4611686018427387904)), .true), ((.le (.v 1) (.v 0)), .true), ((.le (.c 0) (.v 5)), .true)] 2 ⟨⟨[], []⟩, [], [], []⟩ [(.ei (.ap 25 (.v 0) (.v 1) (.v 2) (.v 6) (.v 3) (.c 0)) (.v 29)), (.ei (.ap 26 (.v 0) (.v 1) (.v 2) (.v 6) (.v 3) (.c 0)) (.v 30)), (.ei (.ap 27 (.v 0) (.v 1) (.v 2) (.v 6) (.v 3) (.c 0)) (.v 31)), (.ei (.ap 22 (.v 0) (.v 1) (.v 2) (.v 6) (.v 3) (.c 0)) (.v 28)), (.ei (.ap 23 (.v 0) (.v 1) (.v 2) (.v 6) (.v 3) (.c 0)) (.ap 21 (.v 29) (.v 30) (.v 31) (.ap 3 (.v 6) (.v 28) (.c 0) (.c 0) (.c 0) (.c 0)) (.c 0) (.c 0)))] []), (.fin [((.eq (.v 28) (.v 3)), .true), ((.lt (.v 28) (.v 3)), .false), ((.eq (.ap 21 (.v 0) (.v 1) (.v 2) (.ap 3 (.v 6) (.c 0) (.c 0) (.c 0) (.c 0) (.c 0)) (.c 0) (.c 0)) (.c 0)), .true), ((.lt (.c 0) (.v 3)), .true), ((.le (.v 2) (.c 4611686018427387904)), .true), ((.le (.v 1) (.v 0)), .true), ((.le (.c 0) (.v 5)), .true)] 2 ⟨⟨[], []⟩, [], [], []⟩ [(.ei (.ap 25 (.v 0) (.v 1) (.v 2) (.v 6) (.v 3) (.c 0)) (.v 29)), (.ei (.ap 26 (.v 0) (.v 1) (.v 2) (.v 6) (.v 3) (.c 0)) (.v 30)), (.ei (.ap 27 (.v 0) (.v 1) (.v 2) (.v 6) (.v 3) (.c 0)) (.v 31)), (.ei (.ap 22 (.v 0) (.v 1) (.v 2) (.v 6) (.v 3) (.c 0)) (.v 28)), (.ei (.ap 23 (.v 0) (.v 1) (.v 2) (.v 6) (.v 3) (.c 0)) (.c 0))] []), (.bad [((.eq (.v 28) (.v 3)), .false), ((.lt (.v 28) (.v 3)), .false), ((.eq (.ap 21 (.v 0) (.v 1) (.v 2) (.ap 3 (.v 6) (.c 0) (.c 0) (.c 0) (.c 0) (.c 0)) (.c 0) (.c 0)) (.c 0)), .true), ((.lt (.c 0) (.v 3)), .true), ((.le (.v 2) (.c 4611686018427387904)), .true), ((.le (.v 1) (.v 0)), .true), ((.le (.c 0) (.v 5)), .true)])]
set_option maxRecDepth 100000 in
theorem eRun_h0 : (ex (ccOf Try.prog BF [24] eRun) (ents2 (ccOf Try.prog BF [24] eRun)) (dw (ccOf Try.prog BF [24] eRun) (ents2 (ccOf Try.prog BF [24] eRun)) 1000 4) (stopL [(31, 3, 1)]) 4000 (tm0 eRun Try.f20 (Try.f20.body.getD .skip)).f (tm0 eRun Try.f20 (Try.f20.body.getD .skip)).fs (tm0 eRun Try.f20 (Try.f20.body.getD .skip)).H).lfs (ccOf Try.prog BF [24] eRun) ((tm0 eRun Try.f20 (Try.f20.body.getD .skip)) :: [eRun_T1]) eRun.os = some eRun_L0 := by kernel_rfl
set_option maxRecDepth 100000 in
theorem eRun_h1 : (ex (ccOf Try.prog BF [24] eRun) (ents2 (ccOf Try.prog BF [24] eRun)) (dw (ccOf Try.prog BF [24] eRun) (ents2 (ccOf Try.prog BF [24] eRun)) 1000 4) (stopL [(31, 3, 1)]) 4000 eRun_T1.f eRun_T1.fs eRun_T1.H).lfs (ccOf Try.prog BF [24] eRun) ((tm0 eRun Try.f20 (Try.f20.body.getD .skip)) :: [eRun_T1]) eRun.os = some eRun_L1 := by kernel_rfl
def eRun_inv : (Nat → Int) → (Nat → Bool) → Nat → (Nat → Int) → (Nat → Bool) → Prop := fun iv0 _ k iv _ => match k with
  | 0 => True
  | _ => SeqInv (iv0 0, iv0 1, iv0 2) (iv0 6) (iv0 3) (iv 28) (iv 29) (iv 30) (iv 31)
def eRun_mu : (Nat → Int) → (Nat → Bool) → Nat → (Nat → Int) → (Nat → Bool) → Nat := fun iv0 _ k iv _ => match k with | 0 => 1000 | _ => (iv0 3 - iv 28).toNat
set_option maxHeartbeats 1000000 in
theorem eRun_o0_0 (kv : Nat → Nat) (iv0 : Nat → Int) (bv0 : Nat → Bool) (hin : InB eRun.B iv0) (hF : FT (sta FI FB kv iv0 bv0) (dlt dyn0) eRun.F) (iv : Nat → Int) (bv : Nat → Bool) (ha : Agr 7 iv0 bv0 iv bv) (hi : eRun_inv iv0 bv0 0 iv bv) :
    LfT (sta FI FB kv) eRun.os (eRun_inv iv0 bv0) (eRun_mu iv0 bv0) 0 iv bv (.cut [((.eq (.ap 21 (.v 0) (.v 1) (.v 2) (.ap 3 (.v 6) (.c 0) (.c 0) (.c 0) (.c 0) (.c 0)) (.c 0) (.c 0)) (.c 0)), .true), ((.lt (.c 0) (.v 3)), .true), ((.le (.v 3) (.d 0)), .true), ((.le (.v 2) (.c 4611686018427387904)), .true), ((.le (.v 1) (.v 0)), .true), ((.le (.c 0) (.v 5)), .true)] 1 ⟨⟨[(31, (.ap 20 (.v 0) (.v 1) (.v 2) (.ap 3 (.v 6) (.c 0) (.c 0) (.c 0) (.c 0) (.c 0)) (.c 0) (.c 0))), (30, (.ap 19 (.v 0) (.v 1) (.v 2) (.ap 3 (.v 6) (.c 0) (.c 0) (.c 0) (.c 0) (.c 0)) (.c 0) (.c 0))), (29, (.ap 18 (.v 0) (.v 1) (.v 2) (.ap 3 (.v 6) (.c 0) (.c 0) (.c 0) (.c 0) (.c 0)) (.c 0) (.c 0))), (27, (.d 0)), (28, (.c 1))], []⟩, [(9, 9), (0, 0), (1, 1), (4, 4), (10, 10), (11, 11), (7, 7)], [], []⟩ [] (shT eRun_T1 ⟨⟨[(31, (.ap 20 (.v 0) (.v 1) (.v 2) (.ap 3 (.v 6) (.c 0) (.c 0) (.c 0) (.c 0) (.c 0)) (.c 0) (.c 0))), (30, (.ap 19 (.v 0) (.v 1) (.v 2) (.ap 3 (.v 6) (.c 0) (.c 0) (.c 0) (.c 0) (.c 0)) (.c 0) (.c 0))), (29, (.ap 18 (.v 0) (.v 1) (.v 2) (.ap 3 (.v 6) (.c 0) (.c 0) (.c 0) (.c 0) (.c 0)) (.c 0) (.c 0))), (27, (.d 0)), (28, (.c 1))], []⟩, [(9, 9), (0, 0), (1, 1), (4, 4), (10, 10), (11, 11), (7, 7)], [], []⟩)) := by
  intro δ hf
  simp only [FT, TP, SB.tp, SI.tv, sta, IB.eval, and_true, true_and, ObsT, Ob.Tv, rowT, kix, In.tiv, In.tbv, get_cons, get_nil, reduceIte, Nat.reduceEqDiff, Int.reduceToNat, Int.reduceAdd, ap5, ne_eq, Bool.false_eq_true, not_true_eq_false, not_false_eq_true, FI_3, FI_7, FI_8, FI_9, FI_10, FI_11, FI_12, FI_13, FI_14, FI_15, FI_16, FI_17, FI_18, FI_19, FI_20, FI_21, FI_22, FI_23, FI_24, FI_25, FI_26, FI_27] at hf
  have a0 := ha.1 0 (by omega)
  have a1 := ha.1 1 (by omega)
  have a2 := ha.1 2 (by omega)
  have a3 := ha.1 3 (by omega)
  have a6 := ha.1 6 (by omega)
  have b0 := hin 0 (-9223372036854775808) 9223372036854775807 (by simp [eRun, bL, b3])
  have b1 := hin 1 (-9223372036854775808) 9223372036854775807 (by simp [eRun, bL, b3])
  have b2 := hin 2 0 18446744073709551615 (by simp [eRun, bL, b3])
  have b3 := hin 3 0 50 (by simp [eRun, bL])
  simp only [FT, TP, SB.tp, SI.tv, sta, IB.eval, and_true, true_and, ObsT, Ob.Tv, rowT, kix, In.tiv, In.tbv, get_cons, get_nil, reduceIte, Nat.reduceEqDiff, Int.reduceToNat, Int.reduceAdd, ap5, ne_eq, Bool.false_eq_true, not_true_eq_false, not_false_eq_true, FI_3, FI_7, FI_8, FI_9, FI_10, FI_11, FI_12, FI_13, FI_14, FI_15, FI_16, FI_17, FI_18, FI_19, FI_20, FI_21, FI_22, FI_23, FI_24, FI_25, FI_26, FI_27, eRun_inv, eRun_mu, eRun, othT, a0, a1, a2, a3, a6] at hf hi ⊢
  exact ⟨SeqInv.first hf.2.1 (by omega) hf.1, by omega⟩

set_option maxHeartbeats 1000000 in
theorem eRun_o0_1 (kv : Nat → Nat) (iv0 : Nat → Int) (bv0 : Nat → Bool) (hin : InB eRun.B iv0) (hF : FT (sta FI FB kv iv0 bv0) (dlt dyn0) eRun.F) (iv : Nat → Int) (bv : Nat → Bool) (ha : Agr 7 iv0 bv0 iv bv) (hi : eRun_inv iv0 bv0 0 iv bv) :
    LfT (sta FI FB kv) eRun.os (eRun_inv iv0 bv0) (eRun_mu iv0 bv0) 0 iv bv (.fin [((.eq (.ap 21 (.v 0) (.v 1) (.v 2) (.ap 3 (.v 6) (.c 0) (.c 0) (.c 0) (.c 0) (.c 0)) (.c 0) (.c 0)) (.c 0)), .false), ((.lt (.c 0) (.v 3)), .true), ((.le (.v 3) (.d 0)), .true), ((.le (.v 2) (.c 4611686018427387904)), .true), ((.le (.v 1) (.v 0)), .true), ((.le (.c 0) (.v 5)), .true)] 2 ⟨⟨[], []⟩, [], [], []⟩ [(.ei (.ap 25 (.v 0) (.v 1) (.v 2) (.v 6) (.v 3) (.c 0)) (.v 0)), (.ei (.ap 26 (.v 0) (.v 1) (.v 2) (.v 6) (.v 3) (.c 0)) (.v 1)), (.ei (.ap 27 (.v 0) (.v 1) (.v 2) (.v 6) (.v 3) (.c 0)) (.v 2)), (.ei (.ap 22 (.v 0) (.v 1) (.v 2) (.v 6) (.v 3) (.c 0)) (.c 0)), (.ei (.ap 23 (.v 0) (.v 1) (.v 2) (.v 6) (.v 3) (.c 0)) (.ap 21 (.v 0) (.v 1) (.v 2) (.ap 3 (.v 6) (.c 0) (.c 0) (.c 0) (.c 0) (.c 0)) (.c 0) (.c 0)))] []) := by
  intro δ hf
  simp only [FT, TP, SB.tp, SI.tv, sta, IB.eval, and_true, true_and, ObsT, Ob.Tv, rowT, kix, In.tiv, In.tbv, get_cons, get_nil, reduceIte, Nat.reduceEqDiff, Int.reduceToNat, Int.reduceAdd, ap5, ne_eq, Bool.false_eq_true, not_true_eq_false, not_false_eq_true, FI_3, FI_7, FI_8, FI_9, FI_10, FI_11, FI_12, FI_13, FI_14, FI_15, FI_16, FI_17, FI_18, FI_19, FI_20, FI_21, FI_22, FI_23, FI_24, FI_25, FI_26, FI_27] at hf
  have a0 := ha.1 0 (by omega)
  have a1 := ha.1 1 (by omega)
  have a2 := ha.1 2 (by omega)
  have a3 := ha.1 3 (by omega)
  have a6 := ha.1 6 (by omega)
  have b0 := hin 0 (-9223372036854775808) 9223372036854775807 (by simp [eRun, bL, b3])
  have b1 := hin 1 (-9223372036854775808) 9223372036854775807 (by simp [eRun, bL, b3])
  have b2 := hin 2 0 18446744073709551615 (by simp [eRun, bL, b3])
  have b3 := hin 3 0 50 (by simp [eRun, bL])
  simp only [FT, TP, SB.tp, SI.tv, sta, IB.eval, and_true, true_and, ObsT, Ob.Tv, rowT, kix, In.tiv, In.tbv, get_cons, get_nil, reduceIte, Nat.reduceEqDiff, Int.reduceToNat, Int.reduceAdd, ap5, ne_eq, Bool.false_eq_true, not_true_eq_false, not_false_eq_true, FI_3, FI_7, FI_8, FI_9, FI_10, FI_11, FI_12, FI_13, FI_14, FI_15, FI_16, FI_17, FI_18, FI_19, FI_20, FI_21, FI_22, FI_23, FI_24, FI_25, FI_26, FI_27, eRun_inv, eRun_mu, eRun, othT, a0, a1, a2, a3, a6] at hf hi ⊢
  have h := M_none b0 b1 b2 b3.2 b3.1 (fun _ => hf.1)
  refine ⟨?_, ?_⟩
  · rw [if_pos hf.2.1] at h; exact h
  · refine ⟨?_, ?_, ?_⟩ <;> intros <;> simp_all

set_option maxHeartbeats 1000000 in
theorem eRun_o0_2 (kv : Nat → Nat) (iv0 : Nat → Int) (bv0 : Nat → Bool) (hin : InB eRun.B iv0) (hF : FT (sta FI FB kv iv0 bv0) (dlt dyn0) eRun.F) (iv : Nat → Int) (bv : Nat → Bool) (ha : Agr 7 iv0 bv0 iv bv) (hi : eRun_inv iv0 bv0 0 iv bv) :
    LfT (sta FI FB kv) eRun.os (eRun_inv iv0 bv0) (eRun_mu iv0 bv0) 0 iv bv (.fin [((.eq (.c 0) (.v 3)), .true), ((.lt (.c 0) (.v 3)), .false), ((.le (.v 3) (.d 0)), .true), ((.le (.v 2) (.c 4611686018427387904)), .true), ((.le (.v 1) (.v 0)), .true), ((.le (.c 0) (.v 5)), .true)] 2 ⟨⟨[], []⟩, [], [], []⟩ [(.ei (.ap 25 (.v 0) (.v 1) (.v 2) (.v 6) (.v 3) (.c 0)) (.v 0)), (.ei (.ap 26 (.v 0) (.v 1) (.v 2) (.v 6) (.v 3) (.c 0)) (.v 1)), (.ei (.ap 27 (.v 0) (.v 1) (.v 2) (.v 6) (.v 3) (.c 0)) (.v 2)), (.ei (.ap 22 (.v 0) (.v 1) (.v 2) (.v 6) (.v 3) (.c 0)) (.c 0)), (.ei (.ap 23 (.v 0) (.v 1) (.v 2) (.v 6) (.v 3) (.c 0)) (.c 0))] []) := by
  intro δ hf
  simp only [FT, TP, SB.tp, SI.tv, sta, IB.eval, and_true, true_and, ObsT, Ob.Tv, rowT, kix, In.tiv, In.tbv, get_cons, get_nil, reduceIte, Nat.reduceEqDiff, Int.reduceToNat, Int.reduceAdd, ap5, ne_eq, Bool.false_eq_true, not_true_eq_false, not_false_eq_true, FI_3, FI_7, FI_8, FI_9, FI_10, FI_11, FI_12, FI_13, FI_14, FI_15, FI_16, FI_17, FI_18, FI_19, FI_20, FI_21, FI_22, FI_23, FI_24, FI_25, FI_26, FI_27] at hf
  have a0 := ha.1 0 (by omega)
  have a1 := ha.1 1 (by omega)
  have a2 := ha.1 2 (by omega)
  have a3 := ha.1 3 (by omega)
  have a6 := ha.1 6 (by omega)
  have b0 := hin 0 (-9223372036854775808) 9223372036854775807 (by simp [eRun, bL, b3])
  have b1 := hin 1 (-9223372036854775808) 9223372036854775807 (by simp [eRun, bL, b3])
  have b2 := hin 2 0 18446744073709551615 (by simp [eRun, bL, b3])
  have b3 := hin 3 0 50 (by simp [eRun, bL])
  simp only [FT, TP, SB.tp, SI.tv, sta, IB.eval, and_true, true_and, ObsT, Ob.Tv, rowT, kix, In.tiv, In.tbv, get_cons, get_nil, reduceIte, Nat.reduceEqDiff, Int.reduceToNat, Int.reduceAdd, ap5, ne_eq, Bool.false_eq_true, not_true_eq_false, not_false_eq_true, FI_3, FI_7, FI_8, FI_9, FI_10, FI_11, FI_12, FI_13, FI_14, FI_15, FI_16, FI_17, FI_18, FI_19, FI_20, FI_21, FI_22, FI_23, FI_24, FI_25, FI_26, FI_27, eRun_inv, eRun_mu, eRun, othT, a0, a1, a2, a3, a6] at hf hi ⊢
  have h := M_none (c := iv0 6) b0 b1 b2 b3.2 b3.1 (fun h => absurd h hf.2.1)
  refine ⟨?_, ?_⟩
  · rw [if_neg hf.2.1] at h; exact h
  · refine ⟨?_, ?_, ?_⟩ <;> intros <;> simp_all

set_option maxHeartbeats 1000000 in
theorem eRun_o0_3 (kv : Nat → Nat) (iv0 : Nat → Int) (bv0 : Nat → Bool) (hin : InB eRun.B iv0) (hF : FT (sta FI FB kv iv0 bv0) (dlt dyn0) eRun.F) (iv : Nat → Int) (bv : Nat → Bool) (ha : Agr 7 iv0 bv0 iv bv) (hi : eRun_inv iv0 bv0 0 iv bv) :
    LfT (sta FI FB kv) eRun.os (eRun_inv iv0 bv0) (eRun_mu iv0 bv0) 0 iv bv (.bad [((.eq (.c 0) (.v 3)), .false), ((.lt (.c 0) (.v 3)), .false), ((.le (.v 3) (.d 0)), .true), ((.le (.v 2) (.c 4611686018427387904)), .true), ((.le (.v 1) (.v 0)), .true), ((.le (.c 0) (.v 5)), .true)]) := by
  intro δ hf
  simp only [FT, TP, SB.tp, SI.tv, sta, IB.eval, and_true, true_and, ObsT, Ob.Tv, rowT, kix, In.tiv, In.tbv, get_cons, get_nil, reduceIte, Nat.reduceEqDiff, Int.reduceToNat, Int.reduceAdd, ap5, ne_eq, Bool.false_eq_true, not_true_eq_false, not_false_eq_true, FI_3, FI_7, FI_8, FI_9, FI_10, FI_11, FI_12, FI_13, FI_14, FI_15, FI_16, FI_17, FI_18, FI_19, FI_20, FI_21, FI_22, FI_23, FI_24, FI_25, FI_26, FI_27] at hf
  have a0 := ha.1 0 (by omega)
  have a1 := ha.1 1 (by omega)
  have a2 := ha.1 2 (by omega)
  have a3 := ha.1 3 (by omega)
  have a6 := ha.1 6 (by omega)
  have b0 := hin 0 (-9223372036854775808) 9223372036854775807 (by simp [eRun, bL, b3])
  have b1 := hin 1 (-9223372036854775808) 9223372036854775807 (by simp [eRun, bL, b3])
  have b2 := hin 2 0 18446744073709551615 (by simp [eRun, bL, b3])
  have b3 := hin 3 0 50 (by simp [eRun, bL])
  simp only [FT, TP, SB.tp, SI.tv, sta, IB.eval, and_true, true_and, ObsT, Ob.Tv, rowT, kix, In.tiv, In.tbv, get_cons, get_nil, reduceIte, Nat.reduceEqDiff, Int.reduceToNat, Int.reduceAdd, ap5, ne_eq, Bool.false_eq_true, not_true_eq_false, not_false_eq_true, FI_3, FI_7, FI_8, FI_9, FI_10, FI_11, FI_12, FI_13, FI_14, FI_15, FI_16, FI_17, FI_18, FI_19, FI_20, FI_21, FI_22, FI_23, FI_24, FI_25, FI_26, FI_27, eRun_inv, eRun_mu, eRun, othT, a0, a1, a2, a3, a6] at hf hi ⊢
  have : 0 < iv0 3 → False := fun _ => by omega
  omega

set_option maxHeartbeats 1000000 in
theorem eRun_o0_4 (kv : Nat → Nat) (iv0 : Nat → Int) (bv0 : Nat → Bool) (hin : InB eRun.B iv0) (hF : FT (sta FI FB kv iv0 bv0) (dlt dyn0) eRun.F) (iv : Nat → Int) (bv : Nat → Bool) (ha : Agr 7 iv0 bv0 iv bv) (hi : eRun_inv iv0 bv0 0 iv bv) :
    LfT (sta FI FB kv) eRun.os (eRun_inv iv0 bv0) (eRun_mu iv0 bv0) 0 iv bv (.fin [((.le (.v 2) (.c 4611686018427387904)), .false), ((.le (.v 1) (.v 0)), .true), ((.le (.c 0) (.v 5)), .true)] 1 ⟨⟨[], []⟩, [], [], []⟩ [] []) := by
  intro δ hf
  simp only [FT, TP, SB.tp, SI.tv, sta, IB.eval, and_true, true_and, ObsT, Ob.Tv, rowT, kix, In.tiv, In.tbv, get_cons, get_nil, reduceIte, Nat.reduceEqDiff, Int.reduceToNat, Int.reduceAdd, ap5, ne_eq, Bool.false_eq_true, not_true_eq_false, not_false_eq_true, FI_3, FI_7, FI_8, FI_9, FI_10, FI_11, FI_12, FI_13, FI_14, FI_15, FI_16, FI_17, FI_18, FI_19, FI_20, FI_21, FI_22, FI_23, FI_24, FI_25, FI_26, FI_27] at hf
  have a0 := ha.1 0 (by omega)
  have a1 := ha.1 1 (by omega)
  have a2 := ha.1 2 (by omega)
  have a3 := ha.1 3 (by omega)
  have a6 := ha.1 6 (by omega)
  have b0 := hin 0 (-9223372036854775808) 9223372036854775807 (by simp [eRun, bL, b3])
  have b1 := hin 1 (-9223372036854775808) 9223372036854775807 (by simp [eRun, bL, b3])
  have b2 := hin 2 0 18446744073709551615 (by simp [eRun, bL, b3])
  have b3 := hin 3 0 50 (by simp [eRun, bL])
  simp only [FT, TP, SB.tp, SI.tv, sta, IB.eval, and_true, true_and, ObsT, Ob.Tv, rowT, kix, In.tiv, In.tbv, get_cons, get_nil, reduceIte, Nat.reduceEqDiff, Int.reduceToNat, Int.reduceAdd, ap5, ne_eq, Bool.false_eq_true, not_true_eq_false, not_false_eq_true, FI_3, FI_7, FI_8, FI_9, FI_10, FI_11, FI_12, FI_13, FI_14, FI_15, FI_16, FI_17, FI_18, FI_19, FI_20, FI_21, FI_22, FI_23, FI_24, FI_25, FI_26, FI_27, eRun_inv, eRun_mu, eRun, othT, a0, a1, a2, a3, a6] at hf hi ⊢
  refine ⟨?_, ?_, ?_⟩ <;> intros <;> simp_all

set_option maxHeartbeats 1000000 in
theorem eRun_o0_5 (kv : Nat → Nat) (iv0 : Nat → Int) (bv0 : Nat → Bool) (hin : InB eRun.B iv0) (hF : FT (sta FI FB kv iv0 bv0) (dlt dyn0) eRun.F) (iv : Nat → Int) (bv : Nat → Bool) (ha : Agr 7 iv0 bv0 iv bv) (hi : eRun_inv iv0 bv0 0 iv bv) :
    LfT (sta FI FB kv) eRun.os (eRun_inv iv0 bv0) (eRun_mu iv0 bv0) 0 iv bv (.fin [((.le (.v 1) (.v 0)), .false), ((.le (.c 0) (.v 5)), .true)] 0 ⟨⟨[], []⟩, [], [], []⟩ [] []) := by
  intro δ hf
  simp only [FT, TP, SB.tp, SI.tv, sta, IB.eval, and_true, true_and, ObsT, Ob.Tv, rowT, kix, In.tiv, In.tbv, get_cons, get_nil, reduceIte, Nat.reduceEqDiff, Int.reduceToNat, Int.reduceAdd, ap5, ne_eq, Bool.false_eq_true, not_true_eq_false, not_false_eq_true, FI_3, FI_7, FI_8, FI_9, FI_10, FI_11, FI_12, FI_13, FI_14, FI_15, FI_16, FI_17, FI_18, FI_19, FI_20, FI_21, FI_22, FI_23, FI_24, FI_25, FI_26, FI_27] at hf
  have a0 := ha.1 0 (by omega)
  have a1 := ha.1 1 (by omega)
  have a2 := ha.1 2 (by omega)
  have a3 := ha.1 3 (by omega)
  have a6 := ha.1 6 (by omega)
  have b0 := hin 0 (-9223372036854775808) 9223372036854775807 (by simp [eRun, bL, b3])
  have b1 := hin 1 (-9223372036854775808) 9223372036854775807 (by simp [eRun, bL, b3])
  have b2 := hin 2 0 18446744073709551615 (by simp [eRun, bL, b3])
  have b3 := hin 3 0 50 (by simp [eRun, bL])
  simp only [FT, TP, SB.tp, SI.tv, sta, IB.eval, and_true, true_and, ObsT, Ob.Tv, rowT, kix, In.tiv, In.tbv, get_cons, get_nil, reduceIte, Nat.reduceEqDiff, Int.reduceToNat, Int.reduceAdd, ap5, ne_eq, Bool.false_eq_true, not_true_eq_false, not_false_eq_true, FI_3, FI_7, FI_8, FI_9, FI_10, FI_11, FI_12, FI_13, FI_14, FI_15, FI_16, FI_17, FI_18, FI_19, FI_20, FI_21, FI_22, FI_23, FI_24, FI_25, FI_26, FI_27, eRun_inv, eRun_mu, eRun, othT, a0, a1, a2, a3, a6] at hf hi ⊢
  refine ⟨?_, ?_, ?_⟩ <;> intros <;> simp_all

set_option maxHeartbeats 1000000 in
theorem eRun_o1_0 (kv : Nat → Nat) (iv0 : Nat → Int) (bv0 : Nat → Bool) (hin : InB eRun.B iv0) (hF : FT (sta FI FB kv iv0 bv0) (dlt dyn0) eRun.F) (iv : Nat → Int) (bv : Nat → Bool) (ha : Agr 7 iv0 bv0 iv bv) (hi : eRun_inv iv0 bv0 1 iv bv) :
    LfT (sta FI FB kv) eRun.os (eRun_inv iv0 bv0) (eRun_mu iv0 bv0) 1 iv bv (.cut [((.eq (.ap 21 (.v 29) (.v 30) (.v 31) (.ap 3 (.v 6) (.v 28) (.c 0) (.c 0) (.c 0) (.c 0)) (.c 0) (.c 0)) (.c 0)), .true), ((.lt (.v 28) (.v 3)), .true), ((.eq (.ap 21 (.v 0) (.v 1) (.v 2) (.ap 3 (.v 6) (.c 0) (.c 0) (.c 0) (.c 0) (.c 0)) (.c 0) (.c 0)) (.c 0)), .true), ((.lt (.c 0) (.v 3)), .true), ((.le (.v 2) (.c 4611686018427387904)), .true), ((.le (.v 1) (.v 0)), .true), ((.le (.c 0) (.v 5)), .true)] 1 ⟨⟨[(31, (.ap 20 (.v 29) (.v 30) (.v 31) (.ap 3 (.v 6) (.v 28) (.c 0) (.c 0) (.c 0) (.c 0)) (.c 0) (.c 0))), (30, (.ap 19 (.v 29) (.v 30) (.v 31) (.ap 3 (.v 6) (.v 28) (.c 0) (.c 0) (.c 0) (.c 0)) (.c 0) (.c 0))), (29, (.ap 18 (.v 29) (.v 30) (.v 31) (.ap 3 (.v 6) (.v 28) (.c 0) (.c 0) (.c 0) (.c 0)) (.c 0) (.c 0))), (27, (.v 27)), (28, (.op .add (.v 28) (.c 1)))], []⟩, [(9, 9), (0, 0), (1, 1), (4, 4), (10, 10), (11, 11), (7, 7)], [], []⟩ [(.rn (.op .add (.v 28) (.c 1)) 0 50)] (shT eRun_T1 ⟨⟨[(31, (.ap 20 (.v 29) (.v 30) (.v 31) (.ap 3 (.v 6) (.v 28) (.c 0) (.c 0) (.c 0) (.c 0)) (.c 0) (.c 0))), (30, (.ap 19 (.v 29) (.v 30) (.v 31) (.ap 3 (.v 6) (.v 28) (.c 0) (.c 0) (.c 0) (.c 0)) (.c 0) (.c 0))), (29, (.ap 18 (.v 29) (.v 30) (.v 31) (.ap 3 (.v 6) (.v 28) (.c 0) (.c 0) (.c 0) (.c 0)) (.c 0) (.c 0))), (27, (.v 27)), (28, (.op .add (.v 28) (.c 1)))], []⟩, [(9, 9), (0, 0), (1, 1), (4, 4), (10, 10), (11, 11), (7, 7)], [], []⟩)) := by
  intro δ hf
  simp only [FT, TP, SB.tp, SI.tv, sta, IB.eval, and_true, true_and, ObsT, Ob.Tv, rowT, kix, In.tiv, In.tbv, get_cons, get_nil, reduceIte, Nat.reduceEqDiff, Int.reduceToNat, Int.reduceAdd, ap5, ne_eq, Bool.false_eq_true, not_true_eq_false, not_false_eq_true, FI_3, FI_7, FI_8, FI_9, FI_10, FI_11, FI_12, FI_13, FI_14, FI_15, FI_16, FI_17, FI_18, FI_19, FI_20, FI_21, FI_22, FI_23, FI_24, FI_25, FI_26, FI_27] at hf
  have a0 := ha.1 0 (by omega)
  have a1 := ha.1 1 (by omega)
  have a2 := ha.1 2 (by omega)
  have a3 := ha.1 3 (by omega)
  have a6 := ha.1 6 (by omega)
  have b0 := hin 0 (-9223372036854775808) 9223372036854775807 (by simp [eRun, bL, b3])
  have b1 := hin 1 (-9223372036854775808) 9223372036854775807 (by simp [eRun, bL, b3])
  have b2 := hin 2 0 18446744073709551615 (by simp [eRun, bL, b3])
  have b3 := hin 3 0 50 (by simp [eRun, bL])
  simp only [FT, TP, SB.tp, SI.tv, sta, IB.eval, and_true, true_and, ObsT, Ob.Tv, rowT, kix, In.tiv, In.tbv, get_cons, get_nil, reduceIte, Nat.reduceEqDiff, Int.reduceToNat, Int.reduceAdd, ap5, ne_eq, Bool.false_eq_true, not_true_eq_false, not_false_eq_true, FI_3, FI_7, FI_8, FI_9, FI_10, FI_11, FI_12, FI_13, FI_14, FI_15, FI_16, FI_17, FI_18, FI_19, FI_20, FI_21, FI_22, FI_23, FI_24, FI_25, FI_26, FI_27, eRun_inv, eRun_mu, eRun, othT, a0, a1, a2, a3, a6] at hf hi ⊢
  obtain ⟨k, hk, h1, h2, h3, h4⟩ := id hi
  exact ⟨by omega, hi.next hf.2.1 hf.1, by omega⟩

set_option maxHeartbeats 1000000 in
theorem eRun_o1_1 (kv : Nat → Nat) (iv0 : Nat → Int) (bv0 : Nat → Bool) (hin : InB eRun.B iv0) (hF : FT (sta FI FB kv iv0 bv0) (dlt dyn0) eRun.F) (iv : Nat → Int) (bv : Nat → Bool) (ha : Agr 7 iv0 bv0 iv bv) (hi : eRun_inv iv0 bv0 1 iv bv) :
    LfT (sta FI FB kv) eRun.os (eRun_inv iv0 bv0) (eRun_mu iv0 bv0) 1 iv bv (.fin [((.eq (.v 28) (.v 3)), .true), ((.eq (.ap 21 (.v 29) (.v 30) (.v 31) (.ap 3 (.v 6) (.v 28) (.c 0) (.c 0) (.c 0) (.c 0)) (.c 0) (.c 0)) (.c 0)), .false), ((.lt (.v 28) (.v 3)), .true), ((.eq (.ap 21 (.v 0) (.v 1) (.v 2) (.ap 3 (.v 6) (.c 0) (.c 0) (.c 0) (.c 0) (.c 0)) (.c 0) (.c 0)) (.c 0)), .true), ((.lt (.c 0) (.v 3)), .true), ((.le (.v 2) (.c 4611686018427387904)), .true), ((.le (.v 1) (.v 0)), .true), ((.le (.c 0) (.v 5)), .true)] 2 ⟨⟨[], []⟩, [], [], []⟩ [(.ei (.ap 25 (.v 0) (.v 1) (.v 2) (.v 6) (.v 3) (.c 0)) (.v 29)), (.ei (.ap 26 (.v 0) (.v 1) (.v 2) (.v 6) (.v 3) (.c 0)) (.v 30)), (.ei (.ap 27 (.v 0) (.v 1) (.v 2) (.v 6) (.v 3) (.c 0)) (.v 31)), (.ei (.ap 22 (.v 0) (.v 1) (.v 2) (.v 6) (.v 3) (.c 0)) (.v 28)), (.ei (.ap 23 (.v 0) (.v 1) (.v 2) (.v 6) (.v 3) (.c 0)) (.c 0))] []) := by
  intro δ hf
  simp only [FT, TP, SB.tp, SI.tv, sta, IB.eval, and_true, true_and, ObsT, Ob.Tv, rowT, kix, In.tiv, In.tbv, get_cons, get_nil, reduceIte, Nat.reduceEqDiff, Int.reduceToNat, Int.reduceAdd, ap5, ne_eq, Bool.false_eq_true, not_true_eq_false, not_false_eq_true, FI_3, FI_7, FI_8, FI_9, FI_10, FI_11, FI_12, FI_13, FI_14, FI_15, FI_16, FI_17, FI_18, FI_19, FI_20, FI_21, FI_22, FI_23, FI_24, FI_25, FI_26, FI_27] at hf
  have a0 := ha.1 0 (by omega)
  have a1 := ha.1 1 (by omega)
  have a2 := ha.1 2 (by omega)
  have a3 := ha.1 3 (by omega)
  have a6 := ha.1 6 (by omega)
  have b0 := hin 0 (-9223372036854775808) 9223372036854775807 (by simp [eRun, bL, b3])
  have b1 := hin 1 (-9223372036854775808) 9223372036854775807 (by simp [eRun, bL, b3])
  have b2 := hin 2 0 18446744073709551615 (by simp [eRun, bL, b3])
  have b3 := hin 3 0 50 (by simp [eRun, bL])
  simp only [FT, TP, SB.tp, SI.tv, sta, IB.eval, and_true, true_and, ObsT, Ob.Tv, rowT, kix, In.tiv, In.tbv, get_cons, get_nil, reduceIte, Nat.reduceEqDiff, Int.reduceToNat, Int.reduceAdd, ap5, ne_eq, Bool.false_eq_true, not_true_eq_false, not_false_eq_true, FI_3, FI_7, FI_8, FI_9, FI_10, FI_11, FI_12, FI_13, FI_14, FI_15, FI_16, FI_17, FI_18, FI_19, FI_20, FI_21, FI_22, FI_23, FI_24, FI_25, FI_26, FI_27, eRun_inv, eRun_mu, eRun, othT, a0, a1, a2, a3, a6] at hf hi ⊢
  omega

set_option maxHeartbeats 1000000 in
theorem eRun_o1_2 (kv : Nat → Nat) (iv0 : Nat → Int) (bv0 : Nat → Bool) (hin : InB eRun.B iv0) (hF : FT (sta FI FB kv iv0 bv0) (dlt dyn0) eRun.F) (iv : Nat → Int) (bv : Nat → Bool) (ha : Agr 7 iv0 bv0 iv bv) (hi : eRun_inv iv0 bv0 1 iv bv) :
    LfT (sta FI FB kv) eRun.os (eRun_inv iv0 bv0) (eRun_mu iv0 bv0) 1 iv bv (.fin [((.eq (.v 28) (.v 3)), .false), ((.eq (.ap 21 (.v 29) (.v 30) (.v 31) (.ap 3 (.v 6) (.v 28) (.c 0) (.c 0) (.c 0) (.c 0)) (.c 0) (.c 0)) (.c 0)), .false), ((.lt (.v 28) (.v 3)), .true), ((.eq (.ap 21 (.v 0) (.v 1) (.v 2) (.ap 3 (.v 6) (.c 0) (.c 0) (.c 0) (.c 0) (.c 0)) (.c 0) (.c 0)) (.c 0)), .true), ((.lt (.c 0) (.v 3)), .true), ((.le (.v 2) (.c 4611686018427387904)), .true), ((.le (.v 1) (.v 0)), .true), ((.le (.c 0) (.v 5)), .true)] 2 ⟨⟨[], []⟩, [], [], []⟩ [(.ei (.ap 25 (.v 0) (.v 1) (.v 2) (.v 6) (.v 3) (.c 0)) (.v 29)), (.ei (.ap 26 (.v 0) (.v 1) (.v 2) (.v 6) (.v 3) (.c 0)) (.v 30)), (.ei (.ap 27 (.v 0) (.v 1) (.v 2) (.v 6) (.v 3) (.c 0)) (.v 31)), (.ei (.ap 22 (.v 0) (.v 1) (.v 2) (.v 6) (.v 3) (.c 0)) (.v 28)), (.ei (.ap 23 (.v 0) (.v 1) (.v 2) (.v 6) (.v 3) (.c 0)) (.ap 21 (.v 29) (.v 30) (.v 31) (.ap 3 (.v 6) (.v 28) (.c 0) (.c 0) (.c 0) (.c 0)) (.c 0) (.c 0)))] []) := by
  intro δ hf
  simp only [FT, TP, SB.tp, SI.tv, sta, IB.eval, and_true, true_and, ObsT, Ob.Tv, rowT, kix, In.tiv, In.tbv, get_cons, get_nil, reduceIte, Nat.reduceEqDiff, Int.reduceToNat, Int.reduceAdd, ap5, ne_eq, Bool.false_eq_true, not_true_eq_false, not_false_eq_true, FI_3, FI_7, FI_8, FI_9, FI_10, FI_11, FI_12, FI_13, FI_14, FI_15, FI_16, FI_17, FI_18, FI_19, FI_20, FI_21, FI_22, FI_23, FI_24, FI_25, FI_26, FI_27] at hf
  have a0 := ha.1 0 (by omega)
  have a1 := ha.1 1 (by omega)
  have a2 := ha.1 2 (by omega)
  have a3 := ha.1 3 (by omega)
  have a6 := ha.1 6 (by omega)
  have b0 := hin 0 (-9223372036854775808) 9223372036854775807 (by simp [eRun, bL, b3])
  have b1 := hin 1 (-9223372036854775808) 9223372036854775807 (by simp [eRun, bL, b3])
  have b2 := hin 2 0 18446744073709551615 (by simp [eRun, bL, b3])
  have b3 := hin 3 0 50 (by simp [eRun, bL])
  simp only [FT, TP, SB.tp, SI.tv, sta, IB.eval, and_true, true_and, ObsT, Ob.Tv, rowT, kix, In.tiv, In.tbv, get_cons, get_nil, reduceIte, Nat.reduceEqDiff, Int.reduceToNat, Int.reduceAdd, ap5, ne_eq, Bool.false_eq_true, not_true_eq_false, not_false_eq_true, FI_3, FI_7, FI_8, FI_9, FI_10, FI_11, FI_12, FI_13, FI_14, FI_15, FI_16, FI_17, FI_18, FI_19, FI_20, FI_21, FI_22, FI_23, FI_24, FI_25, FI_26, FI_27, eRun_inv, eRun_mu, eRun, othT, a0, a1, a2, a3, a6] at hf hi ⊢
  have h := hi.stop (fun _ => hf.2.1)
  refine ⟨?_, ?_⟩
  · rw [if_pos hf.2.2.1] at h; exact h
  · refine ⟨?_, ?_, ?_⟩ <;> intros <;> simp_all

set_option maxHeartbeats 1000000 in
theorem eRun_o1_3 (kv : Nat → Nat) (iv0 : Nat → Int) (bv0 : Nat → Bool) (hin : InB eRun.B iv0) (hF : FT (sta FI FB kv iv0 bv0) (dlt dyn0) eRun.F) (iv : Nat → Int) (bv : Nat → Bool) (ha : Agr 7 iv0 bv0 iv bv) (hi : eRun_inv iv0 bv0 1 iv bv) :
    LfT (sta FI FB kv) eRun.os (eRun_inv iv0 bv0) (eRun_mu iv0 bv0) 1 iv bv (.fin [((.eq (.v 28) (.v 3)), .true), ((.lt (.v 28) (.v 3)), .false), ((.eq (.ap 21 (.v 0) (.v 1) (.v 2) (.ap 3 (.v 6) (.c 0) (.c 0) (.c 0) (.c 0) (.c 0)) (.c 0) (.c 0)) (.c 0)), .true), ((.lt (.c 0) (.v 3)), .true), ((.le (.v 2) (.c 4611686018427387904)), .true), ((.le (.v 1) (.v 0)), .true), ((.le (.c 0) (.v 5)), .true)] 2 ⟨⟨[], []⟩, [], [], []⟩ [(.ei (.ap 25 (.v 0) (.v 1) (.v 2) (.v 6) (.v 3) (.c 0)) (.v 29)), (.ei (.ap 26 (.v 0) (.v 1) (.v 2) (.v 6) (.v 3) (.c 0)) (.v 30)), (.ei (.ap 27 (.v 0) (.v 1) (.v 2) (.v 6) (.v 3) (.c 0)) (.v 31)), (.ei (.ap 22 (.v 0) (.v 1) (.v 2) (.v 6) (.v 3) (.c 0)) (.v 28)), (.ei (.ap 23 (.v 0) (.v 1) (.v 2) (.v 6) (.v 3) (.c 0)) (.c 0))] []) := by
  intro δ hf
  simp only [FT, TP, SB.tp, SI.tv, sta, IB.eval, and_true, true_and, ObsT, Ob.Tv, rowT, kix, In.tiv, In.tbv, get_cons, get_nil, reduceIte, Nat.reduceEqDiff, Int.reduceToNat, Int.reduceAdd, ap5, ne_eq, Bool.false_eq_true, not_true_eq_false, not_false_eq_true, FI_3, FI_7, FI_8, FI_9, FI_10, FI_11, FI_12, FI_13, FI_14, FI_15, FI_16, FI_17, FI_18, FI_19, FI_20, FI_21, FI_22, FI_23, FI_24, FI_25, FI_26, FI_27] at hf
  have a0 := ha.1 0 (by omega)
  have a1 := ha.1 1 (by omega)
  have a2 := ha.1 2 (by omega)
  have a3 := ha.1 3 (by omega)
  have a6 := ha.1 6 (by omega)
  have b0 := hin 0 (-9223372036854775808) 9223372036854775807 (by simp [eRun, bL, b3])
  have b1 := hin 1 (-9223372036854775808) 9223372036854775807 (by simp [eRun, bL, b3])
  have b2 := hin 2 0 18446744073709551615 (by simp [eRun, bL, b3])
  have b3 := hin 3 0 50 (by simp [eRun, bL])
  simp only [FT, TP, SB.tp, SI.tv, sta, IB.eval, and_true, true_and, ObsT, Ob.Tv, rowT, kix, In.tiv, In.tbv, get_cons, get_nil, reduceIte, Nat.reduceEqDiff, Int.reduceToNat, Int.reduceAdd, ap5, ne_eq, Bool.false_eq_true, not_true_eq_false, not_false_eq_true, FI_3, FI_7, FI_8, FI_9, FI_10, FI_11, FI_12, FI_13, FI_14, FI_15, FI_16, FI_17, FI_18, FI_19, FI_20, FI_21, FI_22, FI_23, FI_24, FI_25, FI_26, FI_27, eRun_inv, eRun_mu, eRun, othT, a0, a1, a2, a3, a6] at hf hi ⊢
  have h := hi.stop (fun h => absurd h hf.2.1)
  refine ⟨?_, ?_⟩
  · rw [if_neg hf.2.1] at h; exact h
  · refine ⟨?_, ?_, ?_⟩ <;> intros <;> simp_all

set_option maxHeartbeats 1000000 in
theorem eRun_o1_4 (kv : Nat → Nat) (iv0 : Nat → Int) (bv0 : Nat → Bool) (hin : InB eRun.B iv0) (hF : FT (sta FI FB kv iv0 bv0) (dlt dyn0) eRun.F) (iv : Nat → Int) (bv : Nat → Bool) (ha : Agr 7 iv0 bv0 iv bv) (hi : eRun_inv iv0 bv0 1 iv bv) :
    LfT (sta FI FB kv) eRun.os (eRun_inv iv0 bv0) (eRun_mu iv0 bv0) 1 iv bv (.bad [((.eq (.v 28) (.v 3)), .false), ((.lt (.v 28) (.v 3)), .false), ((.eq (.ap 21 (.v 0) (.v 1) (.v 2) (.ap 3 (.v 6) (.c 0) (.c 0) (.c 0) (.c 0) (.c 0)) (.c 0) (.c 0)) (.c 0)), .true), ((.lt (.c 0) (.v 3)), .true), ((.le (.v 2) (.c 4611686018427387904)), .true), ((.le (.v 1) (.v 0)), .true), ((.le (.c 0) (.v 5)), .true)]) := by
  intro δ hf
  simp only [FT, TP, SB.tp, SI.tv, sta, IB.eval, and_true, true_and, ObsT, Ob.Tv, rowT, kix, In.tiv, In.tbv, get_cons, get_nil, reduceIte, Nat.reduceEqDiff, Int.reduceToNat, Int.reduceAdd, ap5, ne_eq, Bool.false_eq_true, not_true_eq_false, not_false_eq_true, FI_3, FI_7, FI_8, FI_9, FI_10, FI_11, FI_12, FI_13, FI_14, FI_15, FI_16, FI_17, FI_18, FI_19, FI_20, FI_21, FI_22, FI_23, FI_24, FI_25, FI_26, FI_27] at hf
  have a0 := ha.1 0 (by omega)
  have a1 := ha.1 1 (by omega)
  have a2 := ha.1 2 (by omega)
  have a3 := ha.1 3 (by omega)
  have a6 := ha.1 6 (by omega)
  have b0 := hin 0 (-9223372036854775808) 9223372036854775807 (by simp [eRun, bL, b3])
  have b1 := hin 1 (-9223372036854775808) 9223372036854775807 (by simp [eRun, bL, b3])
  have b2 := hin 2 0 18446744073709551615 (by simp [eRun, bL, b3])
  have b3 := hin 3 0 50 (by simp [eRun, bL])
  simp only [FT, TP, SB.tp, SI.tv, sta, IB.eval, and_true, true_and, ObsT, Ob.Tv, rowT, kix, In.tiv, In.tbv, get_cons, get_nil, reduceIte, Nat.reduceEqDiff, Int.reduceToNat, Int.reduceAdd, ap5, ne_eq, Bool.false_eq_true, not_true_eq_false, not_false_eq_true, FI_3, FI_7, FI_8, FI_9, FI_10, FI_11, FI_12, FI_13, FI_14, FI_15, FI_16, FI_17, FI_18, FI_19, FI_20, FI_21, FI_22, FI_23, FI_24, FI_25, FI_26, FI_27, eRun_inv, eRun_mu, eRun, othT, a0, a1, a2, a3, a6] at hf hi ⊢
  obtain ⟨k, hk, h1, h2, h3, h4⟩ := id hi
  omega

set_option maxRecDepth 100000 in
theorem eRun_c : LsC ((tm0 eRun Try.f20 (Try.f20.body.getD .skip)) :: [eRun_T1]) eRun.os [eRun_L0, eRun_L1] := by
  unfold eRun_L0 eRun_L1
  exact ⟨List.forall_mem_cons.2 ⟨⟨⟨_, rfl, rfl⟩, by kernel_rfl⟩, List.forall_mem_cons.2 ⟨⟨⟨_, rfl, rfl⟩, by kernel_rfl⟩, List.forall_mem_cons.2 ⟨⟨⟨_, rfl, rfl⟩, by kernel_rfl⟩, List.forall_mem_cons.2 ⟨trivial, List.forall_mem_cons.2 ⟨⟨⟨_, rfl, rfl⟩, by kernel_rfl⟩, List.forall_mem_cons.2 ⟨⟨⟨_, rfl, rfl⟩, by kernel_rfl⟩, List.forall_mem_nil _⟩⟩⟩⟩⟩⟩, List.forall_mem_cons.2 ⟨⟨⟨_, rfl, rfl⟩, by kernel_rfl⟩, List.forall_mem_cons.2 ⟨⟨⟨_, rfl, rfl⟩, by kernel_rfl⟩, List.forall_mem_cons.2 ⟨⟨⟨_, rfl, rfl⟩, by kernel_rfl⟩, List.forall_mem_cons.2 ⟨⟨⟨_, rfl, rfl⟩, by kernel_rfl⟩, List.forall_mem_cons.2 ⟨trivial, List.forall_mem_nil _⟩⟩⟩⟩⟩, trivial⟩
theorem eRun_ok : eRun.Ok Try.prog FI FB :=
  Con.of_plain (body := Try.f20.body.getD .skip) pok fiok ents_for2 eRun Try.func20 (by kernel_rfl) 7 [eRun_T1] (by kernel_rfl) [eRun_L0, eRun_L1] ⟨eRun_h0, eRun_h1, trivial⟩ eRun_c
    eRun_inv eRun_mu (fun _ _ _ => trivial) fun kv iv0 bv0 hin hF k l iv bv hk ha hi => match k, hk, hi with
    | 0, hk, hi => by
      cases hk
      exact List.forall_mem_cons.2 ⟨eRun_o0_0 kv iv0 bv0 hin hF iv bv ha hi, List.forall_mem_cons.2 ⟨eRun_o0_1 kv iv0 bv0 hin hF iv bv ha hi, List.forall_mem_cons.2 ⟨eRun_o0_2 kv iv0 bv0 hin hF iv bv ha hi, List.forall_mem_cons.2 ⟨eRun_o0_3 kv iv0 bv0 hin hF iv bv ha hi, List.forall_mem_cons.2 ⟨eRun_o0_4 kv iv0 bv0 hin hF iv bv ha hi, List.forall_mem_cons.2 ⟨eRun_o0_5 kv iv0 bv0 hin hF iv bv ha hi, List.forall_mem_nil _⟩⟩⟩⟩⟩⟩
    | 1, hk, hi => by
      cases hk
      exact List.forall_mem_cons.2 ⟨eRun_o1_0 kv iv0 bv0 hin hF iv bv ha hi, List.forall_mem_cons.2 ⟨eRun_o1_1 kv iv0 bv0 hin hF iv bv ha hi, List.forall_mem_cons.2 ⟨eRun_o1_2 kv iv0 bv0 hin hF iv bv ha hi, List.forall_mem_cons.2 ⟨eRun_o1_3 kv iv0 bv0 hin hF iv bv ha hi, List.forall_mem_cons.2 ⟨eRun_o1_4 kv iv0 bv0 hin hF iv bv ha hi, List.forall_mem_nil _⟩⟩⟩⟩⟩
    | k + 2, hk, _ => by simp at hk
end Go.Sx.Esc
