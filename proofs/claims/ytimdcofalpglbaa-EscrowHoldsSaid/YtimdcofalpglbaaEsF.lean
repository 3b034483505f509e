import Derived.Test.YtimdcofalpglbaaEsE
namespace Go.Sx.Esc
set_option linter.unusedVariables false
set_option linter.unusedSimpArgs false
open Go Go.Sx Go.Proofs 
noncomputable def ents (cc : Cc) : Ents := [eX.ent cc, rX.ent cc]
theorem ents_for : EntsFor Try.prog FI FB ents := EntsFor.cons eX_ok (EntsFor.cons rX_ok EntsFor.nil)
theorem FI_3 (c j f a b d : Int) : FI 3 c j f a b d = IntKind.i64.wrap (gt c j.toNat f.toNat) := rfl
theorem FI_7 (c j f a b d : Int) : FI 7 c j f a b d = IntKind.u64.wrap (gt c j.toNat f.toNat) := rfl
theorem FI_8 (c j f x a b : Int) : FI 8 c j f x a b = setC c j f x := rfl
theorem FI_9 (c i c' i' n a : Int) : FI 9 c i c' i' n a = blitC c i c' i' n := rfl
theorem FI_23 (v f r c n x : Int) : FI 23 v f r c n x = if (M v f r c n : Int) < n then er (v, f, r) c (M v f r c n) else 0 := rfl
/-- the counters behind the changes -/
noncomputable def outF (s : Int × Int × Int) (c : Int) (j a : Nat) : Int := match a with | 0 => (seq s c (j + 1)).1 | 1 => (seq s c (j + 1)).2.1 | _ => (seq s c (j + 1)).2.2
theorem FI_24 (v f r c n x : Int) : FI 24 v f r c n x = arrC (M v f r c n) 3 (outF (v, f, r) c) := rfl
/-- the states behind the changes, as a list -/
def ListOf (s : Int × Int × Int) (c o : Int) (k : Nat) : Prop := ∀ j, j < k → gt o j 0 = (seq s c (j + 1)).1 ∧ gt o j 1 = (seq s c (j + 1)).2.1 ∧ gt o j 2 = (seq s c (j + 1)).2.2
/-- at the loop's head -/
def RunInv (s : Int × Int × Int) (c n i o v f r : Int) : Prop :=
  ∃ k : Nat, i = k ∧ 1 ≤ i ∧ i ≤ n ∧ n ≤ 50 ∧ seq s c k = (v, f, r) ∧ (∀ j, j < k → er s c j = 0) ∧ ListOf s c o k
/-- a counter has values of its kinds -/
theorem nxt_in (s : Int × Int × Int) (n : Int) : IntKind.i64.wrap (nxt s n).1 = (nxt s n).1 ∧ IntKind.i64.wrap (nxt s n).2.1 = (nxt s n).2.1 ∧ IntKind.u64.wrap (nxt s n).2.2 = (nxt s n).2.2 := by
  have h := fun (k : IntKind) x => wrap_in k _ (wrap_has k x).1 (wrap_has k x).2
  exact ⟨h .i64 _, h .i64 _, h .u64 _⟩
theorem list_next {s : Int × Int × Int} {c o : Int} {k : Nat} (h : ListOf s c o k) {i : Int} (hi : i = k) : ListOf s c (setC (setC (setC o i 0 (seq s c (k + 1)).1) i 1 (seq s c (k + 1)).2.1) i 2 (seq s c (k + 1)).2.2) (k + 1) := by
  subst hi
  intro j hj
  simp only [gt_setI, Int.toNat_natCast, Int.reduceToNat]
  by_cases hjk : j = k
  · subst hjk; simp
  · simp only [hjk, false_and, if_false]
    exact h j (by omega)
theorem list_arr {s : Int × Int × Int} {c o : Int} {k : Nat} (h : ListOf s c o k) (j : Nat) (hj : j < k) :
    gt (arrC k 3 (outF s c)) j 0 = gt o j 0 ∧ gt (arrC k 3 (outF s c)) j 1 = gt o j 1 ∧ gt (arrC k 3 (outF s c)) j 2 = gt o j 2 := by
  simp only [gt_arrC, hj, true_and, outF]
  have := h j hj
  simp [this]
theorem M_is {s : Int × Int × Int} {c n : Int} {k : Nat} (hn : n ≤ 50) (h1 : (k : Int) ≤ n) (h2 : ∀ j, j < k → er s c j = 0) (h3 : (k : Int) = n ∨ er s c k ≠ 0) : M s.1 s.2.1 s.2.2 c n = k := by
  unfold M
  rw [if_pos hn]
  exact mny_eq (by omega) h2 (by rcases h3 with h3 | h3; exact .inl (by omega); exact .inr h3)
noncomputable def rRun_T1 : Tm := ⟨⟨21, 35, [(7, (.it .i64 (.v 29))), (6, (.sl (.n 3) (.c 0) (.v 29) (.v 27))), (2, (.pt (.n 0) (.c 0))), (1, (.sl (.k 0) (.v 4) (.v 3) (.v 5)))], [(.inLoop (atC Try.f21 [1, 1, 0, 1, 0, 0])), (.inBlock 0), (.code (atC Try.f21 [1, 1, 1]))], [], .none⟩, [],
    ⟨[(0, (.cells [(.it .i64 (.v 31)), (.it .i64 (.v 32)), (.it .u64 (.v 33))] 24)), (3, (.arr [(.nt .i64), (.nt .i64), (.nt .u64)] (.v 30) (.v 29) 24 (.v 27)))], 4, 0, 0, [((.eq (.ap 21 (.v 0) (.v 1) (.v 2) (.ap 3 (.v 6) (.c 0) (.c 0) (.c 0) (.c 0) (.c 0)) (.c 0) (.c 0)) (.c 0)), .true), ((.lt (.c 0) (.v 3)), .true), ((.le (.c 0) (.v 5)), .true), ((.le (.v 29) (.v 27)), true)], [1, 0], [(29, (0, 50)), (31, ((-9223372036854775808), 9223372036854775807)), (32, ((-9223372036854775808), 9223372036854775807)), (33, (0, 18446744073709551615)), (3, (1, 50)), (4, (0, (-1))), (0, ((-9223372036854775808), 9223372036854775807)), (1, ((-9223372036854775808), 9223372036854775807)), (2, (0, 18446744073709551615))]⟩, [29, 30, 31, 32, 33, 27]⟩
noncomputable def rRun_L0 : List Lf :=
  [(.cut [((.le (.c 1) (.d 0)), .true), ((.eq (.ap 21 (.v 0) (.v 1) (.v 2) (.ap 3 (.v 6) (.c 0) (.c 0) (.c 0) (.c 0) (.c 0)) (.c 0) (.c 0)) (.c 0)), .true), ((.lt (.c 0) (.v 3)), .true), ((.le (.c 0) (.v 5)), .true)] 1 ⟨⟨[(30, (.ap 8 (.ap 8 (.ap 8 (.c 0) (.c 0) (.c 0) (.ap 18 (.v 0) (.v 1) (.v 2) (.ap 3 (.v 6) (.c 0) (.c 0) (.c 0) (.c 0) (.c 0)) (.c 0) (.c 0)) (.c 0) (.c 0)) (.c 0) (.c 1) (.ap 19 (.v 0) (.v 1) (.v 2) (.ap 3 (.v 6) (.c 0) (.c 0) (.c 0) (.c 0) (.c 0)) (.c 0) (.c 0)) (.c 0) (.c 0)) (.c 0) (.c 2) (.ap 20 (.v 0) (.v 1) (.v 2) (.ap 3 (.v 6) (.c 0) (.c 0) (.c 0) (.c 0) (.c 0)) (.c 0) (.c 0)) (.c 0) (.c 0))), (33, (.ap 20 (.v 0) (.v 1) (.v 2) (.ap 3 (.v 6) (.c 0) (.c 0) (.c 0) (.c 0) (.c 0)) (.c 0) (.c 0))), (32, (.ap 19 (.v 0) (.v 1) (.v 2) (.ap 3 (.v 6) (.c 0) (.c 0) (.c 0) (.c 0) (.c 0)) (.c 0) (.c 0))), (31, (.ap 18 (.v 0) (.v 1) (.v 2) (.ap 3 (.v 6) (.c 0) (.c 0) (.c 0) (.c 0) (.c 0)) (.c 0) (.c 0))), (27, (.d 0)), (29, (.c 1))], []⟩, [(0, 0), (3, 3)], [], []⟩ [(.ei (.ap 3 (.ap 8 (.ap 8 (.ap 8 (.c 0) (.c 0) (.c 0) (.ap 18 (.v 0) (.v 1) (.v 2) (.ap 3 (.v 6) (.c 0) (.c 0) (.c 0) (.c 0) (.c 0)) (.c 0) (.c 0)) (.c 0) (.c 0)) (.c 0) (.c 1) (.ap 19 (.v 0) (.v 1) (.v 2) (.ap 3 (.v 6) (.c 0) (.c 0) (.c 0) (.c 0) (.c 0)) (.c 0) (.c 0)) (.c 0) (.c 0)) (.c 0) (.c 2) (.ap 20 (.v 0) (.v 1) (.v 2) (.ap 3 (.v 6) (.c 0) (.c 0) (.c 0) (.c 0) (.c 0)) (.c 0) (.c 0)) (.c 0) (.c 0)) (.c 0) (.c 0) (.c 0) (.c 0) (.c 0)) (.ap 18 (.v 0) (.v 1) (.v 2) (.ap 3 (.v 6) (.c 0) (.c 0) (.c 0) (.c 0) (.c 0)) (.c 0) (.c 0))), (.ei (.ap 3 (.ap 8 (.ap 8 (.ap 8 (.c 0) (.c 0) (.c 0) (.ap 18 (.v 0) (.v 1) (.v 2) (.ap 3 (.v 6) (.c 0) (.c 0) (.c 0) (.c 0) (.c 0)) (.c 0) (.c 0)) (.c 0) (.c 0)) (.c 0) (.c 1) (.ap 19 (.v 0) (.v 1) (.v 2) (.ap 3 (.v 6) (.c 0) (.c 0) (.c 0) (.c 0) (.c 0)) (.c 0) (.c 0)) (.c 0) (.c 0)) (.c 0) (.c 2) (.ap 20 (.v 0) (.v 1) (.v 2) (.ap 3 (.v 6) (.c 0) (.c 0) (.c 0) (.c 0) (.c 0)) (.c 0) (.c 0)) (.c 0) (.c 0)) (.c 0) (.c 1) (.c 0) (.c 0) (.c 0)) (.ap 19 (.v 0) (.v 1) (.v 2) (.ap 3 (.v 6) (.c 0) (.c 0) (.c 0) (.c 0) (.c 0)) (.c 0) (.c 0))), (.ei (.ap 7 (.ap 8 (.ap 8 (.ap 8 (.c 0) (.c 0) (.c 0) (.ap 18 (.v 0) (.v 1) (.v 2) (.ap 3 (.v 6) (.c 0) (.c 0) (.c 0) (.c 0) (.c 0)) (.c 0) (.c 0)) (.c 0) (.c 0)) (.c 0) (.c 1) (.ap 19 (.v 0) (.v 1) (.v 2) (.ap 3 (.v 6) (.c 0) (.c 0) (.c 0) (.c 0) (.c 0)) (.c 0) (.c 0)) (.c 0) (.c 0)) (.c 0) (.c 2) (.ap 20 (.v 0) (.v 1) (.v 2) (.ap 3 (.v 6) (.c 0) (.c 0) (.c 0) (.c 0) (.c 0)) (.c 0) (.c 0)) (.c 0) (.c 0)) (.c 0) (.c 2) (.c 0) (.c 0) (.c 0)) (.ap 20 (.v 0) (.v 1) (.v 2) (.ap 3 (.v 6) (.c 0) (.c 0) (.c 0) (.c 0) (.c 0)) (.c 0) (.c 0))), (.fa (.le (.c 1) (.c 1)) .true), (.fa (.le (.c 1) (.d 0)) .true)] (shT rRun_T1 ⟨⟨[(30, (.ap 8 (.ap 8 (.ap 8 (.c 0) (.c 0) (.c 0) (.ap 18 (.v 0) (.v 1) (.v 2) (.ap 3 (.v 6) (.c 0) (.c 0) (.c 0) (.c 0) (.c 0)) (.c 0) (.c 0)) (.c 0) (.c 0)) (.c 0) (.c 1) (.ap 19 (.v 0) (.v 1) (.v 2) (.ap 3 (.v 6) (.c 0) (.c 0) (.c 0) (.c 0) (.c 0)) (.c 0) (.c 0)) (.c 0) (.c 0)) (.c 0) (.c 2) (.ap 20 (.v 0) (.v 1) (.v 2) (.ap 3 (.v 6) (.c 0) (.c 0) (.c 0) (.c 0) (.c 0)) (.c 0) (.c 0)) (.c 0) (.c 0))), (33, (.ap 20 (.v 0) (.v 1) (.v 2) (.ap 3 (.v 6) (.c 0) (.c 0) (.c 0) (.c 0) (.c 0)) (.c 0) (.c 0))), (32, (.ap 19 (.v 0) (.v 1) (.v 2) (.ap 3 (.v 6) (.c 0) (.c 0) (.c 0) (.c 0) (.c 0)) (.c 0) (.c 0))), (31, (.ap 18 (.v 0) (.v 1) (.v 2) (.ap 3 (.v 6) (.c 0) (.c 0) (.c 0) (.c 0) (.c 0)) (.c 0) (.c 0))), (27, (.d 0)), (29, (.c 1))], []⟩, [(0, 0), (3, 3)], [], []⟩)), (.fin [((.eq (.ap 21 (.v 0) (.v 1) (.v 2) (.ap 3 (.v 6) (.c 0) (.c 0) (.c 0) (.c 0) (.c 0)) (.c 0) (.c 0)) (.c 0)), .false), ((.lt (.c 0) (.v 3)), .true), ((.le (.c 0) (.v 5)), .true)] 0 ⟨⟨[], []⟩, [], [], []⟩ [(.ei (.ap 23 (.v 0) (.v 1) (.v 2) (.v 6) (.v 3) (.c 0)) (.ap 21 (.v 0) (.v 1) (.v 2) (.ap 3 (.v 6) (.c 0) (.c 0) (.c 0) (.c 0) (.c 0)) (.c 0) (.c 0)))] []), (.fin [((.lt (.c 0) (.v 3)), .false), ((.le (.c 0) (.v 5)), .true)] 0 ⟨⟨[], []⟩, [], [], []⟩ [(.ei (.ap 23 (.v 0) (.v 1) (.v 2) (.v 6) (.v 3) (.c 0)) (.c 0))] [])]
noncomputable def rRun_L1 : List Lf :=
  [(.cut [((.le (.op .add (.v 29) (.c 1)) (.d 0)), .true), ((.eq (.ap 21 (.v 31) (.v 32) (.v 33) (.ap 3 (.v 6) (.v 29) (.c 0) (.c 0) (.c 0) (.c 0)) (.c 0) (.c 0)) (.c 0)), .true), ((.lt (.v 29) (.v 3)), .true), ((.eq (.ap 21 (.v 0) (.v 1) (.v 2) (.ap 3 (.v 6) (.c 0) (.c 0) (.c 0) (.c 0) (.c 0)) (.c 0) (.c 0)) (.c 0)), .true), ((.lt (.c 0) (.v 3)), .true), ((.le (.c 0) (.v 5)), .true), ((.le (.v 29) (.v 27)), .true)] 1 ⟨⟨[(30, (.ap 8 (.ap 8 (.ap 8 (.v 30) (.v 29) (.c 0) (.ap 18 (.v 31) (.v 32) (.v 33) (.ap 3 (.v 6) (.v 29) (.c 0) (.c 0) (.c 0) (.c 0)) (.c 0) (.c 0)) (.c 0) (.c 0)) (.v 29) (.c 1) (.ap 19 (.v 31) (.v 32) (.v 33) (.ap 3 (.v 6) (.v 29) (.c 0) (.c 0) (.c 0) (.c 0)) (.c 0) (.c 0)) (.c 0) (.c 0)) (.v 29) (.c 2) (.ap 20 (.v 31) (.v 32) (.v 33) (.ap 3 (.v 6) (.v 29) (.c 0) (.c 0) (.c 0) (.c 0)) (.c 0) (.c 0)) (.c 0) (.c 0))), (33, (.ap 20 (.v 31) (.v 32) (.v 33) (.ap 3 (.v 6) (.v 29) (.c 0) (.c 0) (.c 0) (.c 0)) (.c 0) (.c 0))), (32, (.ap 19 (.v 31) (.v 32) (.v 33) (.ap 3 (.v 6) (.v 29) (.c 0) (.c 0) (.c 0) (.c 0)) (.c 0) (.c 0))), (31, (.ap 18 (.v 31) (.v 32) (.v 33) (.ap 3 (.v 6) (.v 29) (.c 0) (.c 0) (.c 0) (.c 0)) (.c 0) (.c 0))), (27, (.d 0)), (29, (.op .add (.v 29) (.c 1)))], []⟩, [(0, 0), (3, 6)], [], []⟩ [(.rn (.op .add (.v 29) (.c 1)) 0 50)] (shT rRun_T1 ⟨⟨[(30, (.ap 8 (.ap 8 (.ap 8 (.v 30) (.v 29) (.c 0) (.ap 18 (.v 31) (.v 32) (.v 33) (.ap 3 (.v 6) (.v 29) (.c 0) (.c 0) (.c 0) (.c 0)) (.c 0) (.c 0)) (.c 0) (.c 0)) (.v 29) (.c 1) (.ap 19 (.v 31) (.v 32) (.v 33) (.ap 3 (.v 6) (.v 29) (.c 0) (.c 0) (.c 0) (.c 0)) (.c 0) (.c 0)) (.c 0) (.c 0)) (.v 29) (.c 2) (.ap 20 (.v 31) (.v 32) (.v 33) (.ap 3 (.v 6) (.v 29) (.c 0) (.c 0) (.c 0) (.c 0)) (.c 0) (.c 0)) (.c 0) (.c 0))), (33, (.ap 20 (.v 31) (.v 32) (.v 33) (.ap 3 (.v 6) (.v 29) (.c 0) (.c 0) (.c 0) (.c 0)) (.c 0) (.c 0))), (32, (.ap 19 (.v 31) (.v 32) (.v 33) (.ap 3 (.v 6) (.v 29) (.c 0) (.c 0) (.c 0) (.c 0)) (.c 0) (.c 0))), (31, (.ap 18 (.v 31) (.v 32) (.v 33) (.ap 3 (.v 6) (.v 29) (.c 0) (.c 0) (.c 0) (.c 0)) (.c 0) (.c 0))), (27, (.d 0)), (29, (.op .add (.v 29) (.c 1)))], []⟩, [(0, 0), (3, 6)], [], []⟩)), (.fin [((.eq (.ap 21 (.v 31) (.v 32) (.v 33) (.ap 3 (.v 6) (.v 29) (.c 0) (.c 0) (.c 0) (.c 0)) (.c 0) (.c 0)) (.c 0)), .false), ((.lt (.v 29) (.v 3)), .true), ((.eq (.ap 21 (.v 0) (.v 1) (.v 2) (.ap 3 (.v 6) (.c 0) (.c 0) (.c 0) (.c 0) (.c 0)) (.c 0) (.c 0)) (.c 0)), .true), ((.lt (.c 0) (.v 3)), .true), ((.le (.c 0) (.v 5)), .true), ((.le (.v 29) (.v 27)), .true)] 1 ⟨⟨[], []⟩, [(0, 3)], [(0, (.v 27))], []⟩ [(.ei (.ap 22 (.v 0) (.v 1) (.v 2) (.v 6) (.v 3) (.c 0)) (.v 29)), (.ei (.ap 23 (.v 0) (.v 1) (.v 2) (.v 6) (.v 3) (.c 0)) (.ap 21 (.v 31) (.v 32) (.v 33) (.ap 3 (.v 6) (.v 29) (.c 0) (.c 0) (.c 0) (.c 0)) (.c 0) (.c 0))), (.ar [(.nt .i64), (.nt .i64), (.nt .u64)] (.ap 24 (.v 0) (.v 1) (.v 2) (.v 6) (.v 3) (.c 0)) (.v 30) (.ap 22 (.v 0) (.v 1) (.v 2) (.v 6) (.v 3) (.c 0))), (.fa (.le (.ap 22 (.v 0) (.v 1) (.v 2) (.v 6) (.v 3) (.c 0)) (.v 29)) .true), (.fa (.le (.ap 22 (.v 0) (.v 1) (.v 2) (.v 6) (.v 3) (.c 0)) (.v 27)) .true)] [.none]), (.fin [((.lt (.v 29) (.v 3)), .false), ((.eq (.ap 21 (.v 0) (.v 1) (.v 2) (.ap 3 (.v 6) (.c 0) (.c 0) (.c 0) (.c 0) (.c 0)) (.c 0) (.c 0)) (.c 0)), .true), ((.lt (.c 0) (.v 3)), .true), ((.le (.c 0) (.v 5)), .true), ((.le (.v 29) (.v 27)), .true)] 1 ⟨⟨[], []⟩, [(0, 3)], [(0, (.v 27))], []⟩ [(.ei (.ap 22 (.v 0) (.v 1) (.v 2) (.v 6) (.v 3) (.c 0)) (.v 29)), (.ei (.ap 23 (.v 0) (.v 1) (.v 2) (.v 6) (.v 3) (.c 0)) (.c 0)), (.ar [(.nt .i64), (.nt .i64), (.nt .u64)] (.ap 24 (.v 0) (.v 1) (.v 2) (.v 6) (.v 3) (.c 0)) (.v 30) (.ap 22 (.v 0) (.v 1) (.v 2) (.v 6) (.v 3) (.c 0))), (.fa (.le (.ap 22 (.v 0) (.v 1) (.v 2) (.v 6) (.v 3) (.c 0)) (.v 29)) .true), (.fa (.le (.ap 22 (.v 0) (.v 1) (.v 2) (.v 6) (.v 3) (.c 0)) (.v 27)) .true)] [.none])]
set_option maxRecDepth 100000 in
theorem rRun_h0 : (ex (ccOf Try.prog BF [24] rRun) (ents (ccOf Try.prog BF [24] rRun)) (dw (ccOf Try.prog BF [24] rRun) (ents (ccOf Try.prog BF [24] rRun)) 1000 4) (stopL [(21, 3, 0)]) 4000 (tm0 rRun Try.f21 (Try.f21.body.getD .skip)).f (tm0 rRun Try.f21 (Try.f21.body.getD .skip)).fs (tm0 rRun Try.f21 (Try.f21.body.getD .skip)).H).lfs (ccOf Try.prog BF [24] rRun) ((tm0 rRun Try.f21 (Try.f21.body.getD .skip)) :: [rRun_T1]) rRun.os = some rRun_L0 := by kernel_rfl
set_option maxRecDepth 100000 in
theorem rRun_h1 : (ex (ccOf Try.prog BF [24] rRun) (ents (ccOf Try.prog BF [24] rRun)) (dw (ccOf Try.prog BF [24] rRun) (ents (ccOf Try.prog BF [24] rRun)) 1000 4) (stopL [(21, 3, 0)]) 4000 rRun_T1.f rRun_T1.fs rRun_T1.H).lfs (ccOf Try.prog BF [24] rRun) ((tm0 rRun Try.f21 (Try.f21.body.getD .skip)) :: [rRun_T1]) rRun.os = some rRun_L1 := by kernel_rfl
def rRun_inv : (Nat → Int) → (Nat → Bool) → Nat → (Nat → Int) → (Nat → Bool) → Prop := fun iv0 _ k iv _ => match k with
  | 0 => True
  | _ => RunInv (iv0 0, iv0 1, iv0 2) (iv0 6) (iv0 3) (iv 29) (iv 30) (iv 31) (iv 32) (iv 33)
def rRun_mu : (Nat → Int) → (Nat → Bool) → Nat → (Nat → Int) → (Nat → Bool) → Nat := fun iv0 _ k iv _ => match k with | 0 => 1000 | _ => (iv0 3 - iv 29).toNat
set_option maxHeartbeats 1000000 in
theorem rRun_o0_0 (kv : Nat → Nat) (iv0 : Nat → Int) (bv0 : Nat → Bool) (hin : InB rRun.B iv0) (hF : FT (sta FI FB kv iv0 bv0) (dlt dyn0) rRun.F) (iv : Nat → Int) (bv : Nat → Bool) (ha : Agr 7 iv0 bv0 iv bv) (hi : rRun_inv iv0 bv0 0 iv bv) :
    LfT (sta FI FB kv) rRun.os (rRun_inv iv0 bv0) (rRun_mu iv0 bv0) 0 iv bv (.cut [((.le (.c 1) (.d 0)), .true), ((.eq (.ap 21 (.v 0) (.v 1) (.v 2) (.ap 3 (.v 6) (.c 0) (.c 0) (.c 0) (.c 0) (.c 0)) (.c 0) (.c 0)) (.c 0)), .true), ((.lt (.c 0) (.v 3)), .true), ((.le (.c 0) (.v 5)), .true)] 1 ⟨⟨[(30, (.ap 8 (.ap 8 (.ap 8 (.c 0) (.c 0) (.c 0) (.ap 18 (.v 0) (.v 1) (.v 2) (.ap 3 (.v 6) (.c 0) (.c 0) (.c 0) (.c 0) (.c 0)) (.c 0) (.c 0)) (.c 0) (.c 0)) (.c 0) (.c 1) (.ap 19 (.v 0) (.v 1) (.v 2) (.ap 3 (.v 6) (.c 0) (.c 0) (.c 0) (.c 0) (.c 0)) (.c 0) (.c 0)) (.c 0) (.c 0)) (.c 0) (.c 2) (.ap 20 (.v 0) (.v 1) (.v 2) (.ap 3 (.v 6) (.c 0) (.c 0) (.c 0) (.c 0) (.c 0)) (.c 0) (.c 0)) (.c 0) (.c 0))), (33, (.ap 20 (.v 0) (.v 1) (.v 2) (.ap 3 (.v 6) (.c 0) (.c 0) (.c 0) (.c 0) (.c 0)) (.c 0) (.c 0))), (32, (.ap 19 (.v 0) (.v 1) (.v 2) (.ap 3 (.v 6) (.c 0) (.c 0) (.c 0) (.c 0) (.c 0)) (.c 0) (.c 0))), (31, (.ap 18 (.v 0) (.v 1) (.v 2) (.ap 3 (.v 6) (.c 0) (.c 0) (.c 0) (.c 0) (.c 0)) (.c 0) (.c 0))), (27, (.d 0)), (29, (.c 1))], []⟩, [(0, 0), (3, 3)], [], []⟩ [(.ei (.ap 3 (.ap 8 (.ap 8 (.ap 8 (.c 0) (.c 0) (.c 0) (.ap 18 (.v 0) (.v 1) (.v 2) (.ap 3 (.v 6) (.c 0) (.c 0) (.c 0) (.c 0) (.c 0)) (.c 0) (.c 0)) (.c 0) (.c 0)) (.c 0) (.c 1) (.ap 19 (.v 0) (.v 1) (.v 2) (.ap 3 (.v 6) (.c 0) (.c 0) (.c 0) (.c 0) (.c 0)) (.c 0) (.c 0)) (.c 0) (.c 0)) (.c 0) (.c 2) (.ap 20 (.v 0) (.v 1) (.v 2) (.ap 3 (.v 6) (.c 0) (.c 0) (.c 0) (.c 0) (.c 0)) (.c 0) (.c 0)) (.c 0) (.c 0)) (.c 0) (.c 0) (.c 0) (.c 0) (.c 0)) (.ap 18 (.v 0) (.v 1) (.v 2) (.ap 3 (.v 6) (.c 0) (.c 0) (.c 0) (.c 0) (.c 0)) (.c 0) (.c 0))), (.ei (.ap 3 (.ap 8 (.ap 8 (.ap 8 (.c 0) (.c 0) (.c 0) (.ap 18 (.v 0) (.v 1) (.v 2) (.ap 3 (.v 6) (.c 0) (.c 0) (.c 0) (.c 0) (.c 0)) (.c 0) (.c 0)) (.c 0) (.c 0)) (.c 0) (.c 1) (.ap 19 (.v 0) (.v 1) (.v 2) (.ap 3 (.v 6) (.c 0) (.c 0) (.c 0) (.c 0) (.c 0)) (.c 0) (.c 0)) (.c 0) (.c 0)) (.c 0) (.c 2) (.ap 20 (.v 0) (.v 1) (.v 2) (.ap 3 (.v 6) (.c 0) (.c 0) (.c 0) (.c 0) (.c 0)) (.c 0) (.c 0)) (.c 0) (.c 0)) (.c 0) (.c 1) (.c 0) (.c 0) (.c 0)) (.ap 19 (.v 0) (.v 1) (.v 2) (.ap 3 (.v 6) (.c 0) (.c 0) (.c 0) (.c 0) (.c 0)) (.c 0) (.c 0))), (.ei (.ap 7 (.ap 8 (.ap 8 (.ap 8 (.c 0) (.c 0) (.c 0) (.ap 18 (.v 0) (.v 1) (.v 2) (.ap 3 (.v 6) (.c 0) (.c 0) (.c 0) (.c 0) (.c 0)) (.c 0) (.c 0)) (.c 0) (.c 0)) (.c 0) (.c 1) (.ap 19 (.v 0) (.v 1) (.v 2) (.ap 3 (.v 6) (.c 0) (.c 0) (.c 0) (.c 0) (.c 0)) (.c 0) (.c 0)) (.c 0) (.c 0)) (.c 0) (.c 2) (.ap 20 (.v 0) (.v 1) (.v 2) (.ap 3 (.v 6) (.c 0) (.c 0) (.c 0) (.c 0) (.c 0)) (.c 0) (.c 0)) (.c 0) (.c 0)) (.c 0) (.c 2) (.c 0) (.c 0) (.c 0)) (.ap 20 (.v 0) (.v 1) (.v 2) (.ap 3 (.v 6) (.c 0) (.c 0) (.c 0) (.c 0) (.c 0)) (.c 0) (.c 0))), (.fa (.le (.c 1) (.c 1)) .true), (.fa (.le (.c 1) (.d 0)) .true)] (shT rRun_T1 ⟨⟨[(30, (.ap 8 (.ap 8 (.ap 8 (.c 0) (.c 0) (.c 0) (.ap 18 (.v 0) (.v 1) (.v 2) (.ap 3 (.v 6) (.c 0) (.c 0) (.c 0) (.c 0) (.c 0)) (.c 0) (.c 0)) (.c 0) (.c 0)) (.c 0) (.c 1) (.ap 19 (.v 0) (.v 1) (.v 2) (.ap 3 (.v 6) (.c 0) (.c 0) (.c 0) (.c 0) (.c 0)) (.c 0) (.c 0)) (.c 0) (.c 0)) (.c 0) (.c 2) (.ap 20 (.v 0) (.v 1) (.v 2) (.ap 3 (.v 6) (.c 0) (.c 0) (.c 0) (.c 0) (.c 0)) (.c 0) (.c 0)) (.c 0) (.c 0))), (33, (.ap 20 (.v 0) (.v 1) (.v 2) (.ap 3 (.v 6) (.c 0) (.c 0) (.c 0) (.c 0) (.c 0)) (.c 0) (.c 0))), (32, (.ap 19 (.v 0) (.v 1) (.v 2) (.ap 3 (.v 6) (.c 0) (.c 0) (.c 0) (.c 0) (.c 0)) (.c 0) (.c 0))), (31, (.ap 18 (.v 0) (.v 1) (.v 2) (.ap 3 (.v 6) (.c 0) (.c 0) (.c 0) (.c 0) (.c 0)) (.c 0) (.c 0))), (27, (.d 0)), (29, (.c 1))], []⟩, [(0, 0), (3, 3)], [], []⟩)) := by
  intro δ hf
  simp only [FT, TP, SB.tp, SI.tv, sta, IB.eval, and_true, true_and, ObsT, Ob.Tv, rowT, kix, In.tiv, In.tbv, get_cons, get_nil, reduceIte, Nat.reduceEqDiff, Int.reduceToNat, Int.reduceAdd, ap5, ne_eq, Bool.false_eq_true, FI_3, FI_7, FI_8, FI_9, FI_10, FI_11, FI_12, FI_13, FI_14, FI_15, FI_16, FI_17, FI_18, FI_19, FI_20, FI_21, FI_22, FI_23, FI_24] at hf
  have a0 := ha.1 0 (by omega)
  have a1 := ha.1 1 (by omega)
  have a2 := ha.1 2 (by omega)
  have a3 := ha.1 3 (by omega)
  have a6 := ha.1 6 (by omega)
  have b3 := hin 3 0 50 (by simp [rRun, bL])
  simp only [FT, TP, SB.tp, SI.tv, sta, IB.eval, and_true, true_and, ObsT, Ob.Tv, rowT, kix, In.tiv, In.tbv, get_cons, get_nil, reduceIte, Nat.reduceEqDiff, Int.reduceToNat, Int.reduceAdd, ap5, ne_eq, Bool.false_eq_true, FI_3, FI_7, FI_8, FI_9, FI_10, FI_11, FI_12, FI_13, FI_14, FI_15, FI_16, FI_17, FI_18, FI_19, FI_20, FI_21, FI_22, FI_23, FI_24, rRun_inv, rRun_mu, rRun, othT, a0, a1, a2, a3, a6] at hf hi ⊢
  rw [← a3] at b3
  obtain ⟨hd, he, hl⟩ := hf
  have hw := nxt_in (iv0 0, iv0 1, iv0 2) (IntKind.i64.wrap (gt (iv0 6) 0 0))
  refine ⟨?_, ⟨1, rfl, by omega, by omega, by omega, rfl, fun j hj => ?_, ?_⟩, by omega⟩
  · simp [gt_setI, hw]; omega
  · have : j = 0 := by omega
    subst this; exact he
  · exact list_next (k := 0) (o := 0) (fun j hj => absurd hj (Nat.not_lt_zero _)) rfl

set_option maxHeartbeats 1000000 in
theorem rRun_o0_1 (kv : Nat → Nat) (iv0 : Nat → Int) (bv0 : Nat → Bool) (hin : InB rRun.B iv0) (hF : FT (sta FI FB kv iv0 bv0) (dlt dyn0) rRun.F) (iv : Nat → Int) (bv : Nat → Bool) (ha : Agr 7 iv0 bv0 iv bv) (hi : rRun_inv iv0 bv0 0 iv bv) :
    LfT (sta FI FB kv) rRun.os (rRun_inv iv0 bv0) (rRun_mu iv0 bv0) 0 iv bv (.fin [((.eq (.ap 21 (.v 0) (.v 1) (.v 2) (.ap 3 (.v 6) (.c 0) (.c 0) (.c 0) (.c 0) (.c 0)) (.c 0) (.c 0)) (.c 0)), .false), ((.lt (.c 0) (.v 3)), .true), ((.le (.c 0) (.v 5)), .true)] 0 ⟨⟨[], []⟩, [], [], []⟩ [(.ei (.ap 23 (.v 0) (.v 1) (.v 2) (.v 6) (.v 3) (.c 0)) (.ap 21 (.v 0) (.v 1) (.v 2) (.ap 3 (.v 6) (.c 0) (.c 0) (.c 0) (.c 0) (.c 0)) (.c 0) (.c 0)))] []) := by
  intro δ hf
  simp only [FT, TP, SB.tp, SI.tv, sta, IB.eval, and_true, true_and, ObsT, Ob.Tv, rowT, kix, In.tiv, In.tbv, get_cons, get_nil, reduceIte, Nat.reduceEqDiff, Int.reduceToNat, Int.reduceAdd, ap5, ne_eq, Bool.false_eq_true, FI_3, FI_7, FI_8, FI_9, FI_10, FI_11, FI_12, FI_13, FI_14, FI_15, FI_16, FI_17, FI_18, FI_19, FI_20, FI_21, FI_22, FI_23, FI_24] at hf
  have a0 := ha.1 0 (by omega)
  have a1 := ha.1 1 (by omega)
  have a2 := ha.1 2 (by omega)
  have a3 := ha.1 3 (by omega)
  have a6 := ha.1 6 (by omega)
  have b3 := hin 3 0 50 (by simp [rRun, bL])
  simp only [FT, TP, SB.tp, SI.tv, sta, IB.eval, and_true, true_and, ObsT, Ob.Tv, rowT, kix, In.tiv, In.tbv, get_cons, get_nil, reduceIte, Nat.reduceEqDiff, Int.reduceToNat, Int.reduceAdd, ap5, ne_eq, Bool.false_eq_true, FI_3, FI_7, FI_8, FI_9, FI_10, FI_11, FI_12, FI_13, FI_14, FI_15, FI_16, FI_17, FI_18, FI_19, FI_20, FI_21, FI_22, FI_23, FI_24, rRun_inv, rRun_mu, rRun, othT, a0, a1, a2, a3, a6] at hf hi ⊢
  rw [← a3] at b3
  obtain ⟨he, hl⟩ := hf
  have hM : M (iv0 0) (iv0 1) (iv0 2) (iv0 6) (iv0 3) = 0 := M_is (s := (iv0 0, iv0 1, iv0 2)) (k := 0) (by omega) (by omega) (fun j hj => absurd hj (Nat.not_lt_zero _)) (.inr he)
  simp only [hM]
  refine ⟨?_, by simp⟩
  rw [if_pos (by omega)]; rfl

set_option maxHeartbeats 1000000 in
theorem rRun_o0_2 (kv : Nat → Nat) (iv0 : Nat → Int) (bv0 : Nat → Bool) (hin : InB rRun.B iv0) (hF : FT (sta FI FB kv iv0 bv0) (dlt dyn0) rRun.F) (iv : Nat → Int) (bv : Nat → Bool) (ha : Agr 7 iv0 bv0 iv bv) (hi : rRun_inv iv0 bv0 0 iv bv) :
    LfT (sta FI FB kv) rRun.os (rRun_inv iv0 bv0) (rRun_mu iv0 bv0) 0 iv bv (.fin [((.lt (.c 0) (.v 3)), .false), ((.le (.c 0) (.v 5)), .true)] 0 ⟨⟨[], []⟩, [], [], []⟩ [(.ei (.ap 23 (.v 0) (.v 1) (.v 2) (.v 6) (.v 3) (.c 0)) (.c 0))] []) := by
  intro δ hf
  simp only [FT, TP, SB.tp, SI.tv, sta, IB.eval, and_true, true_and, ObsT, Ob.Tv, rowT, kix, In.tiv, In.tbv, get_cons, get_nil, reduceIte, Nat.reduceEqDiff, Int.reduceToNat, Int.reduceAdd, ap5, ne_eq, Bool.false_eq_true, FI_3, FI_7, FI_8, FI_9, FI_10, FI_11, FI_12, FI_13, FI_14, FI_15, FI_16, FI_17, FI_18, FI_19, FI_20, FI_21, FI_22, FI_23, FI_24] at hf
  have a0 := ha.1 0 (by omega)
  have a1 := ha.1 1 (by omega)
  have a2 := ha.1 2 (by omega)
  have a3 := ha.1 3 (by omega)
  have a6 := ha.1 6 (by omega)
  have b3 := hin 3 0 50 (by simp [rRun, bL])
  simp only [FT, TP, SB.tp, SI.tv, sta, IB.eval, and_true, true_and, ObsT, Ob.Tv, rowT, kix, In.tiv, In.tbv, get_cons, get_nil, reduceIte, Nat.reduceEqDiff, Int.reduceToNat, Int.reduceAdd, ap5, ne_eq, Bool.false_eq_true, FI_3, FI_7, FI_8, FI_9, FI_10, FI_11, FI_12, FI_13, FI_14, FI_15, FI_16, FI_17, FI_18, FI_19, FI_20, FI_21, FI_22, FI_23, FI_24, rRun_inv, rRun_mu, rRun, othT, a0, a1, a2, a3, a6] at hf hi ⊢
  rw [← a3] at b3
  have hM : M (iv0 0) (iv0 1) (iv0 2) (iv0 6) (iv0 3) = 0 := M_is (s := (iv0 0, iv0 1, iv0 2)) (k := 0) (by omega) (by omega) (fun j hj => absurd hj (Nat.not_lt_zero _)) (.inl (by omega))
  simp only [hM]
  refine ⟨?_, by simp⟩
  rw [if_neg (by omega)]

set_option maxHeartbeats 1000000 in
theorem rRun_o1_0 (kv : Nat → Nat) (iv0 : Nat → Int) (bv0 : Nat → Bool) (hin : InB rRun.B iv0) (hF : FT (sta FI FB kv iv0 bv0) (dlt dyn0) rRun.F) (iv : Nat → Int) (bv : Nat → Bool) (ha : Agr 7 iv0 bv0 iv bv) (hi : rRun_inv iv0 bv0 1 iv bv) :
    LfT (sta FI FB kv) rRun.os (rRun_inv iv0 bv0) (rRun_mu iv0 bv0) 1 iv bv (.cut [((.le (.op .add (.v 29) (.c 1)) (.d 0)), .true), ((.eq (.ap 21 (.v 31) (.v 32) (.v 33) (.ap 3 (.v 6) (.v 29) (.c 0) (.c 0) (.c 0) (.c 0)) (.c 0) (.c 0)) (.c 0)), .true), ((.lt (.v 29) (.v 3)), .true), ((.eq (.ap 21 (.v 0) (.v 1) (.v 2) (.ap 3 (.v 6) (.c 0) (.c 0) (.c 0) (.c 0) (.c 0)) (.c 0) (.c 0)) (.c 0)), .true), ((.lt (.c 0) (.v 3)), .true), ((.le (.c 0) (.v 5)), .true), ((.le (.v 29) (.v 27)), .true)] 1 ⟨⟨[(30, (.ap 8 (.ap 8 (.ap 8 (.v 30) (.v 29) (.c 0) (.ap 18 (.v 31) (.v 32) (.v 33) (.ap 3 (.v 6) (.v 29) (.c 0) (.c 0) (.c 0) (.c 0)) (.c 0) (.c 0)) (.c 0) (.c 0)) (.v 29) (.c 1) (.ap 19 (.v 31) (.v 32) (.v 33) (.ap 3 (.v 6) (.v 29) (.c 0) (.c 0) (.c 0) (.c 0)) (.c 0) (.c 0)) (.c 0) (.c 0)) (.v 29) (.c 2) (.ap 20 (.v 31) (.v 32) (.v 33) (.ap 3 (.v 6) (.v 29) (.c 0) (.c 0) (.c 0) (.c 0)) (.c 0) (.c 0)) (.c 0) (.c 0))), (33, (.ap 20 (.v 31) (.v 32) (.v 33) (.ap 3 (.v 6) (.v 29) (.c 0) (.c 0) (.c 0) (.c 0)) (.c 0) (.c 0))), (32, (.ap 19 (.v 31) (.v 32) (.v 33) (.ap 3 (.v 6) (.v 29) (.c 0) (.c 0) (.c 0) (.c 0)) (.c 0) (.c 0))), (31, (.ap 18 (.v 31) (.v 32) (.v 33) (.ap 3 (.v 6) (.v 29) (.c 0) (.c 0) (.c 0) (.c 0)) (.c 0) (.c 0))), (27, (.d 0)), (29, (.op .add (.v 29) (.c 1)))], []⟩, [(0, 0), (3, 6)], [], []⟩ [(.rn (.op .add (.v 29) (.c 1)) 0 50)] (shT rRun_T1 ⟨⟨[(30, (.ap 8 (.ap 8 (.ap 8 (.v 30) (.v 29) (.c 0) (.ap 18 (.v 31) (.v 32) (.v 33) (.ap 3 (.v 6) (.v 29) (.c 0) (.c 0) (.c 0) (.c 0)) (.c 0) (.c 0)) (.c 0) (.c 0)) (.v 29) (.c 1) (.ap 19 (.v 31) (.v 32) (.v 33) (.ap 3 (.v 6) (.v 29) (.c 0) (.c 0) (.c 0) (.c 0)) (.c 0) (.c 0)) (.c 0) (.c 0)) (.v 29) (.c 2) (.ap 20 (.v 31) (.v 32) (.v 33) (.ap 3 (.v 6) (.v 29) (.c 0) (.c 0) (.c 0) (.c 0)) (.c 0) (.c 0)) (.c 0) (.c 0))), (33, (.ap 20 (.v 31) (.v 32) (.v 33) (.ap 3 (.v 6) (.v 29) (.c 0) (.c 0) (.c 0) (.c 0)) (.c 0) (.c 0))), (32, (.ap 19 (.v 31) (.v 32) (.v 33) (.ap 3 (.v 6) (.v 29) (.c 0) (.c 0) (.c 0) (.c 0)) (.c 0) (.c 0))), (31, (.ap 18 (.v 31) (.v 32) (.v 33) (.ap 3 (.v 6) (.v 29) (.c 0) (.c 0) (.c 0) (.c 0)) (.c 0) (.c 0))), (27, (.d 0)), (29, (.op .add (.v 29) (.c 1)))], []⟩, [(0, 0), (3, 6)], [], []⟩)) := by
  intro δ hf
  simp only [FT, TP, SB.tp, SI.tv, sta, IB.eval, and_true, true_and, ObsT, Ob.Tv, rowT, kix, In.tiv, In.tbv, get_cons, get_nil, reduceIte, Nat.reduceEqDiff, Int.reduceToNat, Int.reduceAdd, ap5, ne_eq, Bool.false_eq_true, FI_3, FI_7, FI_8, FI_9, FI_10, FI_11, FI_12, FI_13, FI_14, FI_15, FI_16, FI_17, FI_18, FI_19, FI_20, FI_21, FI_22, FI_23, FI_24] at hf
  have a0 := ha.1 0 (by omega)
  have a1 := ha.1 1 (by omega)
  have a2 := ha.1 2 (by omega)
  have a3 := ha.1 3 (by omega)
  have a6 := ha.1 6 (by omega)
  have b3 := hin 3 0 50 (by simp [rRun, bL])
  simp only [FT, TP, SB.tp, SI.tv, sta, IB.eval, and_true, true_and, ObsT, Ob.Tv, rowT, kix, In.tiv, In.tbv, get_cons, get_nil, reduceIte, Nat.reduceEqDiff, Int.reduceToNat, Int.reduceAdd, ap5, ne_eq, Bool.false_eq_true, FI_3, FI_7, FI_8, FI_9, FI_10, FI_11, FI_12, FI_13, FI_14, FI_15, FI_16, FI_17, FI_18, FI_19, FI_20, FI_21, FI_22, FI_23, FI_24, rRun_inv, rRun_mu, rRun, othT, a0, a1, a2, a3, a6] at hf hi ⊢
  rw [← a3] at b3
  obtain ⟨hd, he, hl, _, _, hc⟩ := hf
  obtain ⟨k, hk, h1, h2, h3, h4, h5, h6⟩ := hi
  rw [hk, Int.toNat_natCast] at he
  have hs : seq (iv0 0, iv0 1, iv0 2) (iv0 6) (k + 1) = nxt (iv 31, iv 32, iv 33) (IntKind.i64.wrap (gt (iv0 6) k 0)) := by
    show nxt (seq _ _ k) _ = _
    rw [h4]; rfl
  refine ⟨by omega, ⟨k + 1, by omega, by omega, by omega, by omega, ?_, fun j hj => ?_, ?_⟩, by omega⟩
  · rw [hs, hk, Int.toNat_natCast]
  · by_cases hjk : j = k
    · subst hjk
      show xE _ _ _ _ = 0
      rw [h4]; exact he
    · exact h5 j (by omega)
  · have := list_next h6 hk
    rw [hs] at this
    rw [hk, Int.toNat_natCast]
    rw [hk] at this
    exact this

set_option maxHeartbeats 1000000 in
theorem rRun_o1_1 (kv : Nat → Nat) (iv0 : Nat → Int) (bv0 : Nat → Bool) (hin : InB rRun.B iv0) (hF : FT (sta FI FB kv iv0 bv0) (dlt dyn0) rRun.F) (iv : Nat → Int) (bv : Nat → Bool) (ha : Agr 7 iv0 bv0 iv bv) (hi : rRun_inv iv0 bv0 1 iv bv) :
    LfT (sta FI FB kv) rRun.os (rRun_inv iv0 bv0) (rRun_mu iv0 bv0) 1 iv bv (.fin [((.eq (.ap 21 (.v 31) (.v 32) (.v 33) (.ap 3 (.v 6) (.v 29) (.c 0) (.c 0) (.c 0) (.c 0)) (.c 0) (.c 0)) (.c 0)), .false), ((.lt (.v 29) (.v 3)), .true), ((.eq (.ap 21 (.v 0) (.v 1) (.v 2) (.ap 3 (.v 6) (.c 0) (.c 0) (.c 0) (.c 0) (.c 0)) (.c 0) (.c 0)) (.c 0)), .true), ((.lt (.c 0) (.v 3)), .true), ((.le (.c 0) (.v 5)), .true), ((.le (.v 29) (.v 27)), .true)] 1 ⟨⟨[], []⟩, [(0, 3)], [(0, (.v 27))], []⟩ [(.ei (.ap 22 (.v 0) (.v 1) (.v 2) (.v 6) (.v 3) (.c 0)) (.v 29)), (.ei (.ap 23 (.v 0) (.v 1) (.v 2) (.v 6) (.v 3) (.c 0)) (.ap 21 (.v 31) (.v 32) (.v 33) (.ap 3 (.v 6) (.v 29) (.c 0) (.c 0) (.c 0) (.c 0)) (.c 0) (.c 0))), (.ar [(.nt .i64), (.nt .i64), (.nt .u64)] (.ap 24 (.v 0) (.v 1) (.v 2) (.v 6) (.v 3) (.c 0)) (.v 30) (.ap 22 (.v 0) (.v 1) (.v 2) (.v 6) (.v 3) (.c 0))), (.fa (.le (.ap 22 (.v 0) (.v 1) (.v 2) (.v 6) (.v 3) (.c 0)) (.v 29)) .true), (.fa (.le (.ap 22 (.v 0) (.v 1) (.v 2) (.v 6) (.v 3) (.c 0)) (.v 27)) .true)] [.none]) := by
  intro δ hf
  simp only [FT, TP, SB.tp, SI.tv, sta, IB.eval, and_true, true_and, ObsT, Ob.Tv, rowT, kix, In.tiv, In.tbv, get_cons, get_nil, reduceIte, Nat.reduceEqDiff, Int.reduceToNat, Int.reduceAdd, ap5, ne_eq, Bool.false_eq_true, FI_3, FI_7, FI_8, FI_9, FI_10, FI_11, FI_12, FI_13, FI_14, FI_15, FI_16, FI_17, FI_18, FI_19, FI_20, FI_21, FI_22, FI_23, FI_24] at hf
  have a0 := ha.1 0 (by omega)
  have a1 := ha.1 1 (by omega)
  have a2 := ha.1 2 (by omega)
  have a3 := ha.1 3 (by omega)
  have a6 := ha.1 6 (by omega)
  have b3 := hin 3 0 50 (by simp [rRun, bL])
  simp only [FT, TP, SB.tp, SI.tv, sta, IB.eval, and_true, true_and, ObsT, Ob.Tv, rowT, kix, In.tiv, In.tbv, get_cons, get_nil, reduceIte, Nat.reduceEqDiff, Int.reduceToNat, Int.reduceAdd, ap5, ne_eq, Bool.false_eq_true, FI_3, FI_7, FI_8, FI_9, FI_10, FI_11, FI_12, FI_13, FI_14, FI_15, FI_16, FI_17, FI_18, FI_19, FI_20, FI_21, FI_22, FI_23, FI_24, rRun_inv, rRun_mu, rRun, othT, a0, a1, a2, a3, a6] at hf hi ⊢
  rw [← a3] at b3
  obtain ⟨he, hl, _, _, hc⟩ := hf
  obtain ⟨k, hk, h1, h2, h3, h4, h5, h6⟩ := hi
  rw [hk, Int.toNat_natCast] at he
  have he' : er (iv0 0, iv0 1, iv0 2) (iv0 6) k ≠ 0 := by
    show xE _ _ _ _ ≠ 0
    rw [h4]; exact he
  have hM : M (iv0 0) (iv0 1) (iv0 2) (iv0 6) (iv0 3) = k := M_is (s := (iv0 0, iv0 1, iv0 2)) (by omega) (by omega) h5 (.inr he')
  simp only [hM]
  refine ⟨⟨hk.symm, ?_, fun j hj => ?_, by omega, by omega⟩, ?_⟩
  · rw [if_pos (by omega), hk, Int.toNat_natCast]
    show xE _ _ _ _ = _
    rw [h4]; rfl
  · simp only [Int.toNat_natCast]
    obtain ⟨g1, g2, g3⟩ := list_arr h6 j (by omega)
    exact ⟨congrArg _ g1, congrArg _ g2, congrArg _ g3⟩
  · exact ⟨fun _ h => by omega, fun h => absurd trivial h⟩

set_option maxHeartbeats 1000000 in
theorem rRun_o1_2 (kv : Nat → Nat) (iv0 : Nat → Int) (bv0 : Nat → Bool) (hin : InB rRun.B iv0) (hF : FT (sta FI FB kv iv0 bv0) (dlt dyn0) rRun.F) (iv : Nat → Int) (bv : Nat → Bool) (ha : Agr 7 iv0 bv0 iv bv) (hi : rRun_inv iv0 bv0 1 iv bv) :
    LfT (sta FI FB kv) rRun.os (rRun_inv iv0 bv0) (rRun_mu iv0 bv0) 1 iv bv (.fin [((.lt (.v 29) (.v 3)), .false), ((.eq (.ap 21 (.v 0) (.v 1) (.v 2) (.ap 3 (.v 6) (.c 0) (.c 0) (.c 0) (.c 0) (.c 0)) (.c 0) (.c 0)) (.c 0)), .true), ((.lt (.c 0) (.v 3)), .true), ((.le (.c 0) (.v 5)), .true), ((.le (.v 29) (.v 27)), .true)] 1 ⟨⟨[], []⟩, [(0, 3)], [(0, (.v 27))], []⟩ [(.ei (.ap 22 (.v 0) (.v 1) (.v 2) (.v 6) (.v 3) (.c 0)) (.v 29)), (.ei (.ap 23 (.v 0) (.v 1) (.v 2) (.v 6) (.v 3) (.c 0)) (.c 0)), (.ar [(.nt .i64), (.nt .i64), (.nt .u64)] (.ap 24 (.v 0) (.v 1) (.v 2) (.v 6) (.v 3) (.c 0)) (.v 30) (.ap 22 (.v 0) (.v 1) (.v 2) (.v 6) (.v 3) (.c 0))), (.fa (.le (.ap 22 (.v 0) (.v 1) (.v 2) (.v 6) (.v 3) (.c 0)) (.v 29)) .true), (.fa (.le (.ap 22 (.v 0) (.v 1) (.v 2) (.v 6) (.v 3) (.c 0)) (.v 27)) .true)] [.none]) := by
  intro δ hf
  simp only [FT, TP, SB.tp, SI.tv, sta, IB.eval, and_true, true_and, ObsT, Ob.Tv, rowT, kix, In.tiv, In.tbv, get_cons, get_nil, reduceIte, Nat.reduceEqDiff, Int.reduceToNat, Int.reduceAdd, ap5, ne_eq, Bool.false_eq_true, FI_3, FI_7, FI_8, FI_9, FI_10, FI_11, FI_12, FI_13, FI_14, FI_15, FI_16, FI_17, FI_18, FI_19, FI_20, FI_21, FI_22, FI_23, FI_24] at hf
  have a0 := ha.1 0 (by omega)
  have a1 := ha.1 1 (by omega)
  have a2 := ha.1 2 (by omega)
  have a3 := ha.1 3 (by omega)
  have a6 := ha.1 6 (by omega)
  have b3 := hin 3 0 50 (by simp [rRun, bL])
  simp only [FT, TP, SB.tp, SI.tv, sta, IB.eval, and_true, true_and, ObsT, Ob.Tv, rowT, kix, In.tiv, In.tbv, get_cons, get_nil, reduceIte, Nat.reduceEqDiff, Int.reduceToNat, Int.reduceAdd, ap5, ne_eq, Bool.false_eq_true, FI_3, FI_7, FI_8, FI_9, FI_10, FI_11, FI_12, FI_13, FI_14, FI_15, FI_16, FI_17, FI_18, FI_19, FI_20, FI_21, FI_22, FI_23, FI_24, rRun_inv, rRun_mu, rRun, othT, a0, a1, a2, a3, a6] at hf hi ⊢
  rw [← a3] at b3
  obtain ⟨hl, _, _, hc⟩ := hf
  obtain ⟨k, hk, h1, h2, h3, h4, h5, h6⟩ := hi
  have hM : M (iv0 0) (iv0 1) (iv0 2) (iv0 6) (iv0 3) = k := M_is (s := (iv0 0, iv0 1, iv0 2)) (by omega) (by omega) h5 (.inl (by omega))
  simp only [hM]
  refine ⟨⟨hk.symm, ?_, fun j hj => ?_, by omega, by omega⟩, ?_⟩
  · rw [if_neg (by omega)]
  · simp only [Int.toNat_natCast]
    obtain ⟨g1, g2, g3⟩ := list_arr h6 j (by omega)
    exact ⟨congrArg _ g1, congrArg _ g2, congrArg _ g3⟩
  · exact ⟨fun _ h => by omega, fun h => absurd trivial h⟩

set_option maxRecDepth 100000 in
theorem rRun_c : LsC ((tm0 rRun Try.f21 (Try.f21.body.getD .skip)) :: [rRun_T1]) rRun.os [rRun_L0, rRun_L1] := by
  unfold rRun_L0 rRun_L1
  exact ⟨List.forall_mem_cons.2 ⟨⟨⟨_, rfl, rfl⟩, by kernel_rfl⟩, List.forall_mem_cons.2 ⟨⟨⟨_, rfl, rfl⟩, by kernel_rfl⟩, List.forall_mem_cons.2 ⟨⟨⟨_, rfl, rfl⟩, by kernel_rfl⟩, List.forall_mem_nil _⟩⟩⟩, List.forall_mem_cons.2 ⟨⟨⟨_, rfl, rfl⟩, by kernel_rfl⟩, List.forall_mem_cons.2 ⟨⟨⟨_, rfl, rfl⟩, by kernel_rfl⟩, List.forall_mem_cons.2 ⟨⟨⟨_, rfl, rfl⟩, by kernel_rfl⟩, List.forall_mem_nil _⟩⟩⟩, trivial⟩
theorem rRun_ok : rRun.Ok Try.prog FI FB :=
  Con.of_plain (body := Try.f21.body.getD .skip) pok fiok ents_for rRun Try.func21 (by kernel_rfl) 7 [rRun_T1] (by kernel_rfl) [rRun_L0, rRun_L1] ⟨rRun_h0, rRun_h1, trivial⟩ rRun_c
    rRun_inv rRun_mu (fun _ _ _ => trivial) fun kv iv0 bv0 hin hF k l iv bv hk ha hi => match k, hk, hi with
    | 0, hk, hi => by
      cases hk
      exact List.forall_mem_cons.2 ⟨rRun_o0_0 kv iv0 bv0 hin hF iv bv ha hi, List.forall_mem_cons.2 ⟨rRun_o0_1 kv iv0 bv0 hin hF iv bv ha hi, List.forall_mem_cons.2 ⟨rRun_o0_2 kv iv0 bv0 hin hF iv bv ha hi, List.forall_mem_nil _⟩⟩⟩
    | 1, hk, hi => by
      cases hk
      exact List.forall_mem_cons.2 ⟨rRun_o1_0 kv iv0 bv0 hin hF iv bv ha hi, List.forall_mem_cons.2 ⟨rRun_o1_1 kv iv0 bv0 hin hF iv bv ha hi, List.forall_mem_cons.2 ⟨rRun_o1_2 kv iv0 bv0 hin hF iv bv ha hi, List.forall_mem_nil _⟩⟩⟩
    | k + 2, hk, _ => by simp at hk
end Go.Sx.Esc
