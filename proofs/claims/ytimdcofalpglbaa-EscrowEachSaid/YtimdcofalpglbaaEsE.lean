/- Escrow: debits, credits, changes, by contract. -/
import Derived.Test.YtimdcofalpglbaaEsD
namespace Go.Sx.Esc
set_option linter.unusedSimpArgs false
set_option linter.unusedVariables false
open Go Go.Sx Go.Proofs
theorem FIu0 (i : Nat) (v f r n k x : Int) (h : 10 ≤ i) : FI i v f r n k x = U i v f r n k x := by
  unfold FI mkFI
  rw [if_neg (by omega), if_neg (by omega), if_neg (by omega)]
theorem FI_10 (v f r n k x : Int) : FI 10 v f r n k x = IntKind.i64.wrap (onOk (dE v f r n) (v - n)) := FIu0 10 v f r n k x (by omega)
theorem FI_11 (v f r n k x : Int) : FI 11 v f r n k x = IntKind.i64.wrap (onOk (dE v f r n) f) := FIu0 11 v f r n k x (by omega)
theorem FI_12 (v f r n k x : Int) : FI 12 v f r n k x = IntKind.u64.wrap (onOk (dE v f r n) (r + 1)) := FIu0 12 v f r n k x (by omega)
theorem FI_13 (v f r n k x : Int) : FI 13 v f r n k x = dE v f r n := FIu0 13 v f r n k x (by omega)
theorem FI_14 (v f r n k x : Int) : FI 14 v f r n k x = IntKind.i64.wrap (onOk (cE v f r n) (v + n)) := FIu0 14 v f r n k x (by omega)
theorem FI_15 (v f r n k x : Int) : FI 15 v f r n k x = IntKind.i64.wrap (onOk (cE v f r n) f) := FIu0 15 v f r n k x (by omega)
theorem FI_16 (v f r n k x : Int) : FI 16 v f r n k x = IntKind.u64.wrap (onOk (cE v f r n) (r + 1)) := FIu0 16 v f r n k x (by omega)
theorem FI_17 (v f r n k x : Int) : FI 17 v f r n k x = cE v f r n := FIu0 17 v f r n k x (by omega)
theorem FI_18 (v f r n k x : Int) : FI 18 v f r n k x = (nxt (v, f, r) n).1 := FIu0 18 v f r n k x (by omega)
theorem FI_19 (v f r n k x : Int) : FI 19 v f r n k x = (nxt (v, f, r) n).2.1 := FIu0 19 v f r n k x (by omega)
theorem FI_20 (v f r n k x : Int) : FI 20 v f r n k x = (nxt (v, f, r) n).2.2 := FIu0 20 v f r n k x (by omega)
theorem FI_21 (v f r n k x : Int) : FI 21 v f r n k x = xE v f r n := FIu0 21 v f r n k x (by omega)
theorem FI_22 (v f r n k x : Int) : FI 22 v f r n k x = M v f r n k := FIu0 22 v f r n k x (by omega)
noncomputable def cWorks_L0 : List Lf :=
  [(.fin [((.le (.c 4) (.d 0)), .true)] 0 ⟨⟨[], []⟩, [], [], []⟩ [] [])]
set_option maxRecDepth 100000 in
theorem cWorks_h0 : (ex (ccOf Try.prog BF [24] cWorks) ((fun _ => []) (ccOf Try.prog BF [24] cWorks)) (dw (ccOf Try.prog BF [24] cWorks) ((fun _ => []) (ccOf Try.prog BF [24] cWorks)) 1000 4) (stopL []) 4000 (tm0 cWorks Try.f17 (Try.f17.body.getD .skip)).f (tm0 cWorks Try.f17 (Try.f17.body.getD .skip)).fs (tm0 cWorks Try.f17 (Try.f17.body.getD .skip)).H).lfs (ccOf Try.prog BF [24] cWorks) ((tm0 cWorks Try.f17 (Try.f17.body.getD .skip)) :: []) cWorks.os = some cWorks_L0 := by kernel_rfl
def cWorks_inv : (Nat → Int) → (Nat → Bool) → Nat → (Nat → Int) → (Nat → Bool) → Prop := fun _ _ _ _ _ => True
def cWorks_mu : (Nat → Int) → (Nat → Bool) → Nat → (Nat → Int) → (Nat → Bool) → Nat := fun _ _ _ _ _ => 0
set_option maxHeartbeats 1000000 in
theorem cWorks_o0_0 (kv : Nat → Nat) (iv0 : Nat → Int) (bv0 : Nat → Bool) (hin : InB cWorks.B iv0) (hF : FT (sta FI FB kv iv0 bv0) (dlt dyn0) cWorks.F) (iv : Nat → Int) (bv : Nat → Bool) (ha : Agr 0 iv0 bv0 iv bv) (hi : cWorks_inv iv0 bv0 0 iv bv) :
    LfT (sta FI FB kv) cWorks.os (cWorks_inv iv0 bv0) (cWorks_mu iv0 bv0) 0 iv bv (.fin [((.le (.c 4) (.d 0)), .true)] 0 ⟨⟨[], []⟩, [], [], []⟩ [] []) := by
  intro δ hf
  exact ⟨by simp only [ObsT], by simp [cWorks, o1, othT]⟩
set_option maxRecDepth 100000 in
theorem cWorks_c : LsC ((tm0 cWorks Try.f17 (Try.f17.body.getD .skip)) :: []) cWorks.os [cWorks_L0] := by
  unfold cWorks_L0
  exact ⟨List.forall_mem_cons.2 ⟨⟨⟨_, rfl, rfl⟩, by kernel_rfl⟩, List.forall_mem_nil _⟩, trivial⟩
theorem cWorks_ok : cWorks.Ok Try.prog FI FB :=
  Con.of_plain (body := Try.f17.body.getD .skip) pok fiok EntsFor.nil cWorks Try.func17 (by kernel_rfl) 0 [] (by kernel_rfl) [cWorks_L0] ⟨cWorks_h0, trivial⟩ cWorks_c
    cWorks_inv cWorks_mu (fun _ _ _ => trivial) fun kv iv0 bv0 hin hF k l iv bv hk ha hi => match k, hk, hi with
    | 0, hk, hi => by
      cases hk
      exact List.forall_mem_cons.2 ⟨cWorks_o0_0 kv iv0 bv0 hin hF iv bv ha hi, List.forall_mem_nil _⟩
    | k + 1, hk, _ => by simp at hk
noncomputable def eD_L0 : List Lf :=
  [(.fin [((.lt (.wk .u64 (.op .sub (.wk .u64 (.v 0)) (.wk .u64 (.v 1)))) (.v 3)), .true), ((.lt (.c 0) (.v 3)), .true), ((.le (.v 2) (.c 4611686018427387904)), .true), ((.le (.v 1) (.v 0)), .true)] 0 ⟨⟨[], []⟩, [], [], []⟩ [(.ei (.ap 10 (.v 0) (.v 1) (.v 2) (.v 3) (.c 0) (.c 0)) (.c 0)), (.ei (.ap 11 (.v 0) (.v 1) (.v 2) (.v 3) (.c 0) (.c 0)) (.c 0)), (.ei (.ap 12 (.v 0) (.v 1) (.v 2) (.v 3) (.c 0) (.c 0)) (.c 0)), (.ei (.ap 13 (.v 0) (.v 1) (.v 2) (.v 3) (.c 0) (.c 0)) (.c 140))] []), (.fin [((.le (.c 4611686018427387904) (.v 2)), .true), ((.lt (.wk .u64 (.op .sub (.wk .u64 (.v 0)) (.wk .u64 (.v 1)))) (.v 3)), .false), ((.lt (.c 0) (.v 3)), .true), ((.le (.v 2) (.c 4611686018427387904)), .true), ((.le (.v 1) (.v 0)), .true)] 0 ⟨⟨[], []⟩, [], [], []⟩ [(.ei (.ap 10 (.v 0) (.v 1) (.v 2) (.v 3) (.c 0) (.c 0)) (.c 0)), (.ei (.ap 11 (.v 0) (.v 1) (.v 2) (.v 3) (.c 0) (.c 0)) (.c 0)), (.ei (.ap 12 (.v 0) (.v 1) (.v 2) (.v 3) (.c 0) (.c 0)) (.c 0)), (.ei (.ap 13 (.v 0) (.v 1) (.v 2) (.v 3) (.c 0) (.c 0)) (.c 142))] []), (.fin [((.le (.c 4611686018427387904) (.v 2)), .false), ((.lt (.wk .u64 (.op .sub (.wk .u64 (.v 0)) (.wk .u64 (.v 1)))) (.v 3)), .false), ((.lt (.c 0) (.v 3)), .true), ((.le (.v 2) (.c 4611686018427387904)), .true), ((.le (.v 1) (.v 0)), .true)] 0 ⟨⟨[], []⟩, [], [], []⟩ [(.ei (.ap 10 (.v 0) (.v 1) (.v 2) (.v 3) (.c 0) (.c 0)) (.wk .i64 (.wk .u64 (.op .sub (.wk .u64 (.v 0)) (.v 3))))), (.ei (.ap 11 (.v 0) (.v 1) (.v 2) (.v 3) (.c 0) (.c 0)) (.v 1)), (.ei (.ap 12 (.v 0) (.v 1) (.v 2) (.v 3) (.c 0) (.c 0)) (.op .add (.v 2) (.c 1))), (.ei (.ap 13 (.v 0) (.v 1) (.v 2) (.v 3) (.c 0) (.c 0)) (.c 0))] []), (.fin [((.lt (.c 0) (.v 3)), .false), ((.le (.v 2) (.c 4611686018427387904)), .true), ((.le (.v 1) (.v 0)), .true)] 0 ⟨⟨[], []⟩, [], [], []⟩ [(.ei (.ap 10 (.v 0) (.v 1) (.v 2) (.v 3) (.c 0) (.c 0)) (.c 0)), (.ei (.ap 11 (.v 0) (.v 1) (.v 2) (.v 3) (.c 0) (.c 0)) (.c 0)), (.ei (.ap 12 (.v 0) (.v 1) (.v 2) (.v 3) (.c 0) (.c 0)) (.c 0)), (.ei (.ap 13 (.v 0) (.v 1) (.v 2) (.v 3) (.c 0) (.c 0)) (.c 2))] []), (.fin [((.le (.v 2) (.c 4611686018427387904)), .false), ((.le (.v 1) (.v 0)), .true)] 0 ⟨⟨[], []⟩, [], [], []⟩ [(.ei (.ap 10 (.v 0) (.v 1) (.v 2) (.v 3) (.c 0) (.c 0)) (.c 0)), (.ei (.ap 11 (.v 0) (.v 1) (.v 2) (.v 3) (.c 0) (.c 0)) (.c 0)), (.ei (.ap 12 (.v 0) (.v 1) (.v 2) (.v 3) (.c 0) (.c 0)) (.c 0)), (.ei (.ap 13 (.v 0) (.v 1) (.v 2) (.v 3) (.c 0) (.c 0)) (.c 2))] []), (.fin [((.le (.v 1) (.v 0)), .false)] 0 ⟨⟨[], []⟩, [], [], []⟩ [(.ei (.ap 10 (.v 0) (.v 1) (.v 2) (.v 3) (.c 0) (.c 0)) (.c 0)), (.ei (.ap 11 (.v 0) (.v 1) (.v 2) (.v 3) (.c 0) (.c 0)) (.c 0)), (.ei (.ap 12 (.v 0) (.v 1) (.v 2) (.v 3) (.c 0) (.c 0)) (.c 0)), (.ei (.ap 13 (.v 0) (.v 1) (.v 2) (.v 3) (.c 0) (.c 0)) (.c 2))] [])]
set_option maxRecDepth 100000 in
theorem eD_h0 : (ex (ccOf Try.prog BF [24] eD) ((fun _ => []) (ccOf Try.prog BF [24] eD)) (dw (ccOf Try.prog BF [24] eD) ((fun _ => []) (ccOf Try.prog BF [24] eD)) 1000 4) (stopL []) 4000 (tm0 eD Try.f8 (Try.f8.body.getD .skip)).f (tm0 eD Try.f8 (Try.f8.body.getD .skip)).fs (tm0 eD Try.f8 (Try.f8.body.getD .skip)).H).lfs (ccOf Try.prog BF [24] eD) ((tm0 eD Try.f8 (Try.f8.body.getD .skip)) :: []) eD.os = some eD_L0 := by kernel_rfl
def eD_inv : (Nat → Int) → (Nat → Bool) → Nat → (Nat → Int) → (Nat → Bool) → Prop := fun _ _ _ _ _ => True
def eD_mu : (Nat → Int) → (Nat → Bool) → Nat → (Nat → Int) → (Nat → Bool) → Nat := fun _ _ _ _ _ => 0
set_option maxHeartbeats 1000000 in
theorem eD_o0_0 (kv : Nat → Nat) (iv0 : Nat → Int) (bv0 : Nat → Bool) (hin : InB eD.B iv0) (hF : FT (sta FI FB kv iv0 bv0) (dlt dyn0) eD.F) (iv : Nat → Int) (bv : Nat → Bool) (ha : Agr 4 iv0 bv0 iv bv) (hi : eD_inv iv0 bv0 0 iv bv) :
    LfT (sta FI FB kv) eD.os (eD_inv iv0 bv0) (eD_mu iv0 bv0) 0 iv bv (.fin [((.lt (.wk .u64 (.op .sub (.wk .u64 (.v 0)) (.wk .u64 (.v 1)))) (.v 3)), .true), ((.lt (.c 0) (.v 3)), .true), ((.le (.v 2) (.c 4611686018427387904)), .true), ((.le (.v 1) (.v 0)), .true)] 0 ⟨⟨[], []⟩, [], [], []⟩ [(.ei (.ap 10 (.v 0) (.v 1) (.v 2) (.v 3) (.c 0) (.c 0)) (.c 0)), (.ei (.ap 11 (.v 0) (.v 1) (.v 2) (.v 3) (.c 0) (.c 0)) (.c 0)), (.ei (.ap 12 (.v 0) (.v 1) (.v 2) (.v 3) (.c 0) (.c 0)) (.c 0)), (.ei (.ap 13 (.v 0) (.v 1) (.v 2) (.v 3) (.c 0) (.c 0)) (.c 140))] []) := by
  intro δ hf
  simp only [FT, TP, SB.tp, SI.tv, sta, IB.eval, and_true, wrap_i64, wrap_u64, FI_10, FI_11, FI_12, FI_13, FI_14, FI_15, FI_16, FI_17, FI_18, FI_19, FI_20, FI_21, onOk, nxt, dE, cE, xE] at hf
  have b0 := hin 0 (-9223372036854775808) 9223372036854775807 (by simp [eD, b4, b3])
  have b1 := hin 1 (-9223372036854775808) 9223372036854775807 (by simp [eD, b4, b3])
  have b2 := hin 2 0 18446744073709551615 (by simp [eD, b4, b3])
  have b3 := hin 3 (-9223372036854775808) 9223372036854775807 (by simp [eD, b4, b3])
  have a0 := ha.1 0 (by omega)
  have a1 := ha.1 1 (by omega)
  have a2 := ha.1 2 (by omega)
  have a3 := ha.1 3 (by omega)
  rw [← a0] at b0; rw [← a1] at b1; rw [← a2] at b2; rw [← a3] at b3
  refine ⟨?_, by simp [eD, o1, othT]⟩
  · simp only [ObsT, Ob.Tv, SB.tp, SI.tv, sta, IB.eval, and_true, wrap_i64, wrap_u64, FI_10, FI_11, FI_12, FI_13, FI_14, FI_15, FI_16, FI_17, FI_18, FI_19, FI_20, FI_21, onOk, nxt, dE, cE, xE]
    first | omega | ((repeat' apply And.intro) <;> ((repeat' split) <;> omega))
set_option maxHeartbeats 1000000 in
theorem eD_o0_1 (kv : Nat → Nat) (iv0 : Nat → Int) (bv0 : Nat → Bool) (hin : InB eD.B iv0) (hF : FT (sta FI FB kv iv0 bv0) (dlt dyn0) eD.F) (iv : Nat → Int) (bv : Nat → Bool) (ha : Agr 4 iv0 bv0 iv bv) (hi : eD_inv iv0 bv0 0 iv bv) :
    LfT (sta FI FB kv) eD.os (eD_inv iv0 bv0) (eD_mu iv0 bv0) 0 iv bv (.fin [((.le (.c 4611686018427387904) (.v 2)), .true), ((.lt (.wk .u64 (.op .sub (.wk .u64 (.v 0)) (.wk .u64 (.v 1)))) (.v 3)), .false), ((.lt (.c 0) (.v 3)), .true), ((.le (.v 2) (.c 4611686018427387904)), .true), ((.le (.v 1) (.v 0)), .true)] 0 ⟨⟨[], []⟩, [], [], []⟩ [(.ei (.ap 10 (.v 0) (.v 1) (.v 2) (.v 3) (.c 0) (.c 0)) (.c 0)), (.ei (.ap 11 (.v 0) (.v 1) (.v 2) (.v 3) (.c 0) (.c 0)) (.c 0)), (.ei (.ap 12 (.v 0) (.v 1) (.v 2) (.v 3) (.c 0) (.c 0)) (.c 0)), (.ei (.ap 13 (.v 0) (.v 1) (.v 2) (.v 3) (.c 0) (.c 0)) (.c 142))] []) := by
  intro δ hf
  simp only [FT, TP, SB.tp, SI.tv, sta, IB.eval, and_true, wrap_i64, wrap_u64, FI_10, FI_11, FI_12, FI_13, FI_14, FI_15, FI_16, FI_17, FI_18, FI_19, FI_20, FI_21, onOk, nxt, dE, cE, xE] at hf
  have b0 := hin 0 (-9223372036854775808) 9223372036854775807 (by simp [eD, b4, b3])
  have b1 := hin 1 (-9223372036854775808) 9223372036854775807 (by simp [eD, b4, b3])
  have b2 := hin 2 0 18446744073709551615 (by simp [eD, b4, b3])
  have b3 := hin 3 (-9223372036854775808) 9223372036854775807 (by simp [eD, b4, b3])
  have a0 := ha.1 0 (by omega)
  have a1 := ha.1 1 (by omega)
  have a2 := ha.1 2 (by omega)
  have a3 := ha.1 3 (by omega)
  rw [← a0] at b0; rw [← a1] at b1; rw [← a2] at b2; rw [← a3] at b3
  refine ⟨?_, by simp [eD, o1, othT]⟩
  · simp only [ObsT, Ob.Tv, SB.tp, SI.tv, sta, IB.eval, and_true, wrap_i64, wrap_u64, FI_10, FI_11, FI_12, FI_13, FI_14, FI_15, FI_16, FI_17, FI_18, FI_19, FI_20, FI_21, onOk, nxt, dE, cE, xE]
    first | omega | ((repeat' apply And.intro) <;> ((repeat' split) <;> omega))
set_option maxHeartbeats 1000000 in
theorem eD_o0_2 (kv : Nat → Nat) (iv0 : Nat → Int) (bv0 : Nat → Bool) (hin : InB eD.B iv0) (hF : FT (sta FI FB kv iv0 bv0) (dlt dyn0) eD.F) (iv : Nat → Int) (bv : Nat → Bool) (ha : Agr 4 iv0 bv0 iv bv) (hi : eD_inv iv0 bv0 0 iv bv) :
    LfT (sta FI FB kv) eD.os (eD_inv iv0 bv0) (eD_mu iv0 bv0) 0 iv bv (.fin [((.le (.c 4611686018427387904) (.v 2)), .false), ((.lt (.wk .u64 (.op .sub (.wk .u64 (.v 0)) (.wk .u64 (.v 1)))) (.v 3)), .false), ((.lt (.c 0) (.v 3)), .true), ((.le (.v 2) (.c 4611686018427387904)), .true), ((.le (.v 1) (.v 0)), .true)] 0 ⟨⟨[], []⟩, [], [], []⟩ [(.ei (.ap 10 (.v 0) (.v 1) (.v 2) (.v 3) (.c 0) (.c 0)) (.wk .i64 (.wk .u64 (.op .sub (.wk .u64 (.v 0)) (.v 3))))), (.ei (.ap 11 (.v 0) (.v 1) (.v 2) (.v 3) (.c 0) (.c 0)) (.v 1)), (.ei (.ap 12 (.v 0) (.v 1) (.v 2) (.v 3) (.c 0) (.c 0)) (.op .add (.v 2) (.c 1))), (.ei (.ap 13 (.v 0) (.v 1) (.v 2) (.v 3) (.c 0) (.c 0)) (.c 0))] []) := by
  intro δ hf
  simp only [FT, TP, SB.tp, SI.tv, sta, IB.eval, and_true, wrap_i64, wrap_u64, FI_10, FI_11, FI_12, FI_13, FI_14, FI_15, FI_16, FI_17, FI_18, FI_19, FI_20, FI_21, onOk, nxt, dE, cE, xE] at hf
  have b0 := hin 0 (-9223372036854775808) 9223372036854775807 (by simp [eD, b4, b3])
  have b1 := hin 1 (-9223372036854775808) 9223372036854775807 (by simp [eD, b4, b3])
  have b2 := hin 2 0 18446744073709551615 (by simp [eD, b4, b3])
  have b3 := hin 3 (-9223372036854775808) 9223372036854775807 (by simp [eD, b4, b3])
  have a0 := ha.1 0 (by omega)
  have a1 := ha.1 1 (by omega)
  have a2 := ha.1 2 (by omega)
  have a3 := ha.1 3 (by omega)
  rw [← a0] at b0; rw [← a1] at b1; rw [← a2] at b2; rw [← a3] at b3
  refine ⟨?_, by simp [eD, o1, othT]⟩
  · simp only [ObsT, Ob.Tv, SB.tp, SI.tv, sta, IB.eval, and_true, wrap_i64, wrap_u64, FI_10, FI_11, FI_12, FI_13, FI_14, FI_15, FI_16, FI_17, FI_18, FI_19, FI_20, FI_21, onOk, nxt, dE, cE, xE]
    first | omega | ((repeat' apply And.intro) <;> ((repeat' split) <;> omega))
set_option maxHeartbeats 1000000 in
theorem eD_o0_3 (kv : Nat → Nat) (iv0 : Nat → Int) (bv0 : Nat → Bool) (hin : InB eD.B iv0) (hF : FT (sta FI FB kv iv0 bv0) (dlt dyn0) eD.F) (iv : Nat → Int) (bv : Nat → Bool) (ha : Agr 4 iv0 bv0 iv bv) (hi : eD_inv iv0 bv0 0 iv bv) :
    LfT (sta FI FB kv) eD.os (eD_inv iv0 bv0) (eD_mu iv0 bv0) 0 iv bv (.fin [((.lt (.c 0) (.v 3)), .false), ((.le (.v 2) (.c 4611686018427387904)), .true), ((.le (.v 1) (.v 0)), .true)] 0 ⟨⟨[], []⟩, [], [], []⟩ [(.ei (.ap 10 (.v 0) (.v 1) (.v 2) (.v 3) (.c 0) (.c 0)) (.c 0)), (.ei (.ap 11 (.v 0) (.v 1) (.v 2) (.v 3) (.c 0) (.c 0)) (.c 0)), (.ei (.ap 12 (.v 0) (.v 1) (.v 2) (.v 3) (.c 0) (.c 0)) (.c 0)), (.ei (.ap 13 (.v 0) (.v 1) (.v 2) (.v 3) (.c 0) (.c 0)) (.c 2))] []) := by
  intro δ hf
  simp only [FT, TP, SB.tp, SI.tv, sta, IB.eval, and_true, wrap_i64, wrap_u64, FI_10, FI_11, FI_12, FI_13, FI_14, FI_15, FI_16, FI_17, FI_18, FI_19, FI_20, FI_21, onOk, nxt, dE, cE, xE] at hf
  have b0 := hin 0 (-9223372036854775808) 9223372036854775807 (by simp [eD, b4, b3])
  have b1 := hin 1 (-9223372036854775808) 9223372036854775807 (by simp [eD, b4, b3])
  have b2 := hin 2 0 18446744073709551615 (by simp [eD, b4, b3])
  have b3 := hin 3 (-9223372036854775808) 9223372036854775807 (by simp [eD, b4, b3])
  have a0 := ha.1 0 (by omega)
  have a1 := ha.1 1 (by omega)
  have a2 := ha.1 2 (by omega)
  have a3 := ha.1 3 (by omega)
  rw [← a0] at b0; rw [← a1] at b1; rw [← a2] at b2; rw [← a3] at b3
  refine ⟨?_, by simp [eD, o1, othT]⟩
  · simp only [ObsT, Ob.Tv, SB.tp, SI.tv, sta, IB.eval, and_true, wrap_i64, wrap_u64, FI_10, FI_11, FI_12, FI_13, FI_14, FI_15, FI_16, FI_17, FI_18, FI_19, FI_20, FI_21, onOk, nxt, dE, cE, xE]
    first | omega | ((repeat' apply And.intro) <;> ((repeat' split) <;> omega))
set_option maxHeartbeats 1000000 in
theorem eD_o0_4 (kv : Nat → Nat) (iv0 : Nat → Int) (bv0 : Nat → Bool) (hin : InB eD.B iv0) (hF : FT (sta FI FB kv iv0 bv0) (dlt dyn0) eD.F) (iv : Nat → Int) (bv : Nat → Bool) (ha : Agr 4 iv0 bv0 iv bv) (hi : eD_inv iv0 bv0 0 iv bv) :
    LfT (sta FI FB kv) eD.os (eD_inv iv0 bv0) (eD_mu iv0 bv0) 0 iv bv (.fin [((.le (.v 2) (.c 4611686018427387904)), .false), ((.le (.v 1) (.v 0)), .true)] 0 ⟨⟨[], []⟩, [], [], []⟩ [(.ei (.ap 10 (.v 0) (.v 1) (.v 2) (.v 3) (.c 0) (.c 0)) (.c 0)), (.ei (.ap 11 (.v 0) (.v 1) (.v 2) (.v 3) (.c 0) (.c 0)) (.c 0)), (.ei (.ap 12 (.v 0) (.v 1) (.v 2) (.v 3) (.c 0) (.c 0)) (.c 0)), (.ei (.ap 13 (.v 0) (.v 1) (.v 2) (.v 3) (.c 0) (.c 0)) (.c 2))] []) := by
  intro δ hf
  simp only [FT, TP, SB.tp, SI.tv, sta, IB.eval, and_true, wrap_i64, wrap_u64, FI_10, FI_11, FI_12, FI_13, FI_14, FI_15, FI_16, FI_17, FI_18, FI_19, FI_20, FI_21, onOk, nxt, dE, cE, xE] at hf
  have b0 := hin 0 (-9223372036854775808) 9223372036854775807 (by simp [eD, b4, b3])
  have b1 := hin 1 (-9223372036854775808) 9223372036854775807 (by simp [eD, b4, b3])
  have b2 := hin 2 0 18446744073709551615 (by simp [eD, b4, b3])
  have b3 := hin 3 (-9223372036854775808) 9223372036854775807 (by simp [eD, b4, b3])
  have a0 := ha.1 0 (by omega)
  have a1 := ha.1 1 (by omega)
  have a2 := ha.1 2 (by omega)
  have a3 := ha.1 3 (by omega)
  rw [← a0] at b0; rw [← a1] at b1; rw [← a2] at b2; rw [← a3] at b3
  refine ⟨?_, by simp [eD, o1, othT]⟩
  · simp only [ObsT, Ob.Tv, SB.tp, SI.tv, sta, IB.eval, and_true, wrap_i64, wrap_u64, FI_10, FI_11, FI_12, FI_13, FI_14, FI_15, FI_16, FI_17, FI_18, FI_19, FI_20, FI_21, onOk, nxt, dE, cE, xE]
    first | omega | ((repeat' apply And.intro) <;> ((repeat' split) <;> omega))
set_option maxHeartbeats 1000000 in
theorem eD_o0_5 (kv : Nat → Nat) (iv0 : Nat → Int) (bv0 : Nat → Bool) (hin : InB eD.B iv0) (hF : FT (sta FI FB kv iv0 bv0) (dlt dyn0) eD.F) (iv : Nat → Int) (bv : Nat → Bool) (ha : Agr 4 iv0 bv0 iv bv) (hi : eD_inv iv0 bv0 0 iv bv) :
    LfT (sta FI FB kv) eD.os (eD_inv iv0 bv0) (eD_mu iv0 bv0) 0 iv bv (.fin [((.le (.v 1) (.v 0)), .false)] 0 ⟨⟨[], []⟩, [], [], []⟩ [(.ei (.ap 10 (.v 0) (.v 1) (.v 2) (.v 3) (.c 0) (.c 0)) (.c 0)), (.ei (.ap 11 (.v 0) (.v 1) (.v 2) (.v 3) (.c 0) (.c 0)) (.c 0)), (.ei (.ap 12 (.v 0) (.v 1) (.v 2) (.v 3) (.c 0) (.c 0)) (.c 0)), (.ei (.ap 13 (.v 0) (.v 1) (.v 2) (.v 3) (.c 0) (.c 0)) (.c 2))] []) := by
  intro δ hf
  simp only [FT, TP, SB.tp, SI.tv, sta, IB.eval, and_true, wrap_i64, wrap_u64, FI_10, FI_11, FI_12, FI_13, FI_14, FI_15, FI_16, FI_17, FI_18, FI_19, FI_20, FI_21, onOk, nxt, dE, cE, xE] at hf
  have b0 := hin 0 (-9223372036854775808) 9223372036854775807 (by simp [eD, b4, b3])
  have b1 := hin 1 (-9223372036854775808) 9223372036854775807 (by simp [eD, b4, b3])
  have b2 := hin 2 0 18446744073709551615 (by simp [eD, b4, b3])
  have b3 := hin 3 (-9223372036854775808) 9223372036854775807 (by simp [eD, b4, b3])
  have a0 := ha.1 0 (by omega)
  have a1 := ha.1 1 (by omega)
  have a2 := ha.1 2 (by omega)
  have a3 := ha.1 3 (by omega)
  rw [← a0] at b0; rw [← a1] at b1; rw [← a2] at b2; rw [← a3] at b3
  refine ⟨?_, by simp [eD, o1, othT]⟩
  · simp only [ObsT, Ob.Tv, SB.tp, SI.tv, sta, IB.eval, and_true, wrap_i64, wrap_u64, FI_10, FI_11, FI_12, FI_13, FI_14, FI_15, FI_16, FI_17, FI_18, FI_19, FI_20, FI_21, onOk, nxt, dE, cE, xE]
    first | omega | ((repeat' apply And.intro) <;> ((repeat' split) <;> omega))
set_option maxRecDepth 100000 in
theorem eD_c : LsC ((tm0 eD Try.f8 (Try.f8.body.getD .skip)) :: []) eD.os [eD_L0] := by
  unfold eD_L0
  exact ⟨List.forall_mem_cons.2 ⟨⟨⟨_, rfl, rfl⟩, by kernel_rfl⟩, List.forall_mem_cons.2 ⟨⟨⟨_, rfl, rfl⟩, by kernel_rfl⟩, List.forall_mem_cons.2 ⟨⟨⟨_, rfl, rfl⟩, by kernel_rfl⟩, List.forall_mem_cons.2 ⟨⟨⟨_, rfl, rfl⟩, by kernel_rfl⟩, List.forall_mem_cons.2 ⟨⟨⟨_, rfl, rfl⟩, by kernel_rfl⟩, List.forall_mem_cons.2 ⟨⟨⟨_, rfl, rfl⟩, by kernel_rfl⟩, List.forall_mem_nil _⟩⟩⟩⟩⟩⟩, trivial⟩
theorem eD_ok : eD.Ok Try.prog FI FB :=
  Con.of_plain (body := Try.f8.body.getD .skip) pok fiok EntsFor.nil eD Try.func8 (by kernel_rfl) 4 [] (by kernel_rfl) [eD_L0] ⟨eD_h0, trivial⟩ eD_c
    eD_inv eD_mu (fun _ _ _ => trivial) fun kv iv0 bv0 hin hF k l iv bv hk ha hi => match k, hk, hi with
    | 0, hk, hi => by
      cases hk
      exact List.forall_mem_cons.2 ⟨eD_o0_0 kv iv0 bv0 hin hF iv bv ha hi, List.forall_mem_cons.2 ⟨eD_o0_1 kv iv0 bv0 hin hF iv bv ha hi, List.forall_mem_cons.2 ⟨eD_o0_2 kv iv0 bv0 hin hF iv bv ha hi, List.forall_mem_cons.2 ⟨eD_o0_3 kv iv0 bv0 hin hF iv bv ha hi, List.forall_mem_cons.2 ⟨eD_o0_4 kv iv0 bv0 hin hF iv bv ha hi, List.forall_mem_cons.2 ⟨eD_o0_5 kv iv0 bv0 hin hF iv bv ha hi, List.forall_mem_nil _⟩⟩⟩⟩⟩⟩
    | k + 1, hk, _ => by simp at hk
noncomputable def rD_L0 : List Lf :=
  [(.fin [((.lt (.v 3) (.c 1)), .true), ((.le (.v 2) (.c 4611686018427387904)), .true), ((.le (.v 1) (.v 0)), .true)] 0 ⟨⟨[], []⟩, [], [], []⟩ [(.ei (.ap 10 (.v 0) (.v 1) (.v 2) (.v 3) (.c 0) (.c 0)) (.c 0)), (.ei (.ap 11 (.v 0) (.v 1) (.v 2) (.v 3) (.c 0) (.c 0)) (.c 0)), (.ei (.ap 12 (.v 0) (.v 1) (.v 2) (.v 3) (.c 0) (.c 0)) (.c 0)), (.ei (.ap 13 (.v 0) (.v 1) (.v 2) (.v 3) (.c 0) (.c 0)) (.c 2))] []), (.fin [((.lt (.op .add (.op .add (.v 0) (.op .sub (.c (-1)) (.v 1))) (.c 1)) (.v 3)), .true), ((.le (.c 0) (.v 0)), .true), ((.lt (.v 1) (.c 0)), .true), ((.lt (.v 3) (.c 1)), .false), ((.le (.v 2) (.c 4611686018427387904)), .true), ((.le (.v 1) (.v 0)), .true)] 0 ⟨⟨[], []⟩, [], [], []⟩ [(.ei (.ap 10 (.v 0) (.v 1) (.v 2) (.v 3) (.c 0) (.c 0)) (.c 0)), (.ei (.ap 11 (.v 0) (.v 1) (.v 2) (.v 3) (.c 0) (.c 0)) (.c 0)), (.ei (.ap 12 (.v 0) (.v 1) (.v 2) (.v 3) (.c 0) (.c 0)) (.c 0)), (.ei (.ap 13 (.v 0) (.v 1) (.v 2) (.v 3) (.c 0) (.c 0)) (.c 140))] []), (.fin [((.eq (.v 2) (.c 4611686018427387904)), .true), ((.lt (.op .add (.op .add (.v 0) (.op .sub (.c (-1)) (.v 1))) (.c 1)) (.v 3)), .false), ((.le (.c 0) (.v 0)), .true), ((.lt (.v 1) (.c 0)), .true), ((.lt (.v 3) (.c 1)), .false), ((.le (.v 2) (.c 4611686018427387904)), .true), ((.le (.v 1) (.v 0)), .true)] 0 ⟨⟨[], []⟩, [], [], []⟩ [(.ei (.ap 10 (.v 0) (.v 1) (.v 2) (.v 3) (.c 0) (.c 0)) (.c 0)), (.ei (.ap 11 (.v 0) (.v 1) (.v 2) (.v 3) (.c 0) (.c 0)) (.c 0)), (.ei (.ap 12 (.v 0) (.v 1) (.v 2) (.v 3) (.c 0) (.c 0)) (.c 0)), (.ei (.ap 13 (.v 0) (.v 1) (.v 2) (.v 3) (.c 0) (.c 0)) (.c 142))] []), (.fin [((.eq (.v 2) (.c 4611686018427387904)), .false), ((.lt (.op .add (.op .add (.v 0) (.op .sub (.c (-1)) (.v 1))) (.c 1)) (.v 3)), .false), ((.le (.c 0) (.v 0)), .true), ((.lt (.v 1) (.c 0)), .true), ((.lt (.v 3) (.c 1)), .false), ((.le (.v 2) (.c 4611686018427387904)), .true), ((.le (.v 1) (.v 0)), .true)] 0 ⟨⟨[], []⟩, [], [], []⟩ [(.ei (.ap 10 (.v 0) (.v 1) (.v 2) (.v 3) (.c 0) (.c 0)) (.op .sub (.v 0) (.v 3))), (.ei (.ap 11 (.v 0) (.v 1) (.v 2) (.v 3) (.c 0) (.c 0)) (.v 1)), (.ei (.ap 12 (.v 0) (.v 1) (.v 2) (.v 3) (.c 0) (.c 0)) (.op .add (.v 2) (.c 1))), (.ei (.ap 13 (.v 0) (.v 1) (.v 2) (.v 3) (.c 0) (.c 0)) (.c 0))] []), (.fin [((.lt (.wk .u64 (.op .sub (.v 0) (.v 1))) (.v 3)), .true), ((.le (.c 0) (.v 0)), .false), ((.lt (.v 1) (.c 0)), .true), ((.lt (.v 3) (.c 1)), .false), ((.le (.v 2) (.c 4611686018427387904)), .true), ((.le (.v 1) (.v 0)), .true)] 0 ⟨⟨[], []⟩, [], [], []⟩ [(.ei (.ap 10 (.v 0) (.v 1) (.v 2) (.v 3) (.c 0) (.c 0)) (.c 0)), (.ei (.ap 11 (.v 0) (.v 1) (.v 2) (.v 3) (.c 0) (.c 0)) (.c 0)), (.ei (.ap 12 (.v 0) (.v 1) (.v 2) (.v 3) (.c 0) (.c 0)) (.c 0)), (.ei (.ap 13 (.v 0) (.v 1) (.v 2) (.v 3) (.c 0) (.c 0)) (.c 140))] []), (.fin [((.eq (.v 2) (.c 4611686018427387904)), .true), ((.lt (.wk .u64 (.op .sub (.v 0) (.v 1))) (.v 3)), .false), ((.le (.c 0) (.v 0)), .false), ((.lt (.v 1) (.c 0)), .true), ((.lt (.v 3) (.c 1)), .false), ((.le (.v 2) (.c 4611686018427387904)), .true), ((.le (.v 1) (.v 0)), .true)] 0 ⟨⟨[], []⟩, [], [], []⟩ [(.ei (.ap 10 (.v 0) (.v 1) (.v 2) (.v 3) (.c 0) (.c 0)) (.c 0)), (.ei (.ap 11 (.v 0) (.v 1) (.v 2) (.v 3) (.c 0) (.c 0)) (.c 0)), (.ei (.ap 12 (.v 0) (.v 1) (.v 2) (.v 3) (.c 0) (.c 0)) (.c 0)), (.ei (.ap 13 (.v 0) (.v 1) (.v 2) (.v 3) (.c 0) (.c 0)) (.c 142))] []), (.fin [((.eq (.v 2) (.c 4611686018427387904)), .false), ((.lt (.wk .u64 (.op .sub (.v 0) (.v 1))) (.v 3)), .false), ((.le (.c 0) (.v 0)), .false), ((.lt (.v 1) (.c 0)), .true), ((.lt (.v 3) (.c 1)), .false), ((.le (.v 2) (.c 4611686018427387904)), .true), ((.le (.v 1) (.v 0)), .true)] 0 ⟨⟨[], []⟩, [], [], []⟩ [(.ei (.ap 10 (.v 0) (.v 1) (.v 2) (.v 3) (.c 0) (.c 0)) (.wk .i64 (.op .sub (.v 0) (.v 3)))), (.ei (.ap 11 (.v 0) (.v 1) (.v 2) (.v 3) (.c 0) (.c 0)) (.v 1)), (.ei (.ap 12 (.v 0) (.v 1) (.v 2) (.v 3) (.c 0) (.c 0)) (.op .add (.v 2) (.c 1))), (.ei (.ap 13 (.v 0) (.v 1) (.v 2) (.v 3) (.c 0) (.c 0)) (.c 0))] []), (.fin [((.lt (.wk .u64 (.wk .i64 (.op .sub (.v 0) (.v 1)))) (.v 3)), .true), ((.lt (.v 1) (.c 0)), .false), ((.lt (.v 3) (.c 1)), .false), ((.le (.v 2) (.c 4611686018427387904)), .true), ((.le (.v 1) (.v 0)), .true)] 0 ⟨⟨[], []⟩, [], [], []⟩ [(.ei (.ap 10 (.v 0) (.v 1) (.v 2) (.v 3) (.c 0) (.c 0)) (.c 0)), (.ei (.ap 11 (.v 0) (.v 1) (.v 2) (.v 3) (.c 0) (.c 0)) (.c 0)), (.ei (.ap 12 (.v 0) (.v 1) (.v 2) (.v 3) (.c 0) (.c 0)) (.c 0)), (.ei (.ap 13 (.v 0) (.v 1) (.v 2) (.v 3) (.c 0) (.c 0)) (.c 140))] []), (.fin [((.eq (.v 2) (.c 4611686018427387904)), .true), ((.lt (.wk .u64 (.wk .i64 (.op .sub (.v 0) (.v 1)))) (.v 3)), .false), ((.lt (.v 1) (.c 0)), .false), ((.lt (.v 3) (.c 1)), .false), ((.le (.v 2) (.c 4611686018427387904)), .true), ((.le (.v 1) (.v 0)), .true)] 0 ⟨⟨[], []⟩, [], [], []⟩ [(.ei (.ap 10 (.v 0) (.v 1) (.v 2) (.v 3) (.c 0) (.c 0)) (.c 0)), (.ei (.ap 11 (.v 0) (.v 1) (.v 2) (.v 3) (.c 0) (.c 0)) (.c 0)), (.ei (.ap 12 (.v 0) (.v 1) (.v 2) (.v 3) (.c 0) (.c 0)) (.c 0)), (.ei (.ap 13 (.v 0) (.v 1) (.v 2) (.v 3) (.c 0) (.c 0)) (.c 142))] []), (.fin [((.eq (.v 2) (.c 4611686018427387904)), .false), ((.lt (.wk .u64 (.wk .i64 (.op .sub (.v 0) (.v 1)))) (.v 3)), .false), ((.lt (.v 1) (.c 0)), .false), ((.lt (.v 3) (.c 1)), .false), ((.le (.v 2) (.c 4611686018427387904)), .true), ((.le (.v 1) (.v 0)), .true)] 0 ⟨⟨[], []⟩, [], [], []⟩ [(.ei (.ap 10 (.v 0) (.v 1) (.v 2) (.v 3) (.c 0) (.c 0)) (.wk .i64 (.op .sub (.v 0) (.v 3)))), (.ei (.ap 11 (.v 0) (.v 1) (.v 2) (.v 3) (.c 0) (.c 0)) (.v 1)), (.ei (.ap 12 (.v 0) (.v 1) (.v 2) (.v 3) (.c 0) (.c 0)) (.op .add (.v 2) (.c 1))), (.ei (.ap 13 (.v 0) (.v 1) (.v 2) (.v 3) (.c 0) (.c 0)) (.c 0))] []), (.fin [((.le (.v 2) (.c 4611686018427387904)), .false), ((.le (.v 1) (.v 0)), .true)] 0 ⟨⟨[], []⟩, [], [], []⟩ [(.ei (.ap 10 (.v 0) (.v 1) (.v 2) (.v 3) (.c 0) (.c 0)) (.c 0)), (.ei (.ap 11 (.v 0) (.v 1) (.v 2) (.v 3) (.c 0) (.c 0)) (.c 0)), (.ei (.ap 12 (.v 0) (.v 1) (.v 2) (.v 3) (.c 0) (.c 0)) (.c 0)), (.ei (.ap 13 (.v 0) (.v 1) (.v 2) (.v 3) (.c 0) (.c 0)) (.c 2))] []), (.fin [((.le (.v 1) (.v 0)), .false)] 0 ⟨⟨[], []⟩, [], [], []⟩ [(.ei (.ap 10 (.v 0) (.v 1) (.v 2) (.v 3) (.c 0) (.c 0)) (.c 0)), (.ei (.ap 11 (.v 0) (.v 1) (.v 2) (.v 3) (.c 0) (.c 0)) (.c 0)), (.ei (.ap 12 (.v 0) (.v 1) (.v 2) (.v 3) (.c 0) (.c 0)) (.c 0)), (.ei (.ap 13 (.v 0) (.v 1) (.v 2) (.v 3) (.c 0) (.c 0)) (.c 2))] [])]
set_option maxRecDepth 100000 in
theorem rD_h0 : (ex (ccOf Try.prog BF [24] rD) ((fun _ => []) (ccOf Try.prog BF [24] rD)) (dw (ccOf Try.prog BF [24] rD) ((fun _ => []) (ccOf Try.prog BF [24] rD)) 1000 4) (stopL []) 4000 (tm0 rD Try.f11 (Try.f11.body.getD .skip)).f (tm0 rD Try.f11 (Try.f11.body.getD .skip)).fs (tm0 rD Try.f11 (Try.f11.body.getD .skip)).H).lfs (ccOf Try.prog BF [24] rD) ((tm0 rD Try.f11 (Try.f11.body.getD .skip)) :: []) rD.os = some rD_L0 := by kernel_rfl
def rD_inv : (Nat → Int) → (Nat → Bool) → Nat → (Nat → Int) → (Nat → Bool) → Prop := fun _ _ _ _ _ => True
def rD_mu : (Nat → Int) → (Nat → Bool) → Nat → (Nat → Int) → (Nat → Bool) → Nat := fun _ _ _ _ _ => 0
set_option maxHeartbeats 1000000 in
theorem rD_o0_0 (kv : Nat → Nat) (iv0 : Nat → Int) (bv0 : Nat → Bool) (hin : InB rD.B iv0) (hF : FT (sta FI FB kv iv0 bv0) (dlt dyn0) rD.F) (iv : Nat → Int) (bv : Nat → Bool) (ha : Agr 4 iv0 bv0 iv bv) (hi : rD_inv iv0 bv0 0 iv bv) :
    LfT (sta FI FB kv) rD.os (rD_inv iv0 bv0) (rD_mu iv0 bv0) 0 iv bv (.fin [((.lt (.v 3) (.c 1)), .true), ((.le (.v 2) (.c 4611686018427387904)), .true), ((.le (.v 1) (.v 0)), .true)] 0 ⟨⟨[], []⟩, [], [], []⟩ [(.ei (.ap 10 (.v 0) (.v 1) (.v 2) (.v 3) (.c 0) (.c 0)) (.c 0)), (.ei (.ap 11 (.v 0) (.v 1) (.v 2) (.v 3) (.c 0) (.c 0)) (.c 0)), (.ei (.ap 12 (.v 0) (.v 1) (.v 2) (.v 3) (.c 0) (.c 0)) (.c 0)), (.ei (.ap 13 (.v 0) (.v 1) (.v 2) (.v 3) (.c 0) (.c 0)) (.c 2))] []) := by
  intro δ hf
  simp only [FT, TP, SB.tp, SI.tv, sta, IB.eval, and_true, wrap_i64, wrap_u64, FI_10, FI_11, FI_12, FI_13, FI_14, FI_15, FI_16, FI_17, FI_18, FI_19, FI_20, FI_21, onOk, nxt, dE, cE, xE] at hf
  have b0 := hin 0 (-9223372036854775808) 9223372036854775807 (by simp [rD, b4, b3])
  have b1 := hin 1 (-9223372036854775808) 9223372036854775807 (by simp [rD, b4, b3])
  have b2 := hin 2 0 18446744073709551615 (by simp [rD, b4, b3])
  have b3 := hin 3 (-9223372036854775808) 9223372036854775807 (by simp [rD, b4, b3])
  have a0 := ha.1 0 (by omega)
  have a1 := ha.1 1 (by omega)
  have a2 := ha.1 2 (by omega)
  have a3 := ha.1 3 (by omega)
  rw [← a0] at b0; rw [← a1] at b1; rw [← a2] at b2; rw [← a3] at b3
  refine ⟨?_, by simp [rD, o1, othT]⟩
  · simp only [ObsT, Ob.Tv, SB.tp, SI.tv, sta, IB.eval, and_true, wrap_i64, wrap_u64, FI_10, FI_11, FI_12, FI_13, FI_14, FI_15, FI_16, FI_17, FI_18, FI_19, FI_20, FI_21, onOk, nxt, dE, cE, xE]
    first | omega | ((repeat' apply And.intro) <;> ((repeat' split) <;> omega))
set_option maxHeartbeats 1000000 in
theorem rD_o0_1 (kv : Nat → Nat) (iv0 : Nat → Int) (bv0 : Nat → Bool) (hin : InB rD.B iv0) (hF : FT (sta FI FB kv iv0 bv0) (dlt dyn0) rD.F) (iv : Nat → Int) (bv : Nat → Bool) (ha : Agr 4 iv0 bv0 iv bv) (hi : rD_inv iv0 bv0 0 iv bv) :
    LfT (sta FI FB kv) rD.os (rD_inv iv0 bv0) (rD_mu iv0 bv0) 0 iv bv (.fin [((.lt (.op .add (.op .add (.v 0) (.op .sub (.c (-1)) (.v 1))) (.c 1)) (.v 3)), .true), ((.le (.c 0) (.v 0)), .true), ((.lt (.v 1) (.c 0)), .true), ((.lt (.v 3) (.c 1)), .false), ((.le (.v 2) (.c 4611686018427387904)), .true), ((.le (.v 1) (.v 0)), .true)] 0 ⟨⟨[], []⟩, [], [], []⟩ [(.ei (.ap 10 (.v 0) (.v 1) (.v 2) (.v 3) (.c 0) (.c 0)) (.c 0)), (.ei (.ap 11 (.v 0) (.v 1) (.v 2) (.v 3) (.c 0) (.c 0)) (.c 0)), (.ei (.ap 12 (.v 0) (.v 1) (.v 2) (.v 3) (.c 0) (.c 0)) (.c 0)), (.ei (.ap 13 (.v 0) (.v 1) (.v 2) (.v 3) (.c 0) (.c 0)) (.c 140))] []) := by
  intro δ hf
  simp only [FT, TP, SB.tp, SI.tv, sta, IB.eval, and_true, wrap_i64, wrap_u64, FI_10, FI_11, FI_12, FI_13, FI_14, FI_15, FI_16, FI_17, FI_18, FI_19, FI_20, FI_21, onOk, nxt, dE, cE, xE] at hf
  have b0 := hin 0 (-9223372036854775808) 9223372036854775807 (by simp [rD, b4, b3])
  have b1 := hin 1 (-9223372036854775808) 9223372036854775807 (by simp [rD, b4, b3])
  have b2 := hin 2 0 18446744073709551615 (by simp [rD, b4, b3])
  have b3 := hin 3 (-9223372036854775808) 9223372036854775807 (by simp [rD, b4, b3])
  have a0 := ha.1 0 (by omega)
  have a1 := ha.1 1 (by omega)
  have a2 := ha.1 2 (by omega)
  have a3 := ha.1 3 (by omega)
  rw [← a0] at b0; rw [← a1] at b1; rw [← a2] at b2; rw [← a3] at b3
  refine ⟨?_, by simp [rD, o1, othT]⟩
  · simp only [ObsT, Ob.Tv, SB.tp, SI.tv, sta, IB.eval, and_true, wrap_i64, wrap_u64, FI_10, FI_11, FI_12, FI_13, FI_14, FI_15, FI_16, FI_17, FI_18, FI_19, FI_20, FI_21, onOk, nxt, dE, cE, xE]
    first | omega | ((repeat' apply And.intro) <;> ((repeat' split) <;> omega))
set_option maxHeartbeats 1000000 in
theorem rD_o0_2 (kv : Nat → Nat) (iv0 : Nat → Int) (bv0 : Nat → Bool) (hin : InB rD.B iv0) (hF : FT (sta FI FB kv iv0 bv0) (dlt dyn0) rD.F) (iv : Nat → Int) (bv : Nat → Bool) (ha : Agr 4 iv0 bv0 iv bv) (hi : rD_inv iv0 bv0 0 iv bv) :
    LfT (sta FI FB kv) rD.os (rD_inv iv0 bv0) (rD_mu iv0 bv0) 0 iv bv (.fin [((.eq (.v 2) (.c 4611686018427387904)), .true), ((.lt (.op .add (.op .add (.v 0) (.op .sub (.c (-1)) (.v 1))) (.c 1)) (.v 3)), .false), ((.le (.c 0) (.v 0)), .true), ((.lt (.v 1) (.c 0)), .true), ((.lt (.v 3) (.c 1)), .false), ((.le (.v 2) (.c 4611686018427387904)), .true), ((.le (.v 1) (.v 0)), .true)] 0 ⟨⟨[], []⟩, [], [], []⟩ [(.ei (.ap 10 (.v 0) (.v 1) (.v 2) (.v 3) (.c 0) (.c 0)) (.c 0)), (.ei (.ap 11 (.v 0) (.v 1) (.v 2) (.v 3) (.c 0) (.c 0)) (.c 0)), (.ei (.ap 12 (.v 0) (.v 1) (.v 2) (.v 3) (.c 0) (.c 0)) (.c 0)), (.ei (.ap 13 (.v 0) (.v 1) (.v 2) (.v 3) (.c 0) (.c 0)) (.c 142))] []) := by
  intro δ hf
  simp only [FT, TP, SB.tp, SI.tv, sta, IB.eval, and_true, wrap_i64, wrap_u64, FI_10, FI_11, FI_12, FI_13, FI_14, FI_15, FI_16, FI_17, FI_18, FI_19, FI_20, FI_21, onOk, nxt, dE, cE, xE] at hf
  have b0 := hin 0 (-9223372036854775808) 9223372036854775807 (by simp [rD, b4, b3])
  have b1 := hin 1 (-9223372036854775808) 9223372036854775807 (by simp [rD, b4, b3])
  have b2 := hin 2 0 18446744073709551615 (by simp [rD, b4, b3])
  have b3 := hin 3 (-9223372036854775808) 9223372036854775807 (by simp [rD, b4, b3])
  have a0 := ha.1 0 (by omega)
  have a1 := ha.1 1 (by omega)
  have a2 := ha.1 2 (by omega)
  have a3 := ha.1 3 (by omega)
  rw [← a0] at b0; rw [← a1] at b1; rw [← a2] at b2; rw [← a3] at b3
  refine ⟨?_, by simp [rD, o1, othT]⟩
  · simp only [ObsT, Ob.Tv, SB.tp, SI.tv, sta, IB.eval, and_true, wrap_i64, wrap_u64, FI_10, FI_11, FI_12, FI_13, FI_14, FI_15, FI_16, FI_17, FI_18, FI_19, FI_20, FI_21, onOk, nxt, dE, cE, xE]
    first | omega | ((repeat' apply And.intro) <;> ((repeat' split) <;> omega))
set_option maxHeartbeats 1000000 in
theorem rD_o0_3 (kv : Nat → Nat) (iv0 : Nat → Int) (bv0 : Nat → Bool) (hin : InB rD.B iv0) (hF : FT (sta FI FB kv iv0 bv0) (dlt dyn0) rD.F) (iv : Nat → Int) (bv : Nat → Bool) (ha : Agr 4 iv0 bv0 iv bv) (hi : rD_inv iv0 bv0 0 iv bv) :
    LfT (sta FI FB kv) rD.os (rD_inv iv0 bv0) (rD_mu iv0 bv0) 0 iv bv (.fin [((.eq (.v 2) (.c 4611686018427387904)), .false), ((.lt (.op .add (.op .add (.v 0) (.op .sub (.c (-1)) (.v 1))) (.c 1)) (.v 3)), .false), ((.le (.c 0) (.v 0)), .true), ((.lt (.v 1) (.c 0)), .true), ((.lt (.v 3) (.c 1)), .false), ((.le (.v 2) (.c 4611686018427387904)), .true), ((.le (.v 1) (.v 0)), .true)] 0 ⟨⟨[], []⟩, [], [], []⟩ [(.ei (.ap 10 (.v 0) (.v 1) (.v 2) (.v 3) (.c 0) (.c 0)) (.op .sub (.v 0) (.v 3))), (.ei (.ap 11 (.v 0) (.v 1) (.v 2) (.v 3) (.c 0) (.c 0)) (.v 1)), (.ei (.ap 12 (.v 0) (.v 1) (.v 2) (.v 3) (.c 0) (.c 0)) (.op .add (.v 2) (.c 1))), (.ei (.ap 13 (.v 0) (.v 1) (.v 2) (.v 3) (.c 0) (.c 0)) (.c 0))] []) := by
  intro δ hf
  simp only [FT, TP, SB.tp, SI.tv, sta, IB.eval, and_true, wrap_i64, wrap_u64, FI_10, FI_11, FI_12, FI_13, FI_14, FI_15, FI_16, FI_17, FI_18, FI_19, FI_20, FI_21, onOk, nxt, dE, cE, xE] at hf
  have b0 := hin 0 (-9223372036854775808) 9223372036854775807 (by simp [rD, b4, b3])
  have b1 := hin 1 (-9223372036854775808) 9223372036854775807 (by simp [rD, b4, b3])
  have b2 := hin 2 0 18446744073709551615 (by simp [rD, b4, b3])
  have b3 := hin 3 (-9223372036854775808) 9223372036854775807 (by simp [rD, b4, b3])
  have a0 := ha.1 0 (by omega)
  have a1 := ha.1 1 (by omega)
  have a2 := ha.1 2 (by omega)
  have a3 := ha.1 3 (by omega)
  rw [← a0] at b0; rw [← a1] at b1; rw [← a2] at b2; rw [← a3] at b3
  refine ⟨?_, by simp [rD, o1, othT]⟩
  · simp only [ObsT, Ob.Tv, SB.tp, SI.tv, sta, IB.eval, and_true, wrap_i64, wrap_u64, FI_10, FI_11, FI_12, FI_13, FI_14, FI_15, FI_16, FI_17, FI_18, FI_19, FI_20, FI_21, onOk, nxt, dE, cE, xE]
    first | omega | ((repeat' apply And.intro) <;> ((repeat' split) <;> omega))
set_option maxHeartbeats 1000000 in
theorem rD_o0_4 (kv : Nat → Nat) (iv0 : Nat → Int) (bv0 : Nat → Bool) (hin : InB rD.B iv0) (hF : FT (sta FI FB kv iv0 bv0) (dlt dyn0) rD.F) (iv : Nat → Int) (bv : Nat → Bool) (ha : Agr 4 iv0 bv0 iv bv) (hi : rD_inv iv0 bv0 0 iv bv) :
    LfT (sta FI FB kv) rD.os (rD_inv iv0 bv0) (rD_mu iv0 bv0) 0 iv bv (.fin [((.lt (.wk .u64 (.op .sub (.v 0) (.v 1))) (.v 3)), .true), ((.le (.c 0) (.v 0)), .false), ((.lt (.v 1) (.c 0)), .true), ((.lt (.v 3) (.c 1)), .false), ((.le (.v 2) (.c 4611686018427387904)), .true), ((.le (.v 1) (.v 0)), .true)] 0 ⟨⟨[], []⟩, [], [], []⟩ [(.ei (.ap 10 (.v 0) (.v 1) (.v 2) (.v 3) (.c 0) (.c 0)) (.c 0)), (.ei (.ap 11 (.v 0) (.v 1) (.v 2) (.v 3) (.c 0) (.c 0)) (.c 0)), (.ei (.ap 12 (.v 0) (.v 1) (.v 2) (.v 3) (.c 0) (.c 0)) (.c 0)), (.ei (.ap 13 (.v 0) (.v 1) (.v 2) (.v 3) (.c 0) (.c 0)) (.c 140))] []) := by
  intro δ hf
  simp only [FT, TP, SB.tp, SI.tv, sta, IB.eval, and_true, wrap_i64, wrap_u64, FI_10, FI_11, FI_12, FI_13, FI_14, FI_15, FI_16, FI_17, FI_18, FI_19, FI_20, FI_21, onOk, nxt, dE, cE, xE] at hf
  have b0 := hin 0 (-9223372036854775808) 9223372036854775807 (by simp [rD, b4, b3])
  have b1 := hin 1 (-9223372036854775808) 9223372036854775807 (by simp [rD, b4, b3])
  have b2 := hin 2 0 18446744073709551615 (by simp [rD, b4, b3])
  have b3 := hin 3 (-9223372036854775808) 9223372036854775807 (by simp [rD, b4, b3])
  have a0 := ha.1 0 (by omega)
  have a1 := ha.1 1 (by omega)
  have a2 := ha.1 2 (by omega)
  have a3 := ha.1 3 (by omega)
  rw [← a0] at b0; rw [← a1] at b1; rw [← a2] at b2; rw [← a3] at b3
  refine ⟨?_, by simp [rD, o1, othT]⟩
  · simp only [ObsT, Ob.Tv, SB.tp, SI.tv, sta, IB.eval, and_true, wrap_i64, wrap_u64, FI_10, FI_11, FI_12, FI_13, FI_14, FI_15, FI_16, FI_17, FI_18, FI_19, FI_20, FI_21, onOk, nxt, dE, cE, xE]
    first | omega | ((repeat' apply And.intro) <;> ((repeat' split) <;> omega))
set_option maxHeartbeats 1000000 in
theorem rD_o0_5 (kv : Nat → Nat) (iv0 : Nat → Int) (bv0 : Nat → Bool) (hin : InB rD.B iv0) (hF : FT (sta FI FB kv iv0 bv0) (dlt dyn0) rD.F) (iv : Nat → Int) (bv : Nat → Bool) (ha : Agr 4 iv0 bv0 iv bv) (hi : rD_inv iv0 bv0 0 iv bv) :
    LfT (sta FI FB kv) rD.os (rD_inv iv0 bv0) (rD_mu iv0 bv0) 0 iv bv (.fin [((.eq (.v 2) (.c 4611686018427387904)), .true), ((.lt (.wk .u64 (.op .sub (.v 0) (.v 1))) (.v 3)), .false), ((.le (.c 0) (.v 0)), .false), ((.lt (.v 1) (.c 0)), .true), ((.lt (.v 3) (.c 1)), .false), ((.le (.v 2) (.c 4611686018427387904)), .true), ((.le (.v 1) (.v 0)), .true)] 0 ⟨⟨[], []⟩, [], [], []⟩ [(.ei (.ap 10 (.v 0) (.v 1) (.v 2) (.v 3) (.c 0) (.c 0)) (.c 0)), (.ei (.ap 11 (.v 0) (.v 1) (.v 2) (.v 3) (.c 0) (.c 0)) (.c 0)), (.ei (.ap 12 (.v 0) (.v 1) (.v 2) (.v 3) (.c 0) (.c 0)) (.c 0)), (.ei (.ap 13 (.v 0) (.v 1) (.v 2) (.v 3) (.c 0) (.c 0)) (.c 142))] []) := by
  intro δ hf
  simp only [FT, TP, SB.tp, SI.tv, sta, IB.eval, and_true, wrap_i64, wrap_u64, FI_10, FI_11, FI_12, FI_13, FI_14, FI_15, FI_16, FI_17, FI_18, FI_19, FI_20, FI_21, onOk, nxt, dE, cE, xE] at hf
  have b0 := hin 0 (-9223372036854775808) 9223372036854775807 (by simp [rD, b4, b3])
  have b1 := hin 1 (-9223372036854775808) 9223372036854775807 (by simp [rD, b4, b3])
  have b2 := hin 2 0 18446744073709551615 (by simp [rD, b4, b3])
  have b3 := hin 3 (-9223372036854775808) 9223372036854775807 (by simp [rD, b4, b3])
  have a0 := ha.1 0 (by omega)
  have a1 := ha.1 1 (by omega)
  have a2 := ha.1 2 (by omega)
  have a3 := ha.1 3 (by omega)
  rw [← a0] at b0; rw [← a1] at b1; rw [← a2] at b2; rw [← a3] at b3
  refine ⟨?_, by simp [rD, o1, othT]⟩
  · simp only [ObsT, Ob.Tv, SB.tp, SI.tv, sta, IB.eval, and_true, wrap_i64, wrap_u64, FI_10, FI_11, FI_12, FI_13, FI_14, FI_15, FI_16, FI_17, FI_18, FI_19, FI_20, FI_21, onOk, nxt, dE, cE, xE]
    first | omega | ((repeat' apply And.intro) <;> ((repeat' split) <;> omega))
set_option maxHeartbeats 1000000 in
theorem rD_o0_6 (kv : Nat → Nat) (iv0 : Nat → Int) (bv0 : Nat → Bool) (hin : InB rD.B iv0) (hF : FT (sta FI FB kv iv0 bv0) (dlt dyn0) rD.F) (iv : Nat → Int) (bv : Nat → Bool) (ha : Agr 4 iv0 bv0 iv bv) (hi : rD_inv iv0 bv0 0 iv bv) :
    LfT (sta FI FB kv) rD.os (rD_inv iv0 bv0) (rD_mu iv0 bv0) 0 iv bv (.fin [((.eq (.v 2) (.c 4611686018427387904)), .false), ((.lt (.wk .u64 (.op .sub (.v 0) (.v 1))) (.v 3)), .false), ((.le (.c 0) (.v 0)), .false), ((.lt (.v 1) (.c 0)), .true), ((.lt (.v 3) (.c 1)), .false), ((.le (.v 2) (.c 4611686018427387904)), .true), ((.le (.v 1) (.v 0)), .true)] 0 ⟨⟨[], []⟩, [], [], []⟩ [(.ei (.ap 10 (.v 0) (.v 1) (.v 2) (.v 3) (.c 0) (.c 0)) (.wk .i64 (.op .sub (.v 0) (.v 3)))), (.ei (.ap 11 (.v 0) (.v 1) (.v 2) (.v 3) (.c 0) (.c 0)) (.v 1)), (.ei (.ap 12 (.v 0) (.v 1) (.v 2) (.v 3) (.c 0) (.c 0)) (.op .add (.v 2) (.c 1))), (.ei (.ap 13 (.v 0) (.v 1) (.v 2) (.v 3) (.c 0) (.c 0)) (.c 0))] []) := by
  intro δ hf
  simp only [FT, TP, SB.tp, SI.tv, sta, IB.eval, and_true, wrap_i64, wrap_u64, FI_10, FI_11, FI_12, FI_13, FI_14, FI_15, FI_16, FI_17, FI_18, FI_19, FI_20, FI_21, onOk, nxt, dE, cE, xE] at hf
  have b0 := hin 0 (-9223372036854775808) 9223372036854775807 (by simp [rD, b4, b3])
  have b1 := hin 1 (-9223372036854775808) 9223372036854775807 (by simp [rD, b4, b3])
  have b2 := hin 2 0 18446744073709551615 (by simp [rD, b4, b3])
  have b3 := hin 3 (-9223372036854775808) 9223372036854775807 (by simp [rD, b4, b3])
  have a0 := ha.1 0 (by omega)
  have a1 := ha.1 1 (by omega)
  have a2 := ha.1 2 (by omega)
  have a3 := ha.1 3 (by omega)
  rw [← a0] at b0; rw [← a1] at b1; rw [← a2] at b2; rw [← a3] at b3
  refine ⟨?_, by simp [rD, o1, othT]⟩
  · simp only [ObsT, Ob.Tv, SB.tp, SI.tv, sta, IB.eval, and_true, wrap_i64, wrap_u64, FI_10, FI_11, FI_12, FI_13, FI_14, FI_15, FI_16, FI_17, FI_18, FI_19, FI_20, FI_21, onOk, nxt, dE, cE, xE]
    first | omega | ((repeat' apply And.intro) <;> ((repeat' split) <;> omega))
set_option maxHeartbeats 1000000 in
theorem rD_o0_7 (kv : Nat → Nat) (iv0 : Nat → Int) (bv0 : Nat → Bool) (hin : InB rD.B iv0) (hF : FT (sta FI FB kv iv0 bv0) (dlt dyn0) rD.F) (iv : Nat → Int) (bv : Nat → Bool) (ha : Agr 4 iv0 bv0 iv bv) (hi : rD_inv iv0 bv0 0 iv bv) :
    LfT (sta FI FB kv) rD.os (rD_inv iv0 bv0) (rD_mu iv0 bv0) 0 iv bv (.fin [((.lt (.wk .u64 (.wk .i64 (.op .sub (.v 0) (.v 1)))) (.v 3)), .true), ((.lt (.v 1) (.c 0)), .false), ((.lt (.v 3) (.c 1)), .false), ((.le (.v 2) (.c 4611686018427387904)), .true), ((.le (.v 1) (.v 0)), .true)] 0 ⟨⟨[], []⟩, [], [], []⟩ [(.ei (.ap 10 (.v 0) (.v 1) (.v 2) (.v 3) (.c 0) (.c 0)) (.c 0)), (.ei (.ap 11 (.v 0) (.v 1) (.v 2) (.v 3) (.c 0) (.c 0)) (.c 0)), (.ei (.ap 12 (.v 0) (.v 1) (.v 2) (.v 3) (.c 0) (.c 0)) (.c 0)), (.ei (.ap 13 (.v 0) (.v 1) (.v 2) (.v 3) (.c 0) (.c 0)) (.c 140))] []) := by
  intro δ hf
  simp only [FT, TP, SB.tp, SI.tv, sta, IB.eval, and_true, wrap_i64, wrap_u64, FI_10, FI_11, FI_12, FI_13, FI_14, FI_15, FI_16, FI_17, FI_18, FI_19, FI_20, FI_21, onOk, nxt, dE, cE, xE] at hf
  have b0 := hin 0 (-9223372036854775808) 9223372036854775807 (by simp [rD, b4, b3])
  have b1 := hin 1 (-9223372036854775808) 9223372036854775807 (by simp [rD, b4, b3])
  have b2 := hin 2 0 18446744073709551615 (by simp [rD, b4, b3])
  have b3 := hin 3 (-9223372036854775808) 9223372036854775807 (by simp [rD, b4, b3])
  have a0 := ha.1 0 (by omega)
  have a1 := ha.1 1 (by omega)
  have a2 := ha.1 2 (by omega)
  have a3 := ha.1 3 (by omega)
  rw [← a0] at b0; rw [← a1] at b1; rw [← a2] at b2; rw [← a3] at b3
  refine ⟨?_, by simp [rD, o1, othT]⟩
  · simp only [ObsT, Ob.Tv, SB.tp, SI.tv, sta, IB.eval, and_true, wrap_i64, wrap_u64, FI_10, FI_11, FI_12, FI_13, FI_14, FI_15, FI_16, FI_17, FI_18, FI_19, FI_20, FI_21, onOk, nxt, dE, cE, xE]
    first | omega | ((repeat' apply And.intro) <;> ((repeat' split) <;> omega))
set_option maxHeartbeats 1000000 in
theorem rD_o0_8 (kv : Nat → Nat) (iv0 : Nat → Int) (bv0 : Nat → Bool) (hin : InB rD.B iv0) (hF : FT (sta FI FB kv iv0 bv0) (dlt dyn0) rD.F) (iv : Nat → Int) (bv : Nat → Bool) (ha : Agr 4 iv0 bv0 iv bv) (hi : rD_inv iv0 bv0 0 iv bv) :
    LfT (sta FI FB kv) rD.os (rD_inv iv0 bv0) (rD_mu iv0 bv0) 0 iv bv (.fin [((.eq (.v 2) (.c 4611686018427387904)), .true), ((.lt (.wk .u64 (.wk .i64 (.op .sub (.v 0) (.v 1)))) (.v 3)), .false), ((.lt (.v 1) (.c 0)), .false), ((.lt (.v 3) (.c 1)), .false), ((.le (.v 2) (.c 4611686018427387904)), .true), ((.le (.v 1) (.v 0)), .true)] 0 ⟨⟨[], []⟩, [], [], []⟩ [(.ei (.ap 10 (.v 0) (.v 1) (.v 2) (.v 3) (.c 0) (.c 0)) (.c 0)), (.ei (.ap 11 (.v 0) (.v 1) (.v 2) (.v 3) (.c 0) (.c 0)) (.c 0)), (.ei (.ap 12 (.v 0) (.v 1) (.v 2) (.v 3) (.c 0) (.c 0)) (.c 0)), (.ei (.ap 13 (.v 0) (.v 1) (.v 2) (.v 3) (.c 0) (.c 0)) (.c 142))] []) := by
  intro δ hf
  simp only [FT, TP, SB.tp, SI.tv, sta, IB.eval, and_true, wrap_i64, wrap_u64, FI_10, FI_11, FI_12, FI_13, FI_14, FI_15, FI_16, FI_17, FI_18, FI_19, FI_20, FI_21, onOk, nxt, dE, cE, xE] at hf
  have b0 := hin 0 (-9223372036854775808) 9223372036854775807 (by simp [rD, b4, b3])
  have b1 := hin 1 (-9223372036854775808) 9223372036854775807 (by simp [rD, b4, b3])
  have b2 := hin 2 0 18446744073709551615 (by simp [rD, b4, b3])
  have b3 := hin 3 (-9223372036854775808) 9223372036854775807 (by simp [rD, b4, b3])
  have a0 := ha.1 0 (by omega)
  have a1 := ha.1 1 (by omega)
  have a2 := ha.1 2 (by omega)
  have a3 := ha.1 3 (by omega)
  rw [← a0] at b0; rw [← a1] at b1; rw [← a2] at b2; rw [← a3] at b3
  refine ⟨?_, by simp [rD, o1, othT]⟩
  · simp only [ObsT, Ob.Tv, SB.tp, SI.tv, sta, IB.eval, and_true, wrap_i64, wrap_u64, FI_10, FI_11, FI_12, FI_13, FI_14, FI_15, FI_16, FI_17, FI_18, FI_19, FI_20, FI_21, onOk, nxt, dE, cE, xE]
    first | omega | ((repeat' apply And.intro) <;> ((repeat' split) <;> omega))
set_option maxHeartbeats 1000000 in
theorem rD_o0_9 (kv : Nat → Nat) (iv0 : Nat → Int) (bv0 : Nat → Bool) (hin : InB rD.B iv0) (hF : FT (sta FI FB kv iv0 bv0) (dlt dyn0) rD.F) (iv : Nat → Int) (bv : Nat → Bool) (ha : Agr 4 iv0 bv0 iv bv) (hi : rD_inv iv0 bv0 0 iv bv) :
    LfT (sta FI FB kv) rD.os (rD_inv iv0 bv0) (rD_mu iv0 bv0) 0 iv bv (.fin [((.eq (.v 2) (.c 4611686018427387904)), .false), ((.lt (.wk .u64 (.wk .i64 (.op .sub (.v 0) (.v 1)))) (.v 3)), .false), ((.lt (.v 1) (.c 0)), .false), ((.lt (.v 3) (.c 1)), .false), ((.le (.v 2) (.c 4611686018427387904)), .true), ((.le (.v 1) (.v 0)), .true)] 0 ⟨⟨[], []⟩, [], [], []⟩ [(.ei (.ap 10 (.v 0) (.v 1) (.v 2) (.v 3) (.c 0) (.c 0)) (.wk .i64 (.op .sub (.v 0) (.v 3)))), (.ei (.ap 11 (.v 0) (.v 1) (.v 2) (.v 3) (.c 0) (.c 0)) (.v 1)), (.ei (.ap 12 (.v 0) (.v 1) (.v 2) (.v 3) (.c 0) (.c 0)) (.op .add (.v 2) (.c 1))), (.ei (.ap 13 (.v 0) (.v 1) (.v 2) (.v 3) (.c 0) (.c 0)) (.c 0))] []) := by
  intro δ hf
  simp only [FT, TP, SB.tp, SI.tv, sta, IB.eval, and_true, wrap_i64, wrap_u64, FI_10, FI_11, FI_12, FI_13, FI_14, FI_15, FI_16, FI_17, FI_18, FI_19, FI_20, FI_21, onOk, nxt, dE, cE, xE] at hf
  have b0 := hin 0 (-9223372036854775808) 9223372036854775807 (by simp [rD, b4, b3])
  have b1 := hin 1 (-9223372036854775808) 9223372036854775807 (by simp [rD, b4, b3])
  have b2 := hin 2 0 18446744073709551615 (by simp [rD, b4, b3])
  have b3 := hin 3 (-9223372036854775808) 9223372036854775807 (by simp [rD, b4, b3])
  have a0 := ha.1 0 (by omega)
  have a1 := ha.1 1 (by omega)
  have a2 := ha.1 2 (by omega)
  have a3 := ha.1 3 (by omega)
  rw [← a0] at b0; rw [← a1] at b1; rw [← a2] at b2; rw [← a3] at b3
  refine ⟨?_, by simp [rD, o1, othT]⟩
  · simp only [ObsT, Ob.Tv, SB.tp, SI.tv, sta, IB.eval, and_true, wrap_i64, wrap_u64, FI_10, FI_11, FI_12, FI_13, FI_14, FI_15, FI_16, FI_17, FI_18, FI_19, FI_20, FI_21, onOk, nxt, dE, cE, xE]
    first | omega | ((repeat' apply And.intro) <;> ((repeat' split) <;> omega))
set_option maxHeartbeats 1000000 in
theorem rD_o0_10 (kv : Nat → Nat) (iv0 : Nat → Int) (bv0 : Nat → Bool) (hin : InB rD.B iv0) (hF : FT (sta FI FB kv iv0 bv0) (dlt dyn0) rD.F) (iv : Nat → Int) (bv : Nat → Bool) (ha : Agr 4 iv0 bv0 iv bv) (hi : rD_inv iv0 bv0 0 iv bv) :
    LfT (sta FI FB kv) rD.os (rD_inv iv0 bv0) (rD_mu iv0 bv0) 0 iv bv (.fin [((.le (.v 2) (.c 4611686018427387904)), .false), ((.le (.v 1) (.v 0)), .true)] 0 ⟨⟨[], []⟩, [], [], []⟩ [(.ei (.ap 10 (.v 0) (.v 1) (.v 2) (.v 3) (.c 0) (.c 0)) (.c 0)), (.ei (.ap 11 (.v 0) (.v 1) (.v 2) (.v 3) (.c 0) (.c 0)) (.c 0)), (.ei (.ap 12 (.v 0) (.v 1) (.v 2) (.v 3) (.c 0) (.c 0)) (.c 0)), (.ei (.ap 13 (.v 0) (.v 1) (.v 2) (.v 3) (.c 0) (.c 0)) (.c 2))] []) := by
  intro δ hf
  simp only [FT, TP, SB.tp, SI.tv, sta, IB.eval, and_true, wrap_i64, wrap_u64, FI_10, FI_11, FI_12, FI_13, FI_14, FI_15, FI_16, FI_17, FI_18, FI_19, FI_20, FI_21, onOk, nxt, dE, cE, xE] at hf
  have b0 := hin 0 (-9223372036854775808) 9223372036854775807 (by simp [rD, b4, b3])
  have b1 := hin 1 (-9223372036854775808) 9223372036854775807 (by simp [rD, b4, b3])
  have b2 := hin 2 0 18446744073709551615 (by simp [rD, b4, b3])
  have b3 := hin 3 (-9223372036854775808) 9223372036854775807 (by simp [rD, b4, b3])
  have a0 := ha.1 0 (by omega)
  have a1 := ha.1 1 (by omega)
  have a2 := ha.1 2 (by omega)
  have a3 := ha.1 3 (by omega)
  rw [← a0] at b0; rw [← a1] at b1; rw [← a2] at b2; rw [← a3] at b3
  refine ⟨?_, by simp [rD, o1, othT]⟩
  · simp only [ObsT, Ob.Tv, SB.tp, SI.tv, sta, IB.eval, and_true, wrap_i64, wrap_u64, FI_10, FI_11, FI_12, FI_13, FI_14, FI_15, FI_16, FI_17, FI_18, FI_19, FI_20, FI_21, onOk, nxt, dE, cE, xE]
    first | omega | ((repeat' apply And.intro) <;> ((repeat' split) <;> omega))
set_option maxHeartbeats 1000000 in
theorem rD_o0_11 (kv : Nat → Nat) (iv0 : Nat → Int) (bv0 : Nat → Bool) (hin : InB rD.B iv0) (hF : FT (sta FI FB kv iv0 bv0) (dlt dyn0) rD.F) (iv : Nat → Int) (bv : Nat → Bool) (ha : Agr 4 iv0 bv0 iv bv) (hi : rD_inv iv0 bv0 0 iv bv) :
    LfT (sta FI FB kv) rD.os (rD_inv iv0 bv0) (rD_mu iv0 bv0) 0 iv bv (.fin [((.le (.v 1) (.v 0)), .false)] 0 ⟨⟨[], []⟩, [], [], []⟩ [(.ei (.ap 10 (.v 0) (.v 1) (.v 2) (.v 3) (.c 0) (.c 0)) (.c 0)), (.ei (.ap 11 (.v 0) (.v 1) (.v 2) (.v 3) (.c 0) (.c 0)) (.c 0)), (.ei (.ap 12 (.v 0) (.v 1) (.v 2) (.v 3) (.c 0) (.c 0)) (.c 0)), (.ei (.ap 13 (.v 0) (.v 1) (.v 2) (.v 3) (.c 0) (.c 0)) (.c 2))] []) := by
  intro δ hf
  simp only [FT, TP, SB.tp, SI.tv, sta, IB.eval, and_true, wrap_i64, wrap_u64, FI_10, FI_11, FI_12, FI_13, FI_14, FI_15, FI_16, FI_17, FI_18, FI_19, FI_20, FI_21, onOk, nxt, dE, cE, xE] at hf
  have b0 := hin 0 (-9223372036854775808) 9223372036854775807 (by simp [rD, b4, b3])
  have b1 := hin 1 (-9223372036854775808) 9223372036854775807 (by simp [rD, b4, b3])
  have b2 := hin 2 0 18446744073709551615 (by simp [rD, b4, b3])
  have b3 := hin 3 (-9223372036854775808) 9223372036854775807 (by simp [rD, b4, b3])
  have a0 := ha.1 0 (by omega)
  have a1 := ha.1 1 (by omega)
  have a2 := ha.1 2 (by omega)
  have a3 := ha.1 3 (by omega)
  rw [← a0] at b0; rw [← a1] at b1; rw [← a2] at b2; rw [← a3] at b3
  refine ⟨?_, by simp [rD, o1, othT]⟩
  · simp only [ObsT, Ob.Tv, SB.tp, SI.tv, sta, IB.eval, and_true, wrap_i64, wrap_u64, FI_10, FI_11, FI_12, FI_13, FI_14, FI_15, FI_16, FI_17, FI_18, FI_19, FI_20, FI_21, onOk, nxt, dE, cE, xE]
    first | omega | ((repeat' apply And.intro) <;> ((repeat' split) <;> omega))
set_option maxRecDepth 100000 in
theorem rD_c : LsC ((tm0 rD Try.f11 (Try.f11.body.getD .skip)) :: []) rD.os [rD_L0] := by
  unfold rD_L0
  exact ⟨List.forall_mem_cons.2 ⟨⟨⟨_, rfl, rfl⟩, by kernel_rfl⟩, List.forall_mem_cons.2 ⟨⟨⟨_, rfl, rfl⟩, by kernel_rfl⟩, List.forall_mem_cons.2 ⟨⟨⟨_, rfl, rfl⟩, by kernel_rfl⟩, List.forall_mem_cons.2 ⟨⟨⟨_, rfl, rfl⟩, by kernel_rfl⟩, List.forall_mem_cons.2 ⟨⟨⟨_, rfl, rfl⟩, by kernel_rfl⟩, List.forall_mem_cons.2 ⟨⟨⟨_, rfl, rfl⟩, by kernel_rfl⟩, List.forall_mem_cons.2 ⟨⟨⟨_, rfl, rfl⟩, by kernel_rfl⟩, List.forall_mem_cons.2 ⟨⟨⟨_, rfl, rfl⟩, by kernel_rfl⟩, List.forall_mem_cons.2 ⟨⟨⟨_, rfl, rfl⟩, by kernel_rfl⟩, List.forall_mem_cons.2 ⟨⟨⟨_, rfl, rfl⟩, by kernel_rfl⟩, List.forall_mem_cons.2 ⟨⟨⟨_, rfl, rfl⟩, by kernel_rfl⟩, List.forall_mem_cons.2 ⟨⟨⟨_, rfl, rfl⟩, by kernel_rfl⟩, List.forall_mem_nil _⟩⟩⟩⟩⟩⟩⟩⟩⟩⟩⟩⟩, trivial⟩
theorem rD_ok : rD.Ok Try.prog FI FB :=
  Con.of_plain (body := Try.f11.body.getD .skip) pok fiok EntsFor.nil rD Try.func11 (by kernel_rfl) 4 [] (by kernel_rfl) [rD_L0] ⟨rD_h0, trivial⟩ rD_c
    rD_inv rD_mu (fun _ _ _ => trivial) fun kv iv0 bv0 hin hF k l iv bv hk ha hi => match k, hk, hi with
    | 0, hk, hi => by
      cases hk
      exact List.forall_mem_cons.2 ⟨rD_o0_0 kv iv0 bv0 hin hF iv bv ha hi, List.forall_mem_cons.2 ⟨rD_o0_1 kv iv0 bv0 hin hF iv bv ha hi, List.forall_mem_cons.2 ⟨rD_o0_2 kv iv0 bv0 hin hF iv bv ha hi, List.forall_mem_cons.2 ⟨rD_o0_3 kv iv0 bv0 hin hF iv bv ha hi, List.forall_mem_cons.2 ⟨rD_o0_4 kv iv0 bv0 hin hF iv bv ha hi, List.forall_mem_cons.2 ⟨rD_o0_5 kv iv0 bv0 hin hF iv bv ha hi, List.forall_mem_cons.2 ⟨rD_o0_6 kv iv0 bv0 hin hF iv bv ha hi, List.forall_mem_cons.2 ⟨rD_o0_7 kv iv0 bv0 hin hF iv bv ha hi, List.forall_mem_cons.2 ⟨rD_o0_8 kv iv0 bv0 hin hF iv bv ha hi, List.forall_mem_cons.2 ⟨rD_o0_9 kv iv0 bv0 hin hF iv bv ha hi, List.forall_mem_cons.2 ⟨rD_o0_10 kv iv0 bv0 hin hF iv bv ha hi, List.forall_mem_cons.2 ⟨rD_o0_11 kv iv0 bv0 hin hF iv bv ha hi, List.forall_mem_nil _⟩⟩⟩⟩⟩⟩⟩⟩⟩⟩⟩⟩
    | k + 1, hk, _ => by simp at hk
noncomputable def eC_L0 : List Lf :=
  [(.fin [((.lt (.wk .u64 (.op .sub (.c 9223372036854775807) (.wk .u64 (.v 0)))) (.v 3)), .true), ((.lt (.c 0) (.v 3)), .true), ((.le (.v 2) (.c 4611686018427387904)), .true), ((.le (.v 1) (.v 0)), .true)] 0 ⟨⟨[], []⟩, [], [], []⟩ [(.ei (.ap 14 (.v 0) (.v 1) (.v 2) (.v 3) (.c 0) (.c 0)) (.c 0)), (.ei (.ap 15 (.v 0) (.v 1) (.v 2) (.v 3) (.c 0) (.c 0)) (.c 0)), (.ei (.ap 16 (.v 0) (.v 1) (.v 2) (.v 3) (.c 0) (.c 0)) (.c 0)), (.ei (.ap 17 (.v 0) (.v 1) (.v 2) (.v 3) (.c 0) (.c 0)) (.c 141))] []), (.fin [((.le (.c 4611686018427387904) (.v 2)), .true), ((.lt (.wk .u64 (.op .sub (.c 9223372036854775807) (.wk .u64 (.v 0)))) (.v 3)), .false), ((.lt (.c 0) (.v 3)), .true), ((.le (.v 2) (.c 4611686018427387904)), .true), ((.le (.v 1) (.v 0)), .true)] 0 ⟨⟨[], []⟩, [], [], []⟩ [(.ei (.ap 14 (.v 0) (.v 1) (.v 2) (.v 3) (.c 0) (.c 0)) (.c 0)), (.ei (.ap 15 (.v 0) (.v 1) (.v 2) (.v 3) (.c 0) (.c 0)) (.c 0)), (.ei (.ap 16 (.v 0) (.v 1) (.v 2) (.v 3) (.c 0) (.c 0)) (.c 0)), (.ei (.ap 17 (.v 0) (.v 1) (.v 2) (.v 3) (.c 0) (.c 0)) (.c 142))] []), (.fin [((.le (.c 4611686018427387904) (.v 2)), .false), ((.lt (.wk .u64 (.op .sub (.c 9223372036854775807) (.wk .u64 (.v 0)))) (.v 3)), .false), ((.lt (.c 0) (.v 3)), .true), ((.le (.v 2) (.c 4611686018427387904)), .true), ((.le (.v 1) (.v 0)), .true)] 0 ⟨⟨[], []⟩, [], [], []⟩ [(.ei (.ap 14 (.v 0) (.v 1) (.v 2) (.v 3) (.c 0) (.c 0)) (.wk .i64 (.wk .u64 (.op .add (.wk .u64 (.v 0)) (.v 3))))), (.ei (.ap 15 (.v 0) (.v 1) (.v 2) (.v 3) (.c 0) (.c 0)) (.v 1)), (.ei (.ap 16 (.v 0) (.v 1) (.v 2) (.v 3) (.c 0) (.c 0)) (.op .add (.v 2) (.c 1))), (.ei (.ap 17 (.v 0) (.v 1) (.v 2) (.v 3) (.c 0) (.c 0)) (.c 0))] []), (.fin [((.lt (.c 0) (.v 3)), .false), ((.le (.v 2) (.c 4611686018427387904)), .true), ((.le (.v 1) (.v 0)), .true)] 0 ⟨⟨[], []⟩, [], [], []⟩ [(.ei (.ap 14 (.v 0) (.v 1) (.v 2) (.v 3) (.c 0) (.c 0)) (.c 0)), (.ei (.ap 15 (.v 0) (.v 1) (.v 2) (.v 3) (.c 0) (.c 0)) (.c 0)), (.ei (.ap 16 (.v 0) (.v 1) (.v 2) (.v 3) (.c 0) (.c 0)) (.c 0)), (.ei (.ap 17 (.v 0) (.v 1) (.v 2) (.v 3) (.c 0) (.c 0)) (.c 2))] []), (.fin [((.le (.v 2) (.c 4611686018427387904)), .false), ((.le (.v 1) (.v 0)), .true)] 0 ⟨⟨[], []⟩, [], [], []⟩ [(.ei (.ap 14 (.v 0) (.v 1) (.v 2) (.v 3) (.c 0) (.c 0)) (.c 0)), (.ei (.ap 15 (.v 0) (.v 1) (.v 2) (.v 3) (.c 0) (.c 0)) (.c 0)), (.ei (.ap 16 (.v 0) (.v 1) (.v 2) (.v 3) (.c 0) (.c 0)) (.c 0)), (.ei (.ap 17 (.v 0) (.v 1) (.v 2) (.v 3) (.c 0) (.c 0)) (.c 2))] []), (.fin [((.le (.v 1) (.v 0)), .false)] 0 ⟨⟨[], []⟩, [], [], []⟩ [(.ei (.ap 14 (.v 0) (.v 1) (.v 2) (.v 3) (.c 0) (.c 0)) (.c 0)), (.ei (.ap 15 (.v 0) (.v 1) (.v 2) (.v 3) (.c 0) (.c 0)) (.c 0)), (.ei (.ap 16 (.v 0) (.v 1) (.v 2) (.v 3) (.c 0) (.c 0)) (.c 0)), (.ei (.ap 17 (.v 0) (.v 1) (.v 2) (.v 3) (.c 0) (.c 0)) (.c 2))] [])]
set_option maxRecDepth 100000 in
theorem eC_h0 : (ex (ccOf Try.prog BF [24] eC) ((fun _ => []) (ccOf Try.prog BF [24] eC)) (dw (ccOf Try.prog BF [24] eC) ((fun _ => []) (ccOf Try.prog BF [24] eC)) 1000 4) (stopL []) 4000 (tm0 eC Try.f9 (Try.f9.body.getD .skip)).f (tm0 eC Try.f9 (Try.f9.body.getD .skip)).fs (tm0 eC Try.f9 (Try.f9.body.getD .skip)).H).lfs (ccOf Try.prog BF [24] eC) ((tm0 eC Try.f9 (Try.f9.body.getD .skip)) :: []) eC.os = some eC_L0 := by kernel_rfl
def eC_inv : (Nat → Int) → (Nat → Bool) → Nat → (Nat → Int) → (Nat → Bool) → Prop := fun _ _ _ _ _ => True
def eC_mu : (Nat → Int) → (Nat → Bool) → Nat → (Nat → Int) → (Nat → Bool) → Nat := fun _ _ _ _ _ => 0
set_option maxHeartbeats 1000000 in
theorem eC_o0_0 (kv : Nat → Nat) (iv0 : Nat → Int) (bv0 : Nat → Bool) (hin : InB eC.B iv0) (hF : FT (sta FI FB kv iv0 bv0) (dlt dyn0) eC.F) (iv : Nat → Int) (bv : Nat → Bool) (ha : Agr 4 iv0 bv0 iv bv) (hi : eC_inv iv0 bv0 0 iv bv) :
    LfT (sta FI FB kv) eC.os (eC_inv iv0 bv0) (eC_mu iv0 bv0) 0 iv bv (.fin [((.lt (.wk .u64 (.op .sub (.c 9223372036854775807) (.wk .u64 (.v 0)))) (.v 3)), .true), ((.lt (.c 0) (.v 3)), .true), ((.le (.v 2) (.c 4611686018427387904)), .true), ((.le (.v 1) (.v 0)), .true)] 0 ⟨⟨[], []⟩, [], [], []⟩ [(.ei (.ap 14 (.v 0) (.v 1) (.v 2) (.v 3) (.c 0) (.c 0)) (.c 0)), (.ei (.ap 15 (.v 0) (.v 1) (.v 2) (.v 3) (.c 0) (.c 0)) (.c 0)), (.ei (.ap 16 (.v 0) (.v 1) (.v 2) (.v 3) (.c 0) (.c 0)) (.c 0)), (.ei (.ap 17 (.v 0) (.v 1) (.v 2) (.v 3) (.c 0) (.c 0)) (.c 141))] []) := by
  intro δ hf
  simp only [FT, TP, SB.tp, SI.tv, sta, IB.eval, and_true, wrap_i64, wrap_u64, FI_10, FI_11, FI_12, FI_13, FI_14, FI_15, FI_16, FI_17, FI_18, FI_19, FI_20, FI_21, onOk, nxt, dE, cE, xE] at hf
  have b0 := hin 0 (-9223372036854775808) 9223372036854775807 (by simp [eC, b4, b3])
  have b1 := hin 1 (-9223372036854775808) 9223372036854775807 (by simp [eC, b4, b3])
  have b2 := hin 2 0 18446744073709551615 (by simp [eC, b4, b3])
  have b3 := hin 3 (-9223372036854775808) 9223372036854775807 (by simp [eC, b4, b3])
  have a0 := ha.1 0 (by omega)
  have a1 := ha.1 1 (by omega)
  have a2 := ha.1 2 (by omega)
  have a3 := ha.1 3 (by omega)
  rw [← a0] at b0; rw [← a1] at b1; rw [← a2] at b2; rw [← a3] at b3
  refine ⟨?_, by simp [eC, o1, othT]⟩
  · simp only [ObsT, Ob.Tv, SB.tp, SI.tv, sta, IB.eval, and_true, wrap_i64, wrap_u64, FI_10, FI_11, FI_12, FI_13, FI_14, FI_15, FI_16, FI_17, FI_18, FI_19, FI_20, FI_21, onOk, nxt, dE, cE, xE]
    first | omega | ((repeat' apply And.intro) <;> ((repeat' split) <;> omega))
set_option maxHeartbeats 1000000 in
theorem eC_o0_1 (kv : Nat → Nat) (iv0 : Nat → Int) (bv0 : Nat → Bool) (hin : InB eC.B iv0) (hF : FT (sta FI FB kv iv0 bv0) (dlt dyn0) eC.F) (iv : Nat → Int) (bv : Nat → Bool) (ha : Agr 4 iv0 bv0 iv bv) (hi : eC_inv iv0 bv0 0 iv bv) :
    LfT (sta FI FB kv) eC.os (eC_inv iv0 bv0) (eC_mu iv0 bv0) 0 iv bv (.fin [((.le (.c 4611686018427387904) (.v 2)), .true), ((.lt (.wk .u64 (.op .sub (.c 9223372036854775807) (.wk .u64 (.v 0)))) (.v 3)), .false), ((.lt (.c 0) (.v 3)), .true), ((.le (.v 2) (.c 4611686018427387904)), .true), ((.le (.v 1) (.v 0)), .true)] 0 ⟨⟨[], []⟩, [], [], []⟩ [(.ei (.ap 14 (.v 0) (.v 1) (.v 2) (.v 3) (.c 0) (.c 0)) (.c 0)), (.ei (.ap 15 (.v 0) (.v 1) (.v 2) (.v 3) (.c 0) (.c 0)) (.c 0)), (.ei (.ap 16 (.v 0) (.v 1) (.v 2) (.v 3) (.c 0) (.c 0)) (.c 0)), (.ei (.ap 17 (.v 0) (.v 1) (.v 2) (.v 3) (.c 0) (.c 0)) (.c 142))] []) := by
  intro δ hf
  simp only [FT, TP, SB.tp, SI.tv, sta, IB.eval, and_true, wrap_i64, wrap_u64, FI_10, FI_11, FI_12, FI_13, FI_14, FI_15, FI_16, FI_17, FI_18, FI_19, FI_20, FI_21, onOk, nxt, dE, cE, xE] at hf
  have b0 := hin 0 (-9223372036854775808) 9223372036854775807 (by simp [eC, b4, b3])
  have b1 := hin 1 (-9223372036854775808) 9223372036854775807 (by simp [eC, b4, b3])
  have b2 := hin 2 0 18446744073709551615 (by simp [eC, b4, b3])
  have b3 := hin 3 (-9223372036854775808) 9223372036854775807 (by simp [eC, b4, b3])
  have a0 := ha.1 0 (by omega)
  have a1 := ha.1 1 (by omega)
  have a2 := ha.1 2 (by omega)
  have a3 := ha.1 3 (by omega)
  rw [← a0] at b0; rw [← a1] at b1; rw [← a2] at b2; rw [← a3] at b3
  refine ⟨?_, by simp [eC, o1, othT]⟩
  · simp only [ObsT, Ob.Tv, SB.tp, SI.tv, sta, IB.eval, and_true, wrap_i64, wrap_u64, FI_10, FI_11, FI_12, FI_13, FI_14, FI_15, FI_16, FI_17, FI_18, FI_19, FI_20, FI_21, onOk, nxt, dE, cE, xE]
    first | omega | ((repeat' apply And.intro) <;> ((repeat' split) <;> omega))
set_option maxHeartbeats 1000000 in
theorem eC_o0_2 (kv : Nat → Nat) (iv0 : Nat → Int) (bv0 : Nat → Bool) (hin : InB eC.B iv0) (hF : FT (sta FI FB kv iv0 bv0) (dlt dyn0) eC.F) (iv : Nat → Int) (bv : Nat → Bool) (ha : Agr 4 iv0 bv0 iv bv) (hi : eC_inv iv0 bv0 0 iv bv) :
    LfT (sta FI FB kv) eC.os (eC_inv iv0 bv0) (eC_mu iv0 bv0) 0 iv bv (.fin [((.le (.c 4611686018427387904) (.v 2)), .false), ((.lt (.wk .u64 (.op .sub (.c 9223372036854775807) (.wk .u64 (.v 0)))) (.v 3)), .false), ((.lt (.c 0) (.v 3)), .true), ((.le (.v 2) (.c 4611686018427387904)), .true), ((.le (.v 1) (.v 0)), .true)] 0 ⟨⟨[], []⟩, [], [], []⟩ [(.ei (.ap 14 (.v 0) (.v 1) (.v 2) (.v 3) (.c 0) (.c 0)) (.wk .i64 (.wk .u64 (.op .add (.wk .u64 (.v 0)) (.v 3))))), (.ei (.ap 15 (.v 0) (.v 1) (.v 2) (.v 3) (.c 0) (.c 0)) (.v 1)), (.ei (.ap 16 (.v 0) (.v 1) (.v 2) (.v 3) (.c 0) (.c 0)) (.op .add (.v 2) (.c 1))), (.ei (.ap 17 (.v 0) (.v 1) (.v 2) (.v 3) (.c 0) (.c 0)) (.c 0))] []) := by
  intro δ hf
  simp only [FT, TP, SB.tp, SI.tv, sta, IB.eval, and_true, wrap_i64, wrap_u64, FI_10, FI_11, FI_12, FI_13, FI_14, FI_15, FI_16, FI_17, FI_18, FI_19, FI_20, FI_21, onOk, nxt, dE, cE, xE] at hf
  have b0 := hin 0 (-9223372036854775808) 9223372036854775807 (by simp [eC, b4, b3])
  have b1 := hin 1 (-9223372036854775808) 9223372036854775807 (by simp [eC, b4, b3])
  have b2 := hin 2 0 18446744073709551615 (by simp [eC, b4, b3])
  have b3 := hin 3 (-9223372036854775808) 9223372036854775807 (by simp [eC, b4, b3])
  have a0 := ha.1 0 (by omega)
  have a1 := ha.1 1 (by omega)
  have a2 := ha.1 2 (by omega)
  have a3 := ha.1 3 (by omega)
  rw [← a0] at b0; rw [← a1] at b1; rw [← a2] at b2; rw [← a3] at b3
  refine ⟨?_, by simp [eC, o1, othT]⟩
  · simp only [ObsT, Ob.Tv, SB.tp, SI.tv, sta, IB.eval, and_true, wrap_i64, wrap_u64, FI_10, FI_11, FI_12, FI_13, FI_14, FI_15, FI_16, FI_17, FI_18, FI_19, FI_20, FI_21, onOk, nxt, dE, cE, xE]
    first | omega | ((repeat' apply And.intro) <;> ((repeat' split) <;> omega))
set_option maxHeartbeats 1000000 in
theorem eC_o0_3 (kv : Nat → Nat) (iv0 : Nat → Int) (bv0 : Nat → Bool) (hin : InB eC.B iv0) (hF : FT (sta FI FB kv iv0 bv0) (dlt dyn0) eC.F) (iv : Nat → Int) (bv : Nat → Bool) (ha : Agr 4 iv0 bv0 iv bv) (hi : eC_inv iv0 bv0 0 iv bv) :
    LfT (sta FI FB kv) eC.os (eC_inv iv0 bv0) (eC_mu iv0 bv0) 0 iv bv (.fin [((.lt (.c 0) (.v 3)), .false), ((.le (.v 2) (.c 4611686018427387904)), .true), ((.le (.v 1) (.v 0)), .true)] 0 ⟨⟨[], []⟩, [], [], []⟩ [(.ei (.ap 14 (.v 0) (.v 1) (.v 2) (.v 3) (.c 0) (.c 0)) (.c 0)), (.ei (.ap 15 (.v 0) (.v 1) (.v 2) (.v 3) (.c 0) (.c 0)) (.c 0)), (.ei (.ap 16 (.v 0) (.v 1) (.v 2) (.v 3) (.c 0) (.c 0)) (.c 0)), (.ei (.ap 17 (.v 0) (.v 1) (.v 2) (.v 3) (.c 0) (.c 0)) (.c 2))] []) := by
  intro δ hf
  simp only [FT, TP, SB.tp, SI.tv, sta, IB.eval, and_true, wrap_i64, wrap_u64, FI_10, FI_11, FI_12, FI_13, FI_14, FI_15, FI_16, FI_17, FI_18, FI_19, FI_20, FI_21, onOk, nxt, dE, cE, xE] at hf
  have b0 := hin 0 (-9223372036854775808) 9223372036854775807 (by simp [eC, b4, b3])
  have b1 := hin 1 (-9223372036854775808) 9223372036854775807 (by simp [eC, b4, b3])
  have b2 := hin 2 0 18446744073709551615 (by simp [eC, b4, b3])
  have b3 := hin 3 (-9223372036854775808) 9223372036854775807 (by simp [eC, b4, b3])
  have a0 := ha.1 0 (by omega)
  have a1 := ha.1 1 (by omega)
  have a2 := ha.1 2 (by omega)
  have a3 := ha.1 3 (by omega)
  rw [← a0] at b0; rw [← a1] at b1; rw [← a2] at b2; rw [← a3] at b3
  refine ⟨?_, by simp [eC, o1, othT]⟩
  · simp only [ObsT, Ob.Tv, SB.tp, SI.tv, sta, IB.eval, and_true, wrap_i64, wrap_u64, FI_10, FI_11, FI_12, FI_13, FI_14, FI_15, FI_16, FI_17, FI_18, FI_19, FI_20, FI_21, onOk, nxt, dE, cE, xE]
    first | omega | ((repeat' apply And.intro) <;> ((repeat' split) <;> omega))
set_option maxHeartbeats 1000000 in
theorem eC_o0_4 (kv : Nat → Nat) (iv0 : Nat → Int) (bv0 : Nat → Bool) (hin : InB eC.B iv0) (hF : FT (sta FI FB kv iv0 bv0) (dlt dyn0) eC.F) (iv : Nat → Int) (bv : Nat → Bool) (ha : Agr 4 iv0 bv0 iv bv) (hi : eC_inv iv0 bv0 0 iv bv) :
    LfT (sta FI FB kv) eC.os (eC_inv iv0 bv0) (eC_mu iv0 bv0) 0 iv bv (.fin [((.le (.v 2) (.c 4611686018427387904)), .false), ((.le (.v 1) (.v 0)), .true)] 0 ⟨⟨[], []⟩, [], [], []⟩ [(.ei (.ap 14 (.v 0) (.v 1) (.v 2) (.v 3) (.c 0) (.c 0)) (.c 0)), (.ei (.ap 15 (.v 0) (.v 1) (.v 2) (.v 3) (.c 0) (.c 0)) (.c 0)), (.ei (.ap 16 (.v 0) (.v 1) (.v 2) (.v 3) (.c 0) (.c 0)) (.c 0)), (.ei (.ap 17 (.v 0) (.v 1) (.v 2) (.v 3) (.c 0) (.c 0)) (.c 2))] []) := by
  intro δ hf
  simp only [FT, TP, SB.tp, SI.tv, sta, IB.eval, and_true, wrap_i64, wrap_u64, FI_10, FI_11, FI_12, FI_13, FI_14, FI_15, FI_16, FI_17, FI_18, FI_19, FI_20, FI_21, onOk, nxt, dE, cE, xE] at hf
  have b0 := hin 0 (-9223372036854775808) 9223372036854775807 (by simp [eC, b4, b3])
  have b1 := hin 1 (-9223372036854775808) 9223372036854775807 (by simp [eC, b4, b3])
  have b2 := hin 2 0 18446744073709551615 (by simp [eC, b4, b3])
  have b3 := hin 3 (-9223372036854775808) 9223372036854775807 (by simp [eC, b4, b3])
  have a0 := ha.1 0 (by omega)
  have a1 := ha.1 1 (by omega)
  have a2 := ha.1 2 (by omega)
  have a3 := ha.1 3 (by omega)
  rw [← a0] at b0; rw [← a1] at b1; rw [← a2] at b2; rw [← a3] at b3
  refine ⟨?_, by simp [eC, o1, othT]⟩
  · simp only [ObsT, Ob.Tv, SB.tp, SI.tv, sta, IB.eval, and_true, wrap_i64, wrap_u64, FI_10, FI_11, FI_12, FI_13, FI_14, FI_15, FI_16, FI_17, FI_18, FI_19, FI_20, FI_21, onOk, nxt, dE, cE, xE]
    first | omega | ((repeat' apply And.intro) <;> ((repeat' split) <;> omega))
set_option maxHeartbeats 1000000 in
theorem eC_o0_5 (kv : Nat → Nat) (iv0 : Nat → Int) (bv0 : Nat → Bool) (hin : InB eC.B iv0) (hF : FT (sta FI FB kv iv0 bv0) (dlt dyn0) eC.F) (iv : Nat → Int) (bv : Nat → Bool) (ha : Agr 4 iv0 bv0 iv bv) (hi : eC_inv iv0 bv0 0 iv bv) :
    LfT (sta FI FB kv) eC.os (eC_inv iv0 bv0) (eC_mu iv0 bv0) 0 iv bv (.fin [((.le (.v 1) (.v 0)), .false)] 0 ⟨⟨[], []⟩, [], [], []⟩ [(.ei (.ap 14 (.v 0) (.v 1) (.v 2) (.v 3) (.c 0) (.c 0)) (.c 0)), (.ei (.ap 15 (.v 0) (.v 1) (.v 2) (.v 3) (.c 0) (.c 0)) (.c 0)), (.ei (.ap 16 (.v 0) (.v 1) (.v 2) (.v 3) (.c 0) (.c 0)) (.c 0)), (.ei (.ap 17 (.v 0) (.v 1) (.v 2) (.v 3) (.c 0) (.c 0)) (.c 2))] []) := by
  intro δ hf
  simp only [FT, TP, SB.tp, SI.tv, sta, IB.eval, and_true, wrap_i64, wrap_u64, FI_10, FI_11, FI_12, FI_13, FI_14, FI_15, FI_16, FI_17, FI_18, FI_19, FI_20, FI_21, onOk, nxt, dE, cE, xE] at hf
  have b0 := hin 0 (-9223372036854775808) 9223372036854775807 (by simp [eC, b4, b3])
  have b1 := hin 1 (-9223372036854775808) 9223372036854775807 (by simp [eC, b4, b3])
  have b2 := hin 2 0 18446744073709551615 (by simp [eC, b4, b3])
  have b3 := hin 3 (-9223372036854775808) 9223372036854775807 (by simp [eC, b4, b3])
  have a0 := ha.1 0 (by omega)
  have a1 := ha.1 1 (by omega)
  have a2 := ha.1 2 (by omega)
  have a3 := ha.1 3 (by omega)
  rw [← a0] at b0; rw [← a1] at b1; rw [← a2] at b2; rw [← a3] at b3
  refine ⟨?_, by simp [eC, o1, othT]⟩
  · simp only [ObsT, Ob.Tv, SB.tp, SI.tv, sta, IB.eval, and_true, wrap_i64, wrap_u64, FI_10, FI_11, FI_12, FI_13, FI_14, FI_15, FI_16, FI_17, FI_18, FI_19, FI_20, FI_21, onOk, nxt, dE, cE, xE]
    first | omega | ((repeat' apply And.intro) <;> ((repeat' split) <;> omega))
set_option maxRecDepth 100000 in
theorem eC_c : LsC ((tm0 eC Try.f9 (Try.f9.body.getD .skip)) :: []) eC.os [eC_L0] := by
  unfold eC_L0
  exact ⟨List.forall_mem_cons.2 ⟨⟨⟨_, rfl, rfl⟩, by kernel_rfl⟩, List.forall_mem_cons.2 ⟨⟨⟨_, rfl, rfl⟩, by kernel_rfl⟩, List.forall_mem_cons.2 ⟨⟨⟨_, rfl, rfl⟩, by kernel_rfl⟩, List.forall_mem_cons.2 ⟨⟨⟨_, rfl, rfl⟩, by kernel_rfl⟩, List.forall_mem_cons.2 ⟨⟨⟨_, rfl, rfl⟩, by kernel_rfl⟩, List.forall_mem_cons.2 ⟨⟨⟨_, rfl, rfl⟩, by kernel_rfl⟩, List.forall_mem_nil _⟩⟩⟩⟩⟩⟩, trivial⟩
theorem eC_ok : eC.Ok Try.prog FI FB :=
  Con.of_plain (body := Try.f9.body.getD .skip) pok fiok EntsFor.nil eC Try.func9 (by kernel_rfl) 4 [] (by kernel_rfl) [eC_L0] ⟨eC_h0, trivial⟩ eC_c
    eC_inv eC_mu (fun _ _ _ => trivial) fun kv iv0 bv0 hin hF k l iv bv hk ha hi => match k, hk, hi with
    | 0, hk, hi => by
      cases hk
      exact List.forall_mem_cons.2 ⟨eC_o0_0 kv iv0 bv0 hin hF iv bv ha hi, List.forall_mem_cons.2 ⟨eC_o0_1 kv iv0 bv0 hin hF iv bv ha hi, List.forall_mem_cons.2 ⟨eC_o0_2 kv iv0 bv0 hin hF iv bv ha hi, List.forall_mem_cons.2 ⟨eC_o0_3 kv iv0 bv0 hin hF iv bv ha hi, List.forall_mem_cons.2 ⟨eC_o0_4 kv iv0 bv0 hin hF iv bv ha hi, List.forall_mem_cons.2 ⟨eC_o0_5 kv iv0 bv0 hin hF iv bv ha hi, List.forall_mem_nil _⟩⟩⟩⟩⟩⟩
    | k + 1, hk, _ => by simp at hk
noncomputable def rC_L0 : List Lf :=
  [(.fin [((.lt (.v 3) (.c 1)), .true), ((.le (.v 2) (.c 4611686018427387904)), .true), ((.le (.v 1) (.v 0)), .true)] 0 ⟨⟨[], []⟩, [], [], []⟩ [(.ei (.ap 14 (.v 0) (.v 1) (.v 2) (.v 3) (.c 0) (.c 0)) (.c 0)), (.ei (.ap 15 (.v 0) (.v 1) (.v 2) (.v 3) (.c 0) (.c 0)) (.c 0)), (.ei (.ap 16 (.v 0) (.v 1) (.v 2) (.v 3) (.c 0) (.c 0)) (.c 0)), (.ei (.ap 17 (.v 0) (.v 1) (.v 2) (.v 3) (.c 0) (.c 0)) (.c 2))] []), (.fin [((.lt (.op .sub (.c 9223372036854775807) (.v 3)) (.v 0)), .true), ((.lt (.v 3) (.c 1)), .false), ((.le (.v 2) (.c 4611686018427387904)), .true), ((.le (.v 1) (.v 0)), .true)] 0 ⟨⟨[], []⟩, [], [], []⟩ [(.ei (.ap 14 (.v 0) (.v 1) (.v 2) (.v 3) (.c 0) (.c 0)) (.c 0)), (.ei (.ap 15 (.v 0) (.v 1) (.v 2) (.v 3) (.c 0) (.c 0)) (.c 0)), (.ei (.ap 16 (.v 0) (.v 1) (.v 2) (.v 3) (.c 0) (.c 0)) (.c 0)), (.ei (.ap 17 (.v 0) (.v 1) (.v 2) (.v 3) (.c 0) (.c 0)) (.c 141))] []), (.fin [((.eq (.v 2) (.c 4611686018427387904)), .true), ((.lt (.op .sub (.c 9223372036854775807) (.v 3)) (.v 0)), .false), ((.lt (.v 3) (.c 1)), .false), ((.le (.v 2) (.c 4611686018427387904)), .true), ((.le (.v 1) (.v 0)), .true)] 0 ⟨⟨[], []⟩, [], [], []⟩ [(.ei (.ap 14 (.v 0) (.v 1) (.v 2) (.v 3) (.c 0) (.c 0)) (.c 0)), (.ei (.ap 15 (.v 0) (.v 1) (.v 2) (.v 3) (.c 0) (.c 0)) (.c 0)), (.ei (.ap 16 (.v 0) (.v 1) (.v 2) (.v 3) (.c 0) (.c 0)) (.c 0)), (.ei (.ap 17 (.v 0) (.v 1) (.v 2) (.v 3) (.c 0) (.c 0)) (.c 142))] []), (.fin [((.eq (.v 2) (.c 4611686018427387904)), .false), ((.lt (.op .sub (.c 9223372036854775807) (.v 3)) (.v 0)), .false), ((.lt (.v 3) (.c 1)), .false), ((.le (.v 2) (.c 4611686018427387904)), .true), ((.le (.v 1) (.v 0)), .true)] 0 ⟨⟨[], []⟩, [], [], []⟩ [(.ei (.ap 14 (.v 0) (.v 1) (.v 2) (.v 3) (.c 0) (.c 0)) (.wk .i64 (.op .add (.v 0) (.v 3)))), (.ei (.ap 15 (.v 0) (.v 1) (.v 2) (.v 3) (.c 0) (.c 0)) (.v 1)), (.ei (.ap 16 (.v 0) (.v 1) (.v 2) (.v 3) (.c 0) (.c 0)) (.op .add (.v 2) (.c 1))), (.ei (.ap 17 (.v 0) (.v 1) (.v 2) (.v 3) (.c 0) (.c 0)) (.c 0))] []), (.fin [((.le (.v 2) (.c 4611686018427387904)), .false), ((.le (.v 1) (.v 0)), .true)] 0 ⟨⟨[], []⟩, [], [], []⟩ [(.ei (.ap 14 (.v 0) (.v 1) (.v 2) (.v 3) (.c 0) (.c 0)) (.c 0)), (.ei (.ap 15 (.v 0) (.v 1) (.v 2) (.v 3) (.c 0) (.c 0)) (.c 0)), (.ei (.ap 16 (.v 0) (.v 1) (.v 2) (.v 3) (.c 0) (.c 0)) (.c 0)), (.ei (.ap 17 (.v 0) (.v 1) (.v 2) (.v 3) (.c 0) (.c 0)) (.c 2))] []), (.fin [((.le (.v 1) (.v 0)), .false)] 0 ⟨⟨[], []⟩, [], [], []⟩ [(.ei (.ap 14 (.v 0) (.v 1) (.v 2) (.v 3) (.c 0) (.c 0)) (.c 0)), (.ei (.ap 15 (.v 0) (.v 1) (.v 2) (.v 3) (.c 0) (.c 0)) (.c 0)), (.ei (.ap 16 (.v 0) (.v 1) (.v 2) (.v 3) (.c 0) (.c 0)) (.c 0)), (.ei (.ap 17 (.v 0) (.v 1) (.v 2) (.v 3) (.c 0) (.c 0)) (.c 2))] [])]
set_option maxRecDepth 100000 in
theorem rC_h0 : (ex (ccOf Try.prog BF [24] rC) ((fun _ => []) (ccOf Try.prog BF [24] rC)) (dw (ccOf Try.prog BF [24] rC) ((fun _ => []) (ccOf Try.prog BF [24] rC)) 1000 4) (stopL []) 4000 (tm0 rC Try.f12 (Try.f12.body.getD .skip)).f (tm0 rC Try.f12 (Try.f12.body.getD .skip)).fs (tm0 rC Try.f12 (Try.f12.body.getD .skip)).H).lfs (ccOf Try.prog BF [24] rC) ((tm0 rC Try.f12 (Try.f12.body.getD .skip)) :: []) rC.os = some rC_L0 := by kernel_rfl
def rC_inv : (Nat → Int) → (Nat → Bool) → Nat → (Nat → Int) → (Nat → Bool) → Prop := fun _ _ _ _ _ => True
def rC_mu : (Nat → Int) → (Nat → Bool) → Nat → (Nat → Int) → (Nat → Bool) → Nat := fun _ _ _ _ _ => 0
set_option maxHeartbeats 1000000 in
theorem rC_o0_0 (kv : Nat → Nat) (iv0 : Nat → Int) (bv0 : Nat → Bool) (hin : InB rC.B iv0) (hF : FT (sta FI FB kv iv0 bv0) (dlt dyn0) rC.F) (iv : Nat → Int) (bv : Nat → Bool) (ha : Agr 4 iv0 bv0 iv bv) (hi : rC_inv iv0 bv0 0 iv bv) :
    LfT (sta FI FB kv) rC.os (rC_inv iv0 bv0) (rC_mu iv0 bv0) 0 iv bv (.fin [((.lt (.v 3) (.c 1)), .true), ((.le (.v 2) (.c 4611686018427387904)), .true), ((.le (.v 1) (.v 0)), .true)] 0 ⟨⟨[], []⟩, [], [], []⟩ [(.ei (.ap 14 (.v 0) (.v 1) (.v 2) (.v 3) (.c 0) (.c 0)) (.c 0)), (.ei (.ap 15 (.v 0) (.v 1) (.v 2) (.v 3) (.c 0) (.c 0)) (.c 0)), (.ei (.ap 16 (.v 0) (.v 1) (.v 2) (.v 3) (.c 0) (.c 0)) (.c 0)), (.ei (.ap 17 (.v 0) (.v 1) (.v 2) (.v 3) (.c 0) (.c 0)) (.c 2))] []) := by
  intro δ hf
  simp only [FT, TP, SB.tp, SI.tv, sta, IB.eval, and_true, wrap_i64, wrap_u64, FI_10, FI_11, FI_12, FI_13, FI_14, FI_15, FI_16, FI_17, FI_18, FI_19, FI_20, FI_21, onOk, nxt, dE, cE, xE] at hf
  have b0 := hin 0 (-9223372036854775808) 9223372036854775807 (by simp [rC, b4, b3])
  have b1 := hin 1 (-9223372036854775808) 9223372036854775807 (by simp [rC, b4, b3])
  have b2 := hin 2 0 18446744073709551615 (by simp [rC, b4, b3])
  have b3 := hin 3 (-9223372036854775808) 9223372036854775807 (by simp [rC, b4, b3])
  have a0 := ha.1 0 (by omega)
  have a1 := ha.1 1 (by omega)
  have a2 := ha.1 2 (by omega)
  have a3 := ha.1 3 (by omega)
  rw [← a0] at b0; rw [← a1] at b1; rw [← a2] at b2; rw [← a3] at b3
  refine ⟨?_, by simp [rC, o1, othT]⟩
  · simp only [ObsT, Ob.Tv, SB.tp, SI.tv, sta, IB.eval, and_true, wrap_i64, wrap_u64, FI_10, FI_11, FI_12, FI_13, FI_14, FI_15, FI_16, FI_17, FI_18, FI_19, FI_20, FI_21, onOk, nxt, dE, cE, xE]
    first | omega | ((repeat' apply And.intro) <;> ((repeat' split) <;> omega))
set_option maxHeartbeats 1000000 in
theorem rC_o0_1 (kv : Nat → Nat) (iv0 : Nat → Int) (bv0 : Nat → Bool) (hin : InB rC.B iv0) (hF : FT (sta FI FB kv iv0 bv0) (dlt dyn0) rC.F) (iv : Nat → Int) (bv : Nat → Bool) (ha : Agr 4 iv0 bv0 iv bv) (hi : rC_inv iv0 bv0 0 iv bv) :
    LfT (sta FI FB kv) rC.os (rC_inv iv0 bv0) (rC_mu iv0 bv0) 0 iv bv (.fin [((.lt (.op .sub (.c 9223372036854775807) (.v 3)) (.v 0)), .true), ((.lt (.v 3) (.c 1)), .false), ((.le (.v 2) (.c 4611686018427387904)), .true), ((.le (.v 1) (.v 0)), .true)] 0 ⟨⟨[], []⟩, [], [], []⟩ [(.ei (.ap 14 (.v 0) (.v 1) (.v 2) (.v 3) (.c 0) (.c 0)) (.c 0)), (.ei (.ap 15 (.v 0) (.v 1) (.v 2) (.v 3) (.c 0) (.c 0)) (.c 0)), (.ei (.ap 16 (.v 0) (.v 1) (.v 2) (.v 3) (.c 0) (.c 0)) (.c 0)), (.ei (.ap 17 (.v 0) (.v 1) (.v 2) (.v 3) (.c 0) (.c 0)) (.c 141))] []) := by
  intro δ hf
  simp only [FT, TP, SB.tp, SI.tv, sta, IB.eval, and_true, wrap_i64, wrap_u64, FI_10, FI_11, FI_12, FI_13, FI_14, FI_15, FI_16, FI_17, FI_18, FI_19, FI_20, FI_21, onOk, nxt, dE, cE, xE] at hf
  have b0 := hin 0 (-9223372036854775808) 9223372036854775807 (by simp [rC, b4, b3])
  have b1 := hin 1 (-9223372036854775808) 9223372036854775807 (by simp [rC, b4, b3])
  have b2 := hin 2 0 18446744073709551615 (by simp [rC, b4, b3])
  have b3 := hin 3 (-9223372036854775808) 9223372036854775807 (by simp [rC, b4, b3])
  have a0 := ha.1 0 (by omega)
  have a1 := ha.1 1 (by omega)
  have a2 := ha.1 2 (by omega)
  have a3 := ha.1 3 (by omega)
  rw [← a0] at b0; rw [← a1] at b1; rw [← a2] at b2; rw [← a3] at b3
  refine ⟨?_, by simp [rC, o1, othT]⟩
  · simp only [ObsT, Ob.Tv, SB.tp, SI.tv, sta, IB.eval, and_true, wrap_i64, wrap_u64, FI_10, FI_11, FI_12, FI_13, FI_14, FI_15, FI_16, FI_17, FI_18, FI_19, FI_20, FI_21, onOk, nxt, dE, cE, xE]
    first | omega | ((repeat' apply And.intro) <;> ((repeat' split) <;> omega))
set_option maxHeartbeats 1000000 in
theorem rC_o0_2 (kv : Nat → Nat) (iv0 : Nat → Int) (bv0 : Nat → Bool) (hin : InB rC.B iv0) (hF : FT (sta FI FB kv iv0 bv0) (dlt dyn0) rC.F) (iv : Nat → Int) (bv : Nat → Bool) (ha : Agr 4 iv0 bv0 iv bv) (hi : rC_inv iv0 bv0 0 iv bv) :
    LfT (sta FI FB kv) rC.os (rC_inv iv0 bv0) (rC_mu iv0 bv0) 0 iv bv (.fin [((.eq (.v 2) (.c 4611686018427387904)), .true), ((.lt (.op .sub (.c 9223372036854775807) (.v 3)) (.v 0)), .false), ((.lt (.v 3) (.c 1)), .false), ((.le (.v 2) (.c 4611686018427387904)), .true), ((.le (.v 1) (.v 0)), .true)] 0 ⟨⟨[], []⟩, [], [], []⟩ [(.ei (.ap 14 (.v 0) (.v 1) (.v 2) (.v 3) (.c 0) (.c 0)) (.c 0)), (.ei (.ap 15 (.v 0) (.v 1) (.v 2) (.v 3) (.c 0) (.c 0)) (.c 0)), (.ei (.ap 16 (.v 0) (.v 1) (.v 2) (.v 3) (.c 0) (.c 0)) (.c 0)), (.ei (.ap 17 (.v 0) (.v 1) (.v 2) (.v 3) (.c 0) (.c 0)) (.c 142))] []) := by
  intro δ hf
  simp only [FT, TP, SB.tp, SI.tv, sta, IB.eval, and_true, wrap_i64, wrap_u64, FI_10, FI_11, FI_12, FI_13, FI_14, FI_15, FI_16, FI_17, FI_18, FI_19, FI_20, FI_21, onOk, nxt, dE, cE, xE] at hf
  have b0 := hin 0 (-9223372036854775808) 9223372036854775807 (by simp [rC, b4, b3])
  have b1 := hin 1 (-9223372036854775808) 9223372036854775807 (by simp [rC, b4, b3])
  have b2 := hin 2 0 18446744073709551615 (by simp [rC, b4, b3])
  have b3 := hin 3 (-9223372036854775808) 9223372036854775807 (by simp [rC, b4, b3])
  have a0 := ha.1 0 (by omega)
  have a1 := ha.1 1 (by omega)
  have a2 := ha.1 2 (by omega)
  have a3 := ha.1 3 (by omega)
  rw [← a0] at b0; rw [← a1] at b1; rw [← a2] at b2; rw [← a3] at b3
  refine ⟨?_, by simp [rC, o1, othT]⟩
  · simp only [ObsT, Ob.Tv, SB.tp, SI.tv, sta, IB.eval, and_true, wrap_i64, wrap_u64, FI_10, FI_11, FI_12, FI_13, FI_14, FI_15, FI_16, FI_17, FI_18, FI_19, FI_20, FI_21, onOk, nxt, dE, cE, xE]
    first | omega | ((repeat' apply And.intro) <;> ((repeat' split) <;> omega))
set_option maxHeartbeats 1000000 in
theorem rC_o0_3 (kv : Nat → Nat) (iv0 : Nat → Int) (bv0 : Nat → Bool) (hin : InB rC.B iv0) (hF : FT (sta FI FB kv iv0 bv0) (dlt dyn0) rC.F) (iv : Nat → Int) (bv : Nat → Bool) (ha : Agr 4 iv0 bv0 iv bv) (hi : rC_inv iv0 bv0 0 iv bv) :
    LfT (sta FI FB kv) rC.os (rC_inv iv0 bv0) (rC_mu iv0 bv0) 0 iv bv (.fin [((.eq (.v 2) (.c 4611686018427387904)), .false), ((.lt (.op .sub (.c 9223372036854775807) (.v 3)) (.v 0)), .false), ((.lt (.v 3) (.c 1)), .false), ((.le (.v 2) (.c 4611686018427387904)), .true), ((.le (.v 1) (.v 0)), .true)] 0 ⟨⟨[], []⟩, [], [], []⟩ [(.ei (.ap 14 (.v 0) (.v 1) (.v 2) (.v 3) (.c 0) (.c 0)) (.wk .i64 (.op .add (.v 0) (.v 3)))), (.ei (.ap 15 (.v 0) (.v 1) (.v 2) (.v 3) (.c 0) (.c 0)) (.v 1)), (.ei (.ap 16 (.v 0) (.v 1) (.v 2) (.v 3) (.c 0) (.c 0)) (.op .add (.v 2) (.c 1))), (.ei (.ap 17 (.v 0) (.v 1) (.v 2) (.v 3) (.c 0) (.c 0)) (.c 0))] []) := by
  intro δ hf
  simp only [FT, TP, SB.tp, SI.tv, sta, IB.eval, and_true, wrap_i64, wrap_u64, FI_10, FI_11, FI_12, FI_13, FI_14, FI_15, FI_16, FI_17, FI_18, FI_19, FI_20, FI_21, onOk, nxt, dE, cE, xE] at hf
  have b0 := hin 0 (-9223372036854775808) 9223372036854775807 (by simp [rC, b4, b3])
  have b1 := hin 1 (-9223372036854775808) 9223372036854775807 (by simp [rC, b4, b3])
  have b2 := hin 2 0 18446744073709551615 (by simp [rC, b4, b3])
  have b3 := hin 3 (-9223372036854775808) 9223372036854775807 (by simp [rC, b4, b3])
  have a0 := ha.1 0 (by omega)
  have a1 := ha.1 1 (by omega)
  have a2 := ha.1 2 (by omega)
  have a3 := ha.1 3 (by omega)
  rw [← a0] at b0; rw [← a1] at b1; rw [← a2] at b2; rw [← a3] at b3
  refine ⟨?_, by simp [rC, o1, othT]⟩
  · simp only [ObsT, Ob.Tv, SB.tp, SI.tv, sta, IB.eval, and_true, wrap_i64, wrap_u64, FI_10, FI_11, FI_12, FI_13, FI_14, FI_15, FI_16, FI_17, FI_18, FI_19, FI_20, FI_21, onOk, nxt, dE, cE, xE]
    first | omega | ((repeat' apply And.intro) <;> ((repeat' split) <;> omega))
set_option maxHeartbeats 1000000 in
theorem rC_o0_4 (kv : Nat → Nat) (iv0 : Nat → Int) (bv0 : Nat → Bool) (hin : InB rC.B iv0) (hF : FT (sta FI FB kv iv0 bv0) (dlt dyn0) rC.F) (iv : Nat → Int) (bv : Nat → Bool) (ha : Agr 4 iv0 bv0 iv bv) (hi : rC_inv iv0 bv0 0 iv bv) :
    LfT (sta FI FB kv) rC.os (rC_inv iv0 bv0) (rC_mu iv0 bv0) 0 iv bv (.fin [((.le (.v 2) (.c 4611686018427387904)), .false), ((.le (.v 1) (.v 0)), .true)] 0 ⟨⟨[], []⟩, [], [], []⟩ [(.ei (.ap 14 (.v 0) (.v 1) (.v 2) (.v 3) (.c 0) (.c 0)) (.c 0)), (.ei (.ap 15 (.v 0) (.v 1) (.v 2) (.v 3) (.c 0) (.c 0)) (.c 0)), (.ei (.ap 16 (.v 0) (.v 1) (.v 2) (.v 3) (.c 0) (.c 0)) (.c 0)), (.ei (.ap 17 (.v 0) (.v 1) (.v 2) (.v 3) (.c 0) (.c 0)) (.c 2))] []) := by
  intro δ hf
  simp only [FT, TP, SB.tp, SI.tv, sta, IB.eval, and_true, wrap_i64, wrap_u64, FI_10, FI_11, FI_12, FI_13, FI_14, FI_15, FI_16, FI_17, FI_18, FI_19, FI_20, FI_21, onOk, nxt, dE, cE, xE] at hf
  have b0 := hin 0 (-9223372036854775808) 9223372036854775807 (by simp [rC, b4, b3])
  have b1 := hin 1 (-9223372036854775808) 9223372036854775807 (by simp [rC, b4, b3])
  have b2 := hin 2 0 18446744073709551615 (by simp [rC, b4, b3])
  have b3 := hin 3 (-9223372036854775808) 9223372036854775807 (by simp [rC, b4, b3])
  have a0 := ha.1 0 (by omega)
  have a1 := ha.1 1 (by omega)
  have a2 := ha.1 2 (by omega)
  have a3 := ha.1 3 (by omega)
  rw [← a0] at b0; rw [← a1] at b1; rw [← a2] at b2; rw [← a3] at b3
  refine ⟨?_, by simp [rC, o1, othT]⟩
  · simp only [ObsT, Ob.Tv, SB.tp, SI.tv, sta, IB.eval, and_true, wrap_i64, wrap_u64, FI_10, FI_11, FI_12, FI_13, FI_14, FI_15, FI_16, FI_17, FI_18, FI_19, FI_20, FI_21, onOk, nxt, dE, cE, xE]
    first | omega | ((repeat' apply And.intro) <;> ((repeat' split) <;> omega))
set_option maxHeartbeats 1000000 in
theorem rC_o0_5 (kv : Nat → Nat) (iv0 : Nat → Int) (bv0 : Nat → Bool) (hin : InB rC.B iv0) (hF : FT (sta FI FB kv iv0 bv0) (dlt dyn0) rC.F) (iv : Nat → Int) (bv : Nat → Bool) (ha : Agr 4 iv0 bv0 iv bv) (hi : rC_inv iv0 bv0 0 iv bv) :
    LfT (sta FI FB kv) rC.os (rC_inv iv0 bv0) (rC_mu iv0 bv0) 0 iv bv (.fin [((.le (.v 1) (.v 0)), .false)] 0 ⟨⟨[], []⟩, [], [], []⟩ [(.ei (.ap 14 (.v 0) (.v 1) (.v 2) (.v 3) (.c 0) (.c 0)) (.c 0)), (.ei (.ap 15 (.v 0) (.v 1) (.v 2) (.v 3) (.c 0) (.c 0)) (.c 0)), (.ei (.ap 16 (.v 0) (.v 1) (.v 2) (.v 3) (.c 0) (.c 0)) (.c 0)), (.ei (.ap 17 (.v 0) (.v 1) (.v 2) (.v 3) (.c 0) (.c 0)) (.c 2))] []) := by
  intro δ hf
  simp only [FT, TP, SB.tp, SI.tv, sta, IB.eval, and_true, wrap_i64, wrap_u64, FI_10, FI_11, FI_12, FI_13, FI_14, FI_15, FI_16, FI_17, FI_18, FI_19, FI_20, FI_21, onOk, nxt, dE, cE, xE] at hf
  have b0 := hin 0 (-9223372036854775808) 9223372036854775807 (by simp [rC, b4, b3])
  have b1 := hin 1 (-9223372036854775808) 9223372036854775807 (by simp [rC, b4, b3])
  have b2 := hin 2 0 18446744073709551615 (by simp [rC, b4, b3])
  have b3 := hin 3 (-9223372036854775808) 9223372036854775807 (by simp [rC, b4, b3])
  have a0 := ha.1 0 (by omega)
  have a1 := ha.1 1 (by omega)
  have a2 := ha.1 2 (by omega)
  have a3 := ha.1 3 (by omega)
  rw [← a0] at b0; rw [← a1] at b1; rw [← a2] at b2; rw [← a3] at b3
  refine ⟨?_, by simp [rC, o1, othT]⟩
  · simp only [ObsT, Ob.Tv, SB.tp, SI.tv, sta, IB.eval, and_true, wrap_i64, wrap_u64, FI_10, FI_11, FI_12, FI_13, FI_14, FI_15, FI_16, FI_17, FI_18, FI_19, FI_20, FI_21, onOk, nxt, dE, cE, xE]
    first | omega | ((repeat' apply And.intro) <;> ((repeat' split) <;> omega))
set_option maxRecDepth 100000 in
theorem rC_c : LsC ((tm0 rC Try.f12 (Try.f12.body.getD .skip)) :: []) rC.os [rC_L0] := by
  unfold rC_L0
  exact ⟨List.forall_mem_cons.2 ⟨⟨⟨_, rfl, rfl⟩, by kernel_rfl⟩, List.forall_mem_cons.2 ⟨⟨⟨_, rfl, rfl⟩, by kernel_rfl⟩, List.forall_mem_cons.2 ⟨⟨⟨_, rfl, rfl⟩, by kernel_rfl⟩, List.forall_mem_cons.2 ⟨⟨⟨_, rfl, rfl⟩, by kernel_rfl⟩, List.forall_mem_cons.2 ⟨⟨⟨_, rfl, rfl⟩, by kernel_rfl⟩, List.forall_mem_cons.2 ⟨⟨⟨_, rfl, rfl⟩, by kernel_rfl⟩, List.forall_mem_nil _⟩⟩⟩⟩⟩⟩, trivial⟩
theorem rC_ok : rC.Ok Try.prog FI FB :=
  Con.of_plain (body := Try.f12.body.getD .skip) pok fiok EntsFor.nil rC Try.func12 (by kernel_rfl) 4 [] (by kernel_rfl) [rC_L0] ⟨rC_h0, trivial⟩ rC_c
    rC_inv rC_mu (fun _ _ _ => trivial) fun kv iv0 bv0 hin hF k l iv bv hk ha hi => match k, hk, hi with
    | 0, hk, hi => by
      cases hk
      exact List.forall_mem_cons.2 ⟨rC_o0_0 kv iv0 bv0 hin hF iv bv ha hi, List.forall_mem_cons.2 ⟨rC_o0_1 kv iv0 bv0 hin hF iv bv ha hi, List.forall_mem_cons.2 ⟨rC_o0_2 kv iv0 bv0 hin hF iv bv ha hi, List.forall_mem_cons.2 ⟨rC_o0_3 kv iv0 bv0 hin hF iv bv ha hi, List.forall_mem_cons.2 ⟨rC_o0_4 kv iv0 bv0 hin hF iv bv ha hi, List.forall_mem_cons.2 ⟨rC_o0_5 kv iv0 bv0 hin hF iv bv ha hi, List.forall_mem_nil _⟩⟩⟩⟩⟩⟩
    | k + 1, hk, _ => by simp at hk
noncomputable def eX_L0 : List Lf :=
  [(.fin [((.lt (.c 0) (.v 3)), .true)] 0 ⟨⟨[], []⟩, [], [], []⟩ [(.ei (.ap 18 (.v 0) (.v 1) (.v 2) (.v 3) (.c 0) (.c 0)) (.ap 14 (.v 0) (.v 1) (.v 2) (.v 3) (.c 0) (.c 0))), (.ei (.ap 19 (.v 0) (.v 1) (.v 2) (.v 3) (.c 0) (.c 0)) (.ap 15 (.v 0) (.v 1) (.v 2) (.v 3) (.c 0) (.c 0))), (.ei (.ap 20 (.v 0) (.v 1) (.v 2) (.v 3) (.c 0) (.c 0)) (.ap 16 (.v 0) (.v 1) (.v 2) (.v 3) (.c 0) (.c 0))), (.ei (.ap 21 (.v 0) (.v 1) (.v 2) (.v 3) (.c 0) (.c 0)) (.ap 17 (.v 0) (.v 1) (.v 2) (.v 3) (.c 0) (.c 0)))] []), (.fin [((.lt (.wk .u64 (.op .sub (.wk .u64 (.v 0)) (.wk .u64 (.v 1)))) (.wk .u64 (.op .sub (.c 0) (.wk .u64 (.v 3))))), .true), ((.lt (.v 3) (.c 0)), .true), ((.le (.v 2) (.c 4611686018427387904)), .true), ((.le (.v 1) (.v 0)), .true), ((.lt (.c 0) (.v 3)), .false)] 0 ⟨⟨[], []⟩, [], [], []⟩ [(.ei (.ap 18 (.v 0) (.v 1) (.v 2) (.v 3) (.c 0) (.c 0)) (.c 0)), (.ei (.ap 19 (.v 0) (.v 1) (.v 2) (.v 3) (.c 0) (.c 0)) (.c 0)), (.ei (.ap 20 (.v 0) (.v 1) (.v 2) (.v 3) (.c 0) (.c 0)) (.c 0)), (.ei (.ap 21 (.v 0) (.v 1) (.v 2) (.v 3) (.c 0) (.c 0)) (.c 140))] []), (.fin [((.le (.c 4611686018427387904) (.v 2)), .true), ((.lt (.wk .u64 (.op .sub (.wk .u64 (.v 0)) (.wk .u64 (.v 1)))) (.wk .u64 (.op .sub (.c 0) (.wk .u64 (.v 3))))), .false), ((.lt (.v 3) (.c 0)), .true), ((.le (.v 2) (.c 4611686018427387904)), .true), ((.le (.v 1) (.v 0)), .true), ((.lt (.c 0) (.v 3)), .false)] 0 ⟨⟨[], []⟩, [], [], []⟩ [(.ei (.ap 18 (.v 0) (.v 1) (.v 2) (.v 3) (.c 0) (.c 0)) (.c 0)), (.ei (.ap 19 (.v 0) (.v 1) (.v 2) (.v 3) (.c 0) (.c 0)) (.c 0)), (.ei (.ap 20 (.v 0) (.v 1) (.v 2) (.v 3) (.c 0) (.c 0)) (.c 0)), (.ei (.ap 21 (.v 0) (.v 1) (.v 2) (.v 3) (.c 0) (.c 0)) (.c 142))] []), (.fin [((.le (.c 4611686018427387904) (.v 2)), .false), ((.lt (.wk .u64 (.op .sub (.wk .u64 (.v 0)) (.wk .u64 (.v 1)))) (.wk .u64 (.op .sub (.c 0) (.wk .u64 (.v 3))))), .false), ((.lt (.v 3) (.c 0)), .true), ((.le (.v 2) (.c 4611686018427387904)), .true), ((.le (.v 1) (.v 0)), .true), ((.lt (.c 0) (.v 3)), .false)] 0 ⟨⟨[], []⟩, [], [], []⟩ [(.ei (.ap 18 (.v 0) (.v 1) (.v 2) (.v 3) (.c 0) (.c 0)) (.wk .i64 (.wk .u64 (.op .sub (.wk .u64 (.v 0)) (.wk .u64 (.op .sub (.c 0) (.wk .u64 (.v 3)))))))), (.ei (.ap 19 (.v 0) (.v 1) (.v 2) (.v 3) (.c 0) (.c 0)) (.v 1)), (.ei (.ap 20 (.v 0) (.v 1) (.v 2) (.v 3) (.c 0) (.c 0)) (.op .add (.v 2) (.c 1))), (.ei (.ap 21 (.v 0) (.v 1) (.v 2) (.v 3) (.c 0) (.c 0)) (.c 0))] []), (.fin [((.lt (.v 3) (.c 0)), .false), ((.le (.v 2) (.c 4611686018427387904)), .true), ((.le (.v 1) (.v 0)), .true), ((.lt (.c 0) (.v 3)), .false)] 0 ⟨⟨[], []⟩, [], [], []⟩ [(.ei (.ap 18 (.v 0) (.v 1) (.v 2) (.v 3) (.c 0) (.c 0)) (.c 0)), (.ei (.ap 19 (.v 0) (.v 1) (.v 2) (.v 3) (.c 0) (.c 0)) (.c 0)), (.ei (.ap 20 (.v 0) (.v 1) (.v 2) (.v 3) (.c 0) (.c 0)) (.c 0)), (.ei (.ap 21 (.v 0) (.v 1) (.v 2) (.v 3) (.c 0) (.c 0)) (.c 2))] []), (.fin [((.le (.v 2) (.c 4611686018427387904)), .false), ((.le (.v 1) (.v 0)), .true), ((.lt (.c 0) (.v 3)), .false)] 0 ⟨⟨[], []⟩, [], [], []⟩ [(.ei (.ap 18 (.v 0) (.v 1) (.v 2) (.v 3) (.c 0) (.c 0)) (.c 0)), (.ei (.ap 19 (.v 0) (.v 1) (.v 2) (.v 3) (.c 0) (.c 0)) (.c 0)), (.ei (.ap 20 (.v 0) (.v 1) (.v 2) (.v 3) (.c 0) (.c 0)) (.c 0)), (.ei (.ap 21 (.v 0) (.v 1) (.v 2) (.v 3) (.c 0) (.c 0)) (.c 2))] []), (.fin [((.le (.v 1) (.v 0)), .false), ((.lt (.c 0) (.v 3)), .false)] 0 ⟨⟨[], []⟩, [], [], []⟩ [(.ei (.ap 18 (.v 0) (.v 1) (.v 2) (.v 3) (.c 0) (.c 0)) (.c 0)), (.ei (.ap 19 (.v 0) (.v 1) (.v 2) (.v 3) (.c 0) (.c 0)) (.c 0)), (.ei (.ap 20 (.v 0) (.v 1) (.v 2) (.v 3) (.c 0) (.c 0)) (.c 0)), (.ei (.ap 21 (.v 0) (.v 1) (.v 2) (.v 3) (.c 0) (.c 0)) (.c 2))] [])]
set_option maxRecDepth 100000 in
theorem eX_h0 : (ex (ccOf Try.prog BF [24] eX) ((fun cc => [eC.ent cc]) (ccOf Try.prog BF [24] eX)) (dw (ccOf Try.prog BF [24] eX) ((fun cc => [eC.ent cc]) (ccOf Try.prog BF [24] eX)) 1000 4) (stopL []) 4000 (tm0 eX Try.f10 (Try.f10.body.getD .skip)).f (tm0 eX Try.f10 (Try.f10.body.getD .skip)).fs (tm0 eX Try.f10 (Try.f10.body.getD .skip)).H).lfs (ccOf Try.prog BF [24] eX) ((tm0 eX Try.f10 (Try.f10.body.getD .skip)) :: []) eX.os = some eX_L0 := by kernel_rfl
def eX_inv : (Nat → Int) → (Nat → Bool) → Nat → (Nat → Int) → (Nat → Bool) → Prop := fun _ _ _ _ _ => True
def eX_mu : (Nat → Int) → (Nat → Bool) → Nat → (Nat → Int) → (Nat → Bool) → Nat := fun _ _ _ _ _ => 0
set_option maxHeartbeats 1000000 in
theorem eX_o0_0 (kv : Nat → Nat) (iv0 : Nat → Int) (bv0 : Nat → Bool) (hin : InB eX.B iv0) (hF : FT (sta FI FB kv iv0 bv0) (dlt dyn0) eX.F) (iv : Nat → Int) (bv : Nat → Bool) (ha : Agr 4 iv0 bv0 iv bv) (hi : eX_inv iv0 bv0 0 iv bv) :
    LfT (sta FI FB kv) eX.os (eX_inv iv0 bv0) (eX_mu iv0 bv0) 0 iv bv (.fin [((.lt (.c 0) (.v 3)), .true)] 0 ⟨⟨[], []⟩, [], [], []⟩ [(.ei (.ap 18 (.v 0) (.v 1) (.v 2) (.v 3) (.c 0) (.c 0)) (.ap 14 (.v 0) (.v 1) (.v 2) (.v 3) (.c 0) (.c 0))), (.ei (.ap 19 (.v 0) (.v 1) (.v 2) (.v 3) (.c 0) (.c 0)) (.ap 15 (.v 0) (.v 1) (.v 2) (.v 3) (.c 0) (.c 0))), (.ei (.ap 20 (.v 0) (.v 1) (.v 2) (.v 3) (.c 0) (.c 0)) (.ap 16 (.v 0) (.v 1) (.v 2) (.v 3) (.c 0) (.c 0))), (.ei (.ap 21 (.v 0) (.v 1) (.v 2) (.v 3) (.c 0) (.c 0)) (.ap 17 (.v 0) (.v 1) (.v 2) (.v 3) (.c 0) (.c 0)))] []) := by
  intro δ hf
  simp only [FT, TP, SB.tp, SI.tv, sta, IB.eval, and_true, wrap_i64, wrap_u64, FI_10, FI_11, FI_12, FI_13, FI_14, FI_15, FI_16, FI_17, FI_18, FI_19, FI_20, FI_21, onOk, nxt, dE, cE, xE] at hf
  have b0 := hin 0 (-9223372036854775808) 9223372036854775807 (by simp [eX, b4, b3])
  have b1 := hin 1 (-9223372036854775808) 9223372036854775807 (by simp [eX, b4, b3])
  have b2 := hin 2 0 18446744073709551615 (by simp [eX, b4, b3])
  have b3 := hin 3 (-9223372036854775808) 9223372036854775807 (by simp [eX, b4, b3])
  have a0 := ha.1 0 (by omega)
  have a1 := ha.1 1 (by omega)
  have a2 := ha.1 2 (by omega)
  have a3 := ha.1 3 (by omega)
  rw [← a0] at b0; rw [← a1] at b1; rw [← a2] at b2; rw [← a3] at b3
  refine ⟨?_, by simp [eX, o1, othT]⟩
  · simp only [ObsT, Ob.Tv, SB.tp, SI.tv, sta, IB.eval, and_true, wrap_i64, wrap_u64, FI_10, FI_11, FI_12, FI_13, FI_14, FI_15, FI_16, FI_17, FI_18, FI_19, FI_20, FI_21, onOk, nxt, dE, cE, xE]
    first | omega | ((repeat' apply And.intro) <;> ((repeat' split) <;> omega))
set_option maxHeartbeats 1000000 in
theorem eX_o0_1 (kv : Nat → Nat) (iv0 : Nat → Int) (bv0 : Nat → Bool) (hin : InB eX.B iv0) (hF : FT (sta FI FB kv iv0 bv0) (dlt dyn0) eX.F) (iv : Nat → Int) (bv : Nat → Bool) (ha : Agr 4 iv0 bv0 iv bv) (hi : eX_inv iv0 bv0 0 iv bv) :
    LfT (sta FI FB kv) eX.os (eX_inv iv0 bv0) (eX_mu iv0 bv0) 0 iv bv (.fin [((.lt (.wk .u64 (.op .sub (.wk .u64 (.v 0)) (.wk .u64 (.v 1)))) (.wk .u64 (.op .sub (.c 0) (.wk .u64 (.v 3))))), .true), ((.lt (.v 3) (.c 0)), .true), ((.le (.v 2) (.c 4611686018427387904)), .true), ((.le (.v 1) (.v 0)), .true), ((.lt (.c 0) (.v 3)), .false)] 0 ⟨⟨[], []⟩, [], [], []⟩ [(.ei (.ap 18 (.v 0) (.v 1) (.v 2) (.v 3) (.c 0) (.c 0)) (.c 0)), (.ei (.ap 19 (.v 0) (.v 1) (.v 2) (.v 3) (.c 0) (.c 0)) (.c 0)), (.ei (.ap 20 (.v 0) (.v 1) (.v 2) (.v 3) (.c 0) (.c 0)) (.c 0)), (.ei (.ap 21 (.v 0) (.v 1) (.v 2) (.v 3) (.c 0) (.c 0)) (.c 140))] []) := by
  intro δ hf
  simp only [FT, TP, SB.tp, SI.tv, sta, IB.eval, and_true, wrap_i64, wrap_u64, FI_10, FI_11, FI_12, FI_13, FI_14, FI_15, FI_16, FI_17, FI_18, FI_19, FI_20, FI_21, onOk, nxt, dE, cE, xE] at hf
  have b0 := hin 0 (-9223372036854775808) 9223372036854775807 (by simp [eX, b4, b3])
  have b1 := hin 1 (-9223372036854775808) 9223372036854775807 (by simp [eX, b4, b3])
  have b2 := hin 2 0 18446744073709551615 (by simp [eX, b4, b3])
  have b3 := hin 3 (-9223372036854775808) 9223372036854775807 (by simp [eX, b4, b3])
  have a0 := ha.1 0 (by omega)
  have a1 := ha.1 1 (by omega)
  have a2 := ha.1 2 (by omega)
  have a3 := ha.1 3 (by omega)
  rw [← a0] at b0; rw [← a1] at b1; rw [← a2] at b2; rw [← a3] at b3
  refine ⟨?_, by simp [eX, o1, othT]⟩
  · simp only [ObsT, Ob.Tv, SB.tp, SI.tv, sta, IB.eval, and_true, wrap_i64, wrap_u64, FI_10, FI_11, FI_12, FI_13, FI_14, FI_15, FI_16, FI_17, FI_18, FI_19, FI_20, FI_21, onOk, nxt, dE, cE, xE]
    first | omega | ((repeat' apply And.intro) <;> ((repeat' split) <;> omega))
set_option maxHeartbeats 1000000 in
theorem eX_o0_2 (kv : Nat → Nat) (iv0 : Nat → Int) (bv0 : Nat → Bool) (hin : InB eX.B iv0) (hF : FT (sta FI FB kv iv0 bv0) (dlt dyn0) eX.F) (iv : Nat → Int) (bv : Nat → Bool) (ha : Agr 4 iv0 bv0 iv bv) (hi : eX_inv iv0 bv0 0 iv bv) :
    LfT (sta FI FB kv) eX.os (eX_inv iv0 bv0) (eX_mu iv0 bv0) 0 iv bv (.fin [((.le (.c 4611686018427387904) (.v 2)), .true), ((.lt (.wk .u64 (.op .sub (.wk .u64 (.v 0)) (.wk .u64 (.v 1)))) (.wk .u64 (.op .sub (.c 0) (.wk .u64 (.v 3))))), .false), ((.lt (.v 3) (.c 0)), .true), ((.le (.v 2) (.c 4611686018427387904)), .true), ((.le (.v 1) (.v 0)), .true), ((.lt (.c 0) (.v 3)), .false)] 0 ⟨⟨[], []⟩, [], [], []⟩ [(.ei (.ap 18 (.v 0) (.v 1) (.v 2) (.v 3) (.c 0) (.c 0)) (.c 0)), (.ei (.ap 19 (.v 0) (.v 1) (.v 2) (.v 3) (.c 0) (.c 0)) (.c 0)), (.ei (.ap 20 (.v 0) (.v 1) (.v 2) (.v 3) (.c 0) (.c 0)) (.c 0)), (.ei (.ap 21 (.v 0) (.v 1) (.v 2) (.v 3) (.c 0) (.c 0)) (.c 142))] []) := by
  intro δ hf
  simp only [FT, TP, SB.tp, SI.tv, sta, IB.eval, and_true, wrap_i64, wrap_u64, FI_10, FI_11, FI_12, FI_13, FI_14, FI_15, FI_16, FI_17, FI_18, FI_19, FI_20, FI_21, onOk, nxt, dE, cE, xE] at hf
  have b0 := hin 0 (-9223372036854775808) 9223372036854775807 (by simp [eX, b4, b3])
  have b1 := hin 1 (-9223372036854775808) 9223372036854775807 (by simp [eX, b4, b3])
  have b2 := hin 2 0 18446744073709551615 (by simp [eX, b4, b3])
  have b3 := hin 3 (-9223372036854775808) 9223372036854775807 (by simp [eX, b4, b3])
  have a0 := ha.1 0 (by omega)
  have a1 := ha.1 1 (by omega)
  have a2 := ha.1 2 (by omega)
  have a3 := ha.1 3 (by omega)
  rw [← a0] at b0; rw [← a1] at b1; rw [← a2] at b2; rw [← a3] at b3
  refine ⟨?_, by simp [eX, o1, othT]⟩
  · simp only [ObsT, Ob.Tv, SB.tp, SI.tv, sta, IB.eval, and_true, wrap_i64, wrap_u64, FI_10, FI_11, FI_12, FI_13, FI_14, FI_15, FI_16, FI_17, FI_18, FI_19, FI_20, FI_21, onOk, nxt, dE, cE, xE]
    first | omega | ((repeat' apply And.intro) <;> ((repeat' split) <;> omega))
set_option maxHeartbeats 1000000 in
theorem eX_o0_3 (kv : Nat → Nat) (iv0 : Nat → Int) (bv0 : Nat → Bool) (hin : InB eX.B iv0) (hF : FT (sta FI FB kv iv0 bv0) (dlt dyn0) eX.F) (iv : Nat → Int) (bv : Nat → Bool) (ha : Agr 4 iv0 bv0 iv bv) (hi : eX_inv iv0 bv0 0 iv bv) :
    LfT (sta FI FB kv) eX.os (eX_inv iv0 bv0) (eX_mu iv0 bv0) 0 iv bv (.fin [((.le (.c 4611686018427387904) (.v 2)), .false), ((.lt (.wk .u64 (.op .sub (.wk .u64 (.v 0)) (.wk .u64 (.v 1)))) (.wk .u64 (.op .sub (.c 0) (.wk .u64 (.v 3))))), .false), ((.lt (.v 3) (.c 0)), .true), ((.le (.v 2) (.c 4611686018427387904)), .true), ((.le (.v 1) (.v 0)), .true), ((.lt (.c 0) (.v 3)), .false)] 0 ⟨⟨[], []⟩, [], [], []⟩ [(.ei (.ap 18 (.v 0) (.v 1) (.v 2) (.v 3) (.c 0) (.c 0)) (.wk .i64 (.wk .u64 (.op .sub (.wk .u64 (.v 0)) (.wk .u64 (.op .sub (.c 0) (.wk .u64 (.v 3)))))))), (.ei (.ap 19 (.v 0) (.v 1) (.v 2) (.v 3) (.c 0) (.c 0)) (.v 1)), (.ei (.ap 20 (.v 0) (.v 1) (.v 2) (.v 3) (.c 0) (.c 0)) (.op .add (.v 2) (.c 1))), (.ei (.ap 21 (.v 0) (.v 1) (.v 2) (.v 3) (.c 0) (.c 0)) (.c 0))] []) := by
  intro δ hf
  simp only [FT, TP, SB.tp, SI.tv, sta, IB.eval, and_true, wrap_i64, wrap_u64, FI_10, FI_11, FI_12, FI_13, FI_14, FI_15, FI_16, FI_17, FI_18, FI_19, FI_20, FI_21, onOk, nxt, dE, cE, xE] at hf
  have b0 := hin 0 (-9223372036854775808) 9223372036854775807 (by simp [eX, b4, b3])
  have b1 := hin 1 (-9223372036854775808) 9223372036854775807 (by simp [eX, b4, b3])
  have b2 := hin 2 0 18446744073709551615 (by simp [eX, b4, b3])
  have b3 := hin 3 (-9223372036854775808) 9223372036854775807 (by simp [eX, b4, b3])
  have a0 := ha.1 0 (by omega)
  have a1 := ha.1 1 (by omega)
  have a2 := ha.1 2 (by omega)
  have a3 := ha.1 3 (by omega)
  rw [← a0] at b0; rw [← a1] at b1; rw [← a2] at b2; rw [← a3] at b3
  refine ⟨?_, by simp [eX, o1, othT]⟩
  · simp only [ObsT, Ob.Tv, SB.tp, SI.tv, sta, IB.eval, and_true, wrap_i64, wrap_u64, FI_10, FI_11, FI_12, FI_13, FI_14, FI_15, FI_16, FI_17, FI_18, FI_19, FI_20, FI_21, onOk, nxt, dE, cE, xE]
    first | omega | ((repeat' apply And.intro) <;> ((repeat' split) <;> omega))
set_option maxHeartbeats 1000000 in
theorem eX_o0_4 (kv : Nat → Nat) (iv0 : Nat → Int) (bv0 : Nat → Bool) (hin : InB eX.B iv0) (hF : FT (sta FI FB kv iv0 bv0) (dlt dyn0) eX.F) (iv : Nat → Int) (bv : Nat → Bool) (ha : Agr 4 iv0 bv0 iv bv) (hi : eX_inv iv0 bv0 0 iv bv) :
    LfT (sta FI FB kv) eX.os (eX_inv iv0 bv0) (eX_mu iv0 bv0) 0 iv bv (.fin [((.lt (.v 3) (.c 0)), .false), ((.le (.v 2) (.c 4611686018427387904)), .true), ((.le (.v 1) (.v 0)), .true), ((.lt (.c 0) (.v 3)), .false)] 0 ⟨⟨[], []⟩, [], [], []⟩ [(.ei (.ap 18 (.v 0) (.v 1) (.v 2) (.v 3) (.c 0) (.c 0)) (.c 0)), (.ei (.ap 19 (.v 0) (.v 1) (.v 2) (.v 3) (.c 0) (.c 0)) (.c 0)), (.ei (.ap 20 (.v 0) (.v 1) (.v 2) (.v 3) (.c 0) (.c 0)) (.c 0)), (.ei (.ap 21 (.v 0) (.v 1) (.v 2) (.v 3) (.c 0) (.c 0)) (.c 2))] []) := by
  intro δ hf
  simp only [FT, TP, SB.tp, SI.tv, sta, IB.eval, and_true, wrap_i64, wrap_u64, FI_10, FI_11, FI_12, FI_13, FI_14, FI_15, FI_16, FI_17, FI_18, FI_19, FI_20, FI_21, onOk, nxt, dE, cE, xE] at hf
  have b0 := hin 0 (-9223372036854775808) 9223372036854775807 (by simp [eX, b4, b3])
  have b1 := hin 1 (-9223372036854775808) 9223372036854775807 (by simp [eX, b4, b3])
  have b2 := hin 2 0 18446744073709551615 (by simp [eX, b4, b3])
  have b3 := hin 3 (-9223372036854775808) 9223372036854775807 (by simp [eX, b4, b3])
  have a0 := ha.1 0 (by omega)
  have a1 := ha.1 1 (by omega)
  have a2 := ha.1 2 (by omega)
  have a3 := ha.1 3 (by omega)
  rw [← a0] at b0; rw [← a1] at b1; rw [← a2] at b2; rw [← a3] at b3
  refine ⟨?_, by simp [eX, o1, othT]⟩
  · simp only [ObsT, Ob.Tv, SB.tp, SI.tv, sta, IB.eval, and_true, wrap_i64, wrap_u64, FI_10, FI_11, FI_12, FI_13, FI_14, FI_15, FI_16, FI_17, FI_18, FI_19, FI_20, FI_21, onOk, nxt, dE, cE, xE]
    first | omega | ((repeat' apply And.intro) <;> ((repeat' split) <;> omega))
set_option maxHeartbeats 1000000 in
theorem eX_o0_5 (kv : Nat → Nat) (iv0 : Nat → Int) (bv0 : Nat → Bool) (hin : InB eX.B iv0) (hF : FT (sta FI FB kv iv0 bv0) (dlt dyn0) eX.F) (iv : Nat → Int) (bv : Nat → Bool) (ha : Agr 4 iv0 bv0 iv bv) (hi : eX_inv iv0 bv0 0 iv bv) :
    LfT (sta FI FB kv) eX.os (eX_inv iv0 bv0) (eX_mu iv0 bv0) 0 iv bv (.fin [((.le (.v 2) (.c 4611686018427387904)), .false), ((.le (.v 1) (.v 0)), .true), ((.lt (.c 0) (.v 3)), .false)] 0 ⟨⟨[], []⟩, [], [], []⟩ [(.ei (.ap 18 (.v 0) (.v 1) (.v 2) (.v 3) (.c 0) (.c 0)) (.c 0)), (.ei (.ap 19 (.v 0) (.v 1) (.v 2) (.v 3) (.c 0) (.c 0)) (.c 0)), (.ei (.ap 20 (.v 0) (.v 1) (.v 2) (.v 3) (.c 0) (.c 0)) (.c 0)), (.ei (.ap 21 (.v 0) (.v 1) (.v 2) (.v 3) (.c 0) (.c 0)) (.c 2))] []) := by
  intro δ hf
  simp only [FT, TP, SB.tp, SI.tv, sta, IB.eval, and_true, wrap_i64, wrap_u64, FI_10, FI_11, FI_12, FI_13, FI_14, FI_15, FI_16, FI_17, FI_18, FI_19, FI_20, FI_21, onOk, nxt, dE, cE, xE] at hf
  have b0 := hin 0 (-9223372036854775808) 9223372036854775807 (by simp [eX, b4, b3])
  have b1 := hin 1 (-9223372036854775808) 9223372036854775807 (by simp [eX, b4, b3])
  have b2 := hin 2 0 18446744073709551615 (by simp [eX, b4, b3])
  have b3 := hin 3 (-9223372036854775808) 9223372036854775807 (by simp [eX, b4, b3])
  have a0 := ha.1 0 (by omega)
  have a1 := ha.1 1 (by omega)
  have a2 := ha.1 2 (by omega)
  have a3 := ha.1 3 (by omega)
  rw [← a0] at b0; rw [← a1] at b1; rw [← a2] at b2; rw [← a3] at b3
  refine ⟨?_, by simp [eX, o1, othT]⟩
  · simp only [ObsT, Ob.Tv, SB.tp, SI.tv, sta, IB.eval, and_true, wrap_i64, wrap_u64, FI_10, FI_11, FI_12, FI_13, FI_14, FI_15, FI_16, FI_17, FI_18, FI_19, FI_20, FI_21, onOk, nxt, dE, cE, xE]
    first | omega | ((repeat' apply And.intro) <;> ((repeat' split) <;> omega))
set_option maxHeartbeats 1000000 in
theorem eX_o0_6 (kv : Nat → Nat) (iv0 : Nat → Int) (bv0 : Nat → Bool) (hin : InB eX.B iv0) (hF : FT (sta FI FB kv iv0 bv0) (dlt dyn0) eX.F) (iv : Nat → Int) (bv : Nat → Bool) (ha : Agr 4 iv0 bv0 iv bv) (hi : eX_inv iv0 bv0 0 iv bv) :
    LfT (sta FI FB kv) eX.os (eX_inv iv0 bv0) (eX_mu iv0 bv0) 0 iv bv (.fin [((.le (.v 1) (.v 0)), .false), ((.lt (.c 0) (.v 3)), .false)] 0 ⟨⟨[], []⟩, [], [], []⟩ [(.ei (.ap 18 (.v 0) (.v 1) (.v 2) (.v 3) (.c 0) (.c 0)) (.c 0)), (.ei (.ap 19 (.v 0) (.v 1) (.v 2) (.v 3) (.c 0) (.c 0)) (.c 0)), (.ei (.ap 20 (.v 0) (.v 1) (.v 2) (.v 3) (.c 0) (.c 0)) (.c 0)), (.ei (.ap 21 (.v 0) (.v 1) (.v 2) (.v 3) (.c 0) (.c 0)) (.c 2))] []) := by
  intro δ hf
  simp only [FT, TP, SB.tp, SI.tv, sta, IB.eval, and_true, wrap_i64, wrap_u64, FI_10, FI_11, FI_12, FI_13, FI_14, FI_15, FI_16, FI_17, FI_18, FI_19, FI_20, FI_21, onOk, nxt, dE, cE, xE] at hf
  have b0 := hin 0 (-9223372036854775808) 9223372036854775807 (by simp [eX, b4, b3])
  have b1 := hin 1 (-9223372036854775808) 9223372036854775807 (by simp [eX, b4, b3])
  have b2 := hin 2 0 18446744073709551615 (by simp [eX, b4, b3])
  have b3 := hin 3 (-9223372036854775808) 9223372036854775807 (by simp [eX, b4, b3])
  have a0 := ha.1 0 (by omega)
  have a1 := ha.1 1 (by omega)
  have a2 := ha.1 2 (by omega)
  have a3 := ha.1 3 (by omega)
  rw [← a0] at b0; rw [← a1] at b1; rw [← a2] at b2; rw [← a3] at b3
  refine ⟨?_, by simp [eX, o1, othT]⟩
  · simp only [ObsT, Ob.Tv, SB.tp, SI.tv, sta, IB.eval, and_true, wrap_i64, wrap_u64, FI_10, FI_11, FI_12, FI_13, FI_14, FI_15, FI_16, FI_17, FI_18, FI_19, FI_20, FI_21, onOk, nxt, dE, cE, xE]
    first | omega | ((repeat' apply And.intro) <;> ((repeat' split) <;> omega))
set_option maxRecDepth 100000 in
theorem eX_c : LsC ((tm0 eX Try.f10 (Try.f10.body.getD .skip)) :: []) eX.os [eX_L0] := by
  unfold eX_L0
  exact ⟨List.forall_mem_cons.2 ⟨⟨⟨_, rfl, rfl⟩, by kernel_rfl⟩, List.forall_mem_cons.2 ⟨⟨⟨_, rfl, rfl⟩, by kernel_rfl⟩, List.forall_mem_cons.2 ⟨⟨⟨_, rfl, rfl⟩, by kernel_rfl⟩, List.forall_mem_cons.2 ⟨⟨⟨_, rfl, rfl⟩, by kernel_rfl⟩, List.forall_mem_cons.2 ⟨⟨⟨_, rfl, rfl⟩, by kernel_rfl⟩, List.forall_mem_cons.2 ⟨⟨⟨_, rfl, rfl⟩, by kernel_rfl⟩, List.forall_mem_cons.2 ⟨⟨⟨_, rfl, rfl⟩, by kernel_rfl⟩, List.forall_mem_nil _⟩⟩⟩⟩⟩⟩⟩, trivial⟩
theorem eX_ok : eX.Ok Try.prog FI FB :=
  Con.of_plain (body := Try.f10.body.getD .skip) pok fiok (EntsFor.cons eC_ok EntsFor.nil) eX Try.func10 (by kernel_rfl) 4 [] (by kernel_rfl) [eX_L0] ⟨eX_h0, trivial⟩ eX_c
    eX_inv eX_mu (fun _ _ _ => trivial) fun kv iv0 bv0 hin hF k l iv bv hk ha hi => match k, hk, hi with
    | 0, hk, hi => by
      cases hk
      exact List.forall_mem_cons.2 ⟨eX_o0_0 kv iv0 bv0 hin hF iv bv ha hi, List.forall_mem_cons.2 ⟨eX_o0_1 kv iv0 bv0 hin hF iv bv ha hi, List.forall_mem_cons.2 ⟨eX_o0_2 kv iv0 bv0 hin hF iv bv ha hi, List.forall_mem_cons.2 ⟨eX_o0_3 kv iv0 bv0 hin hF iv bv ha hi, List.forall_mem_cons.2 ⟨eX_o0_4 kv iv0 bv0 hin hF iv bv ha hi, List.forall_mem_cons.2 ⟨eX_o0_5 kv iv0 bv0 hin hF iv bv ha hi, List.forall_mem_cons.2 ⟨eX_o0_6 kv iv0 bv0 hin hF iv bv ha hi, List.forall_mem_nil _⟩⟩⟩⟩⟩⟩⟩
    | k + 1, hk, _ => by simp at hk
noncomputable def rX_L0 : List Lf :=
  [(.fin [((.eq (.v 3) (.c 0)), .true), ((.le (.v 2) (.c 4611686018427387904)), .true), ((.le (.v 1) (.v 0)), .true)] 0 ⟨⟨[], []⟩, [], [], []⟩ [(.ei (.ap 18 (.v 0) (.v 1) (.v 2) (.v 3) (.c 0) (.c 0)) (.c 0)), (.ei (.ap 19 (.v 0) (.v 1) (.v 2) (.v 3) (.c 0) (.c 0)) (.c 0)), (.ei (.ap 20 (.v 0) (.v 1) (.v 2) (.v 3) (.c 0) (.c 0)) (.c 0)), (.ei (.ap 21 (.v 0) (.v 1) (.v 2) (.v 3) (.c 0) (.c 0)) (.c 2))] []), (.fin [((.lt (.op .add (.op .add (.v 0) (.op .sub (.c (-1)) (.v 1))) (.c 1)) (.op .add (.op .sub (.c (-1)) (.v 3)) (.c 1))), .true), ((.le (.c 0) (.v 0)), .true), ((.lt (.v 1) (.c 0)), .true), ((.lt (.v 3) (.c 0)), .true), ((.eq (.v 3) (.c 0)), .false), ((.le (.v 2) (.c 4611686018427387904)), .true), ((.le (.v 1) (.v 0)), .true)] 0 ⟨⟨[], []⟩, [], [], []⟩ [(.ei (.ap 18 (.v 0) (.v 1) (.v 2) (.v 3) (.c 0) (.c 0)) (.c 0)), (.ei (.ap 19 (.v 0) (.v 1) (.v 2) (.v 3) (.c 0) (.c 0)) (.c 0)), (.ei (.ap 20 (.v 0) (.v 1) (.v 2) (.v 3) (.c 0) (.c 0)) (.c 0)), (.ei (.ap 21 (.v 0) (.v 1) (.v 2) (.v 3) (.c 0) (.c 0)) (.c 140))] []), (.fin [((.eq (.v 2) (.c 4611686018427387904)), .true), ((.lt (.op .add (.op .add (.v 0) (.op .sub (.c (-1)) (.v 1))) (.c 1)) (.op .add (.op .sub (.c (-1)) (.v 3)) (.c 1))), .false), ((.le (.c 0) (.v 0)), .true), ((.lt (.v 1) (.c 0)), .true), ((.lt (.v 3) (.c 0)), .true), ((.eq (.v 3) (.c 0)), .false), ((.le (.v 2) (.c 4611686018427387904)), .true), ((.le (.v 1) (.v 0)), .true)] 0 ⟨⟨[], []⟩, [], [], []⟩ [(.ei (.ap 18 (.v 0) (.v 1) (.v 2) (.v 3) (.c 0) (.c 0)) (.c 0)), (.ei (.ap 19 (.v 0) (.v 1) (.v 2) (.v 3) (.c 0) (.c 0)) (.c 0)), (.ei (.ap 20 (.v 0) (.v 1) (.v 2) (.v 3) (.c 0) (.c 0)) (.c 0)), (.ei (.ap 21 (.v 0) (.v 1) (.v 2) (.v 3) (.c 0) (.c 0)) (.c 142))] []), (.fin [((.lt (.c 9223372036854775807) (.op .add (.op .sub (.c (-1)) (.v 3)) (.c 1))), .true), ((.eq (.v 2) (.c 4611686018427387904)), .false), ((.lt (.op .add (.op .add (.v 0) (.op .sub (.c (-1)) (.v 1))) (.c 1)) (.op .add (.op .sub (.c (-1)) (.v 3)) (.c 1))), .false), ((.le (.c 0) (.v 0)), .true), ((.lt (.v 1) (.c 0)), .true), ((.lt (.v 3) (.c 0)), .true), ((.eq (.v 3) (.c 0)), .false), ((.le (.v 2) (.c 4611686018427387904)), .true), ((.le (.v 1) (.v 0)), .true)] 0 ⟨⟨[], []⟩, [], [], []⟩ [(.ei (.ap 18 (.v 0) (.v 1) (.v 2) (.v 3) (.c 0) (.c 0)) (.op .sub (.op .add (.v 0) (.c (-9223372036854775807))) (.op .add (.op .sub (.c (-1)) (.v 3)) (.c (-9223372036854775806))))), (.ei (.ap 19 (.v 0) (.v 1) (.v 2) (.v 3) (.c 0) (.c 0)) (.v 1)), (.ei (.ap 20 (.v 0) (.v 1) (.v 2) (.v 3) (.c 0) (.c 0)) (.op .add (.v 2) (.c 1))), (.ei (.ap 21 (.v 0) (.v 1) (.v 2) (.v 3) (.c 0) (.c 0)) (.c 0))] []), (.fin [((.lt (.c 9223372036854775807) (.op .add (.op .sub (.c (-1)) (.v 3)) (.c 1))), .false), ((.eq (.v 2) (.c 4611686018427387904)), .false), ((.lt (.op .add (.op .add (.v 0) (.op .sub (.c (-1)) (.v 1))) (.c 1)) (.op .add (.op .sub (.c (-1)) (.v 3)) (.c 1))), .false), ((.le (.c 0) (.v 0)), .true), ((.lt (.v 1) (.c 0)), .true), ((.lt (.v 3) (.c 0)), .true), ((.eq (.v 3) (.c 0)), .false), ((.le (.v 2) (.c 4611686018427387904)), .true), ((.le (.v 1) (.v 0)), .true)] 0 ⟨⟨[], []⟩, [], [], []⟩ [(.ei (.ap 18 (.v 0) (.v 1) (.v 2) (.v 3) (.c 0) (.c 0)) (.op .sub (.v 0) (.op .add (.op .sub (.c (-1)) (.v 3)) (.c 1)))), (.ei (.ap 19 (.v 0) (.v 1) (.v 2) (.v 3) (.c 0) (.c 0)) (.v 1)), (.ei (.ap 20 (.v 0) (.v 1) (.v 2) (.v 3) (.c 0) (.c 0)) (.op .add (.v 2) (.c 1))), (.ei (.ap 21 (.v 0) (.v 1) (.v 2) (.v 3) (.c 0) (.c 0)) (.c 0))] []), (.fin [((.lt (.wk .u64 (.op .sub (.v 0) (.v 1))) (.op .add (.op .sub (.c (-1)) (.v 3)) (.c 1))), .true), ((.le (.c 0) (.v 0)), .false), ((.lt (.v 1) (.c 0)), .true), ((.lt (.v 3) (.c 0)), .true), ((.eq (.v 3) (.c 0)), .false), ((.le (.v 2) (.c 4611686018427387904)), .true), ((.le (.v 1) (.v 0)), .true)] 0 ⟨⟨[], []⟩, [], [], []⟩ [(.ei (.ap 18 (.v 0) (.v 1) (.v 2) (.v 3) (.c 0) (.c 0)) (.c 0)), (.ei (.ap 19 (.v 0) (.v 1) (.v 2) (.v 3) (.c 0) (.c 0)) (.c 0)), (.ei (.ap 20 (.v 0) (.v 1) (.v 2) (.v 3) (.c 0) (.c 0)) (.c 0)), (.ei (.ap 21 (.v 0) (.v 1) (.v 2) (.v 3) (.c 0) (.c 0)) (.c 140))] []), (.fin [((.eq (.v 2) (.c 4611686018427387904)), .true), ((.lt (.wk .u64 (.op .sub (.v 0) (.v 1))) (.op .add (.op .sub (.c (-1)) (.v 3)) (.c 1))), .false), ((.le (.c 0) (.v 0)), .false), ((.lt (.v 1) (.c 0)), .true), ((.lt (.v 3) (.c 0)), .true), ((.eq (.v 3) (.c 0)), .false), ((.le (.v 2) (.c 4611686018427387904)), .true), ((.le (.v 1) (.v 0)), .true)] 0 ⟨⟨[], []⟩, [], [], []⟩ [(.ei (.ap 18 (.v 0) (.v 1) (.v 2) (.v 3) (.c 0) (.c 0)) (.c 0)), (.ei (.ap 19 (.v 0) (.v 1) (.v 2) (.v 3) (.c 0) (.c 0)) (.c 0)), (.ei (.ap 20 (.v 0) (.v 1) (.v 2) (.v 3) (.c 0) (.c 0)) (.c 0)), (.ei (.ap 21 (.v 0) (.v 1) (.v 2) (.v 3) (.c 0) (.c 0)) (.c 142))] []), (.fin [((.lt (.c 9223372036854775807) (.op .add (.op .sub (.c (-1)) (.v 3)) (.c 1))), .true), ((.eq (.v 2) (.c 4611686018427387904)), .false), ((.lt (.wk .u64 (.op .sub (.v 0) (.v 1))) (.op .add (.op .sub (.c (-1)) (.v 3)) (.c 1))), .false), ((.le (.c 0) (.v 0)), .false), ((.lt (.v 1) (.c 0)), .true), ((.lt (.v 3) (.c 0)), .true), ((.eq (.v 3) (.c 0)), .false), ((.le (.v 2) (.c 4611686018427387904)), .true), ((.le (.v 1) (.v 0)), .true)] 0 ⟨⟨[], []⟩, [], [], []⟩ [(.ei (.ap 18 (.v 0) (.v 1) (.v 2) (.v 3) (.c 0) (.c 0)) (.wk .i64 (.op .sub (.wk .i64 (.op .add (.v 0) (.c (-9223372036854775807)))) (.op .add (.op .sub (.c (-1)) (.v 3)) (.c (-9223372036854775806)))))), (.ei (.ap 19 (.v 0) (.v 1) (.v 2) (.v 3) (.c 0) (.c 0)) (.v 1)), (.ei (.ap 20 (.v 0) (.v 1) (.v 2) (.v 3) (.c 0) (.c 0)) (.op .add (.v 2) (.c 1))), (.ei (.ap 21 (.v 0) (.v 1) (.v 2) (.v 3) (.c 0) (.c 0)) (.c 0))] []), (.fin [((.lt (.c 9223372036854775807) (.op .add (.op .sub (.c (-1)) (.v 3)) (.c 1))), .false), ((.eq (.v 2) (.c 4611686018427387904)), .false), ((.lt (.wk .u64 (.op .sub (.v 0) (.v 1))) (.op .add (.op .sub (.c (-1)) (.v 3)) (.c 1))), .false), ((.le (.c 0) (.v 0)), .false), ((.lt (.v 1) (.c 0)), .true), ((.lt (.v 3) (.c 0)), .true), ((.eq (.v 3) (.c 0)), .false), ((.le (.v 2) (.c 4611686018427387904)), .true), ((.le (.v 1) (.v 0)), .true)] 0 ⟨⟨[], []⟩, [], [], []⟩ [(.ei (.ap 18 (.v 0) (.v 1) (.v 2) (.v 3) (.c 0) (.c 0)) (.wk .i64 (.op .sub (.v 0) (.op .add (.op .sub (.c (-1)) (.v 3)) (.c 1))))), (.ei (.ap 19 (.v 0) (.v 1) (.v 2) (.v 3) (.c 0) (.c 0)) (.v 1)), (.ei (.ap 20 (.v 0) (.v 1) (.v 2) (.v 3) (.c 0) (.c 0)) (.op .add (.v 2) (.c 1))), (.ei (.ap 21 (.v 0) (.v 1) (.v 2) (.v 3) (.c 0) (.c 0)) (.c 0))] []), (.fin [((.lt (.wk .u64 (.wk .i64 (.op .sub (.v 0) (.v 1)))) (.op .add (.op .sub (.c (-1)) (.v 3)) (.c 1))), .true), ((.lt (.v 1) (.c 0)), .false), ((.lt (.v 3) (.c 0)), .true), ((.eq (.v 3) (.c 0)), .false), ((.le (.v 2) (.c 4611686018427387904)), .true), ((.le (.v 1) (.v 0)), .true)] 0 ⟨⟨[], []⟩, [], [], []⟩ [(.ei (.ap 18 (.v 0) (.v 1) (.v 2) (.v 3) (.c 0) (.c 0)) (.c 0)), (.ei (.ap 19 (.v 0) (.v 1) (.v 2) (.v 3) (.c 0) (.c 0)) (.c 0)), (.ei (.ap 20 (.v 0) (.v 1) (.v 2) (.v 3) (.c 0) (.c 0)) (.c 0)), (.ei (.ap 21 (.v 0) (.v 1) (.v 2) (.v 3) (.c 0) (.c 0)) (.c 140))] []), (.fin [((.eq (.v 2) (.c 4611686018427387904)), .true), ((.lt (.wk .u64 (.wk .i64 (.op .sub (.v 0) (.v 1)))) (.op .add (.op .sub (.c (-1)) (.v 3)) (.c 1))), .false), ((.lt (.v 1) (.c 0)), .false), ((.lt (.v 3) (.c 0)), .true), ((.eq (.v 3) (.c 0)), .false), ((.le (.v 2) (.c 4611686018427387904)), .true), ((.le (.v 1) (.v 0)), .true)] 0 ⟨⟨[], []⟩, [], [], []⟩ [(.ei (.ap 18 (.v 0) (.v 1) (.v 2) (.v 3) (.c 0) (.c 0)) (.c 0)), (.ei (.ap 19 (.v 0) (.v 1) (.v 2) (.v 3) (.c 0) (.c 0)) (.c 0)), (.ei (.ap 20 (.v 0) (.v 1) (.v 2) (.v 3) (.c 0) (.c 0)) (.c 0)), (.ei (.ap 21 (.v 0) (.v 1) (.v 2) (.v 3) (.c 0) (.c 0)) (.c 142))] []), (.fin [((.lt (.c 9223372036854775807) (.op .add (.op .sub (.c (-1)) (.v 3)) (.c 1))), .true), ((.eq (.v 2) (.c 4611686018427387904)), .false), ((.lt (.wk .u64 (.wk .i64 (.op .sub (.v 0) (.v 1)))) (.op .add (.op .sub (.c (-1)) (.v 3)) (.c 1))), .false), ((.lt (.v 1) (.c 0)), .false), ((.lt (.v 3) (.c 0)), .true), ((.eq (.v 3) (.c 0)), .false), ((.le (.v 2) (.c 4611686018427387904)), .true), ((.le (.v 1) (.v 0)), .true)] 0 ⟨⟨[], []⟩, [], [], []⟩ [(.ei (.ap 18 (.v 0) (.v 1) (.v 2) (.v 3) (.c 0) (.c 0)) (.wk .i64 (.op .sub (.wk .i64 (.op .add (.v 0) (.c (-9223372036854775807)))) (.op .add (.op .sub (.c (-1)) (.v 3)) (.c (-9223372036854775806)))))), (.ei (.ap 19 (.v 0) (.v 1) (.v 2) (.v 3) (.c 0) (.c 0)) (.v 1)), (.ei (.ap 20 (.v 0) (.v 1) (.v 2) (.v 3) (.c 0) (.c 0)) (.op .add (.v 2) (.c 1))), (.ei (.ap 21 (.v 0) (.v 1) (.v 2) (.v 3) (.c 0) (.c 0)) (.c 0))] []), (.fin [((.lt (.c 9223372036854775807) (.op .add (.op .sub (.c (-1)) (.v 3)) (.c 1))), .false), ((.eq (.v 2) (.c 4611686018427387904)), .false), ((.lt (.wk .u64 (.wk .i64 (.op .sub (.v 0) (.v 1)))) (.op .add (.op .sub (.c (-1)) (.v 3)) (.c 1))), .false), ((.lt (.v 1) (.c 0)), .false), ((.lt (.v 3) (.c 0)), .true), ((.eq (.v 3) (.c 0)), .false), ((.le (.v 2) (.c 4611686018427387904)), .true), ((.le (.v 1) (.v 0)), .true)] 0 ⟨⟨[], []⟩, [], [], []⟩ [(.ei (.ap 18 (.v 0) (.v 1) (.v 2) (.v 3) (.c 0) (.c 0)) (.wk .i64 (.op .sub (.v 0) (.op .add (.op .sub (.c (-1)) (.v 3)) (.c 1))))), (.ei (.ap 19 (.v 0) (.v 1) (.v 2) (.v 3) (.c 0) (.c 0)) (.v 1)), (.ei (.ap 20 (.v 0) (.v 1) (.v 2) (.v 3) (.c 0) (.c 0)) (.op .add (.v 2) (.c 1))), (.ei (.ap 21 (.v 0) (.v 1) (.v 2) (.v 3) (.c 0) (.c 0)) (.c 0))] []), (.fin [((.lt (.v 3) (.c 0)), .false), ((.eq (.v 3) (.c 0)), .false), ((.le (.v 2) (.c 4611686018427387904)), .true), ((.le (.v 1) (.v 0)), .true)] 0 ⟨⟨[], []⟩, [], [], []⟩ [(.ei (.ap 18 (.v 0) (.v 1) (.v 2) (.v 3) (.c 0) (.c 0)) (.ap 14 (.v 0) (.v 1) (.v 2) (.v 3) (.c 0) (.c 0))), (.ei (.ap 19 (.v 0) (.v 1) (.v 2) (.v 3) (.c 0) (.c 0)) (.ap 15 (.v 0) (.v 1) (.v 2) (.v 3) (.c 0) (.c 0))), (.ei (.ap 20 (.v 0) (.v 1) (.v 2) (.v 3) (.c 0) (.c 0)) (.ap 16 (.v 0) (.v 1) (.v 2) (.v 3) (.c 0) (.c 0))), (.ei (.ap 21 (.v 0) (.v 1) (.v 2) (.v 3) (.c 0) (.c 0)) (.ap 17 (.v 0) (.v 1) (.v 2) (.v 3) (.c 0) (.c 0)))] []), (.fin [((.le (.v 2) (.c 4611686018427387904)), .false), ((.le (.v 1) (.v 0)), .true)] 0 ⟨⟨[], []⟩, [], [], []⟩ [(.ei (.ap 18 (.v 0) (.v 1) (.v 2) (.v 3) (.c 0) (.c 0)) (.c 0)), (.ei (.ap 19 (.v 0) (.v 1) (.v 2) (.v 3) (.c 0) (.c 0)) (.c 0)), (.ei (.ap 20 (.v 0) (.v 1) (.v 2) (.v 3) (.c 0) (.c 0)) (.c 0)), (.ei (.ap 21 (.v 0) (.v 1) (.v 2) (.v 3) (.c 0) (.c 0)) (.c 2))] []), (.fin [((.le (.v 1) (.v 0)), .false)] 0 ⟨⟨[], []⟩, [], [], []⟩ [(.ei (.ap 18 (.v 0) (.v 1) (.v 2) (.v 3) (.c 0) (.c 0)) (.c 0)), (.ei (.ap 19 (.v 0) (.v 1) (.v 2) (.v 3) (.c 0) (.c 0)) (.c 0)), (.ei (.ap 20 (.v 0) (.v 1) (.v 2) (.v 3) (.c 0) (.c 0)) (.c 0)), (.ei (.ap 21 (.v 0) (.v 1) (.v 2) (.v 3) (.c 0) (.c 0)) (.c 2))] [])]
set_option maxRecDepth 100000 in
theorem rX_h0 : (ex (ccOf Try.prog BF [24] rX) ((fun cc => [rC.ent cc]) (ccOf Try.prog BF [24] rX)) (dw (ccOf Try.prog BF [24] rX) ((fun cc => [rC.ent cc]) (ccOf Try.prog BF [24] rX)) 1000 4) (stopL []) 4000 (tm0 rX Try.f13 (Try.f13.body.getD .skip)).f (tm0 rX Try.f13 (Try.f13.body.getD .skip)).fs (tm0 rX Try.f13 (Try.f13.body.getD .skip)).H).lfs (ccOf Try.prog BF [24] rX) ((tm0 rX Try.f13 (Try.f13.body.getD .skip)) :: []) rX.os = some rX_L0 := by kernel_rfl
def rX_inv : (Nat → Int) → (Nat → Bool) → Nat → (Nat → Int) → (Nat → Bool) → Prop := fun _ _ _ _ _ => True
def rX_mu : (Nat → Int) → (Nat → Bool) → Nat → (Nat → Int) → (Nat → Bool) → Nat := fun _ _ _ _ _ => 0
set_option maxHeartbeats 1000000 in
theorem rX_o0_0 (kv : Nat → Nat) (iv0 : Nat → Int) (bv0 : Nat → Bool) (hin : InB rX.B iv0) (hF : FT (sta FI FB kv iv0 bv0) (dlt dyn0) rX.F) (iv : Nat → Int) (bv : Nat → Bool) (ha : Agr 4 iv0 bv0 iv bv) (hi : rX_inv iv0 bv0 0 iv bv) :
    LfT (sta FI FB kv) rX.os (rX_inv iv0 bv0) (rX_mu iv0 bv0) 0 iv bv (.fin [((.eq (.v 3) (.c 0)), .true), ((.le (.v 2) (.c 4611686018427387904)), .true), ((.le (.v 1) (.v 0)), .true)] 0 ⟨⟨[], []⟩, [], [], []⟩ [(.ei (.ap 18 (.v 0) (.v 1) (.v 2) (.v 3) (.c 0) (.c 0)) (.c 0)), (.ei (.ap 19 (.v 0) (.v 1) (.v 2) (.v 3) (.c 0) (.c 0)) (.c 0)), (.ei (.ap 20 (.v 0) (.v 1) (.v 2) (.v 3) (.c 0) (.c 0)) (.c 0)), (.ei (.ap 21 (.v 0) (.v 1) (.v 2) (.v 3) (.c 0) (.c 0)) (.c 2))] []) := by
  intro δ hf
  simp only [FT, TP, SB.tp, SI.tv, sta, IB.eval, and_true, wrap_i64, wrap_u64, FI_10, FI_11, FI_12, FI_13, FI_14, FI_15, FI_16, FI_17, FI_18, FI_19, FI_20, FI_21, onOk, nxt, dE, cE, xE] at hf
  have b0 := hin 0 (-9223372036854775808) 9223372036854775807 (by simp [rX, b4, b3])
  have b1 := hin 1 (-9223372036854775808) 9223372036854775807 (by simp [rX, b4, b3])
  have b2 := hin 2 0 18446744073709551615 (by simp [rX, b4, b3])
  have b3 := hin 3 (-9223372036854775808) 9223372036854775807 (by simp [rX, b4, b3])
  have a0 := ha.1 0 (by omega)
  have a1 := ha.1 1 (by omega)
  have a2 := ha.1 2 (by omega)
  have a3 := ha.1 3 (by omega)
  rw [← a0] at b0; rw [← a1] at b1; rw [← a2] at b2; rw [← a3] at b3
  refine ⟨?_, by simp [rX, o1, othT]⟩
  · simp only [ObsT, Ob.Tv, SB.tp, SI.tv, sta, IB.eval, and_true, wrap_i64, wrap_u64, FI_10, FI_11, FI_12, FI_13, FI_14, FI_15, FI_16, FI_17, FI_18, FI_19, FI_20, FI_21, onOk, nxt, dE, cE, xE]
    first | omega | ((repeat' apply And.intro) <;> ((repeat' split) <;> omega))
set_option maxHeartbeats 1000000 in
theorem rX_o0_1 (kv : Nat → Nat) (iv0 : Nat → Int) (bv0 : Nat → Bool) (hin : InB rX.B iv0) (hF : FT (sta FI FB kv iv0 bv0) (dlt dyn0) rX.F) (iv : Nat → Int) (bv : Nat → Bool) (ha : Agr 4 iv0 bv0 iv bv) (hi : rX_inv iv0 bv0 0 iv bv) :
    LfT (sta FI FB kv) rX.os (rX_inv iv0 bv0) (rX_mu iv0 bv0) 0 iv bv (.fin [((.lt (.op .add (.op .add (.v 0) (.op .sub (.c (-1)) (.v 1))) (.c 1)) (.op .add (.op .sub (.c (-1)) (.v 3)) (.c 1))), .true), ((.le (.c 0) (.v 0)), .true), ((.lt (.v 1) (.c 0)), .true), ((.lt (.v 3) (.c 0)), .true), ((.eq (.v 3) (.c 0)), .false), ((.le (.v 2) (.c 4611686018427387904)), .true), ((.le (.v 1) (.v 0)), .true)] 0 ⟨⟨[], []⟩, [], [], []⟩ [(.ei (.ap 18 (.v 0) (.v 1) (.v 2) (.v 3) (.c 0) (.c 0)) (.c 0)), (.ei (.ap 19 (.v 0) (.v 1) (.v 2) (.v 3) (.c 0) (.c 0)) (.c 0)), (.ei (.ap 20 (.v 0) (.v 1) (.v 2) (.v 3) (.c 0) (.c 0)) (.c 0)), (.ei (.ap 21 (.v 0) (.v 1) (.v 2) (.v 3) (.c 0) (.c 0)) (.c 140))] []) := by
  intro δ hf
  simp only [FT, TP, SB.tp, SI.tv, sta, IB.eval, and_true, wrap_i64, wrap_u64, FI_10, FI_11, FI_12, FI_13, FI_14, FI_15, FI_16, FI_17, FI_18, FI_19, FI_20, FI_21, onOk, nxt, dE, cE, xE] at hf
  have b0 := hin 0 (-9223372036854775808) 9223372036854775807 (by simp [rX, b4, b3])
  have b1 := hin 1 (-9223372036854775808) 9223372036854775807 (by simp [rX, b4, b3])
  have b2 := hin 2 0 18446744073709551615 (by simp [rX, b4, b3])
  have b3 := hin 3 (-9223372036854775808) 9223372036854775807 (by simp [rX, b4, b3])
  have a0 := ha.1 0 (by omega)
  have a1 := ha.1 1 (by omega)
  have a2 := ha.1 2 (by omega)
  have a3 := ha.1 3 (by omega)
  rw [← a0] at b0; rw [← a1] at b1; rw [← a2] at b2; rw [← a3] at b3
  refine ⟨?_, by simp [rX, o1, othT]⟩
  · simp only [ObsT, Ob.Tv, SB.tp, SI.tv, sta, IB.eval, and_true, wrap_i64, wrap_u64, FI_10, FI_11, FI_12, FI_13, FI_14, FI_15, FI_16, FI_17, FI_18, FI_19, FI_20, FI_21, onOk, nxt, dE, cE, xE]
    first | omega | ((repeat' apply And.intro) <;> ((repeat' split) <;> omega))
set_option maxHeartbeats 1000000 in
theorem rX_o0_2 (kv : Nat → Nat) (iv0 : Nat → Int) (bv0 : Nat → Bool) (hin : InB rX.B iv0) (hF : FT (sta FI FB kv iv0 bv0) (dlt dyn0) rX.F) (iv : Nat → Int) (bv : Nat → Bool) (ha : Agr 4 iv0 bv0 iv bv) (hi : rX_inv iv0 bv0 0 iv bv) :
    LfT (sta FI FB kv) rX.os (rX_inv iv0 bv0) (rX_mu iv0 bv0) 0 iv bv (.fin [((.eq (.v 2) (.c 4611686018427387904)), .true), ((.lt (.op .add (.op .add (.v 0) (.op .sub (.c (-1)) (.v 1))) (.c 1)) (.op .add (.op .sub (.c (-1)) (.v 3)) (.c 1))), .false), ((.le (.c 0) (.v 0)), .true), ((.lt (.v 1) (.c 0)), .true), ((.lt (.v 3) (.c 0)), .true), ((.eq (.v 3) (.c 0)), .false), ((.le (.v 2) (.c 4611686018427387904)), .true), ((.le (.v 1) (.v 0)), .true)] 0 ⟨⟨[], []⟩, [], [], []⟩ [(.ei (.ap 18 (.v 0) (.v 1) (.v 2) (.v 3) (.c 0) (.c 0)) (.c 0)), (.ei (.ap 19 (.v 0) (.v 1) (.v 2) (.v 3) (.c 0) (.c 0)) (.c 0)), (.ei (.ap 20 (.v 0) (.v 1) (.v 2) (.v 3) (.c 0) (.c 0)) (.c 0)), (.ei (.ap 21 (.v 0) (.v 1) (.v 2) (.v 3) (.c 0) (.c 0)) (.c 142))] []) := by
  intro δ hf
  simp only [FT, TP, SB.tp, SI.tv, sta, IB.eval, and_true, wrap_i64, wrap_u64, FI_10, FI_11, FI_12, FI_13, FI_14, FI_15, FI_16, FI_17, FI_18, FI_19, FI_20, FI_21, onOk, nxt, dE, cE, xE] at hf
  have b0 := hin 0 (-9223372036854775808) 9223372036854775807 (by simp [rX, b4, b3])
  have b1 := hin 1 (-9223372036854775808) 9223372036854775807 (by simp [rX, b4, b3])
  have b2 := hin 2 0 18446744073709551615 (by simp [rX, b4, b3])
  have b3 := hin 3 (-9223372036854775808) 9223372036854775807 (by simp [rX, b4, b3])
  have a0 := ha.1 0 (by omega)
  have a1 := ha.1 1 (by omega)
  have a2 := ha.1 2 (by omega)
  have a3 := ha.1 3 (by omega)
  rw [← a0] at b0; rw [← a1] at b1; rw [← a2] at b2; rw [← a3] at b3
  refine ⟨?_, by simp [rX, o1, othT]⟩
  · simp only [ObsT, Ob.Tv, SB.tp, SI.tv, sta, IB.eval, and_true, wrap_i64, wrap_u64, FI_10, FI_11, FI_12, FI_13, FI_14, FI_15, FI_16, FI_17, FI_18, FI_19, FI_20, FI_21, onOk, nxt, dE, cE, xE]
    first | omega | ((repeat' apply And.intro) <;> ((repeat' split) <;> omega))
set_option maxHeartbeats 1000000 in
theorem rX_o0_3 (kv : Nat → Nat) (iv0 : Nat → Int) (bv0 : Nat → Bool) (hin : InB rX.B iv0) (hF : FT (sta FI FB kv iv0 bv0) (dlt dyn0) rX.F) (iv : Nat → Int) (bv : Nat → Bool) (ha : Agr 4 iv0 bv0 iv bv) (hi : rX_inv iv0 bv0 0 iv bv) :
    LfT (sta FI FB kv) rX.os (rX_inv iv0 bv0) (rX_mu iv0 bv0) 0 iv bv (.fin [((.lt (.c 9223372036854775807) (.op .add (.op .sub (.c (-1)) (.v 3)) (.c 1))), .true), ((.eq (.v 2) (.c 4611686018427387904)), .false), ((.lt (.op .add (.op .add (.v 0) (.op .sub (.c (-1)) (.v 1))) (.c 1)) (.op .add (.op .sub (.c (-1)) (.v 3)) (.c 1))), .false), ((.le (.c 0) (.v 0)), .true), ((.lt (.v 1) (.c 0)), .true), ((.lt (.v 3) (.c 0)), .true), ((.eq (.v 3) (.c 0)), .false), ((.le (.v 2) (.c 4611686018427387904)), .true), ((.le (.v 1) (.v 0)), .true)] 0 ⟨⟨[], []⟩, [], [], []⟩ [(.ei (.ap 18 (.v 0) (.v 1) (.v 2) (.v 3) (.c 0) (.c 0)) (.op .sub (.op .add (.v 0) (.c (-9223372036854775807))) (.op .add (.op .sub (.c (-1)) (.v 3)) (.c (-9223372036854775806))))), (.ei (.ap 19 (.v 0) (.v 1) (.v 2) (.v 3) (.c 0) (.c 0)) (.v 1)), (.ei (.ap 20 (.v 0) (.v 1) (.v 2) (.v 3) (.c 0) (.c 0)) (.op .add (.v 2) (.c 1))), (.ei (.ap 21 (.v 0) (.v 1) (.v 2) (.v 3) (.c 0) (.c 0)) (.c 0))] []) := by
  intro δ hf
  simp only [FT, TP, SB.tp, SI.tv, sta, IB.eval, and_true, wrap_i64, wrap_u64, FI_10, FI_11, FI_12, FI_13, FI_14, FI_15, FI_16, FI_17, FI_18, FI_19, FI_20, FI_21, onOk, nxt, dE, cE, xE] at hf
  have b0 := hin 0 (-9223372036854775808) 9223372036854775807 (by simp [rX, b4, b3])
  have b1 := hin 1 (-9223372036854775808) 9223372036854775807 (by simp [rX, b4, b3])
  have b2 := hin 2 0 18446744073709551615 (by simp [rX, b4, b3])
  have b3 := hin 3 (-9223372036854775808) 9223372036854775807 (by simp [rX, b4, b3])
  have a0 := ha.1 0 (by omega)
  have a1 := ha.1 1 (by omega)
  have a2 := ha.1 2 (by omega)
  have a3 := ha.1 3 (by omega)
  rw [← a0] at b0; rw [← a1] at b1; rw [← a2] at b2; rw [← a3] at b3
  refine ⟨?_, by simp [rX, o1, othT]⟩
  · simp only [ObsT, Ob.Tv, SB.tp, SI.tv, sta, IB.eval, and_true, wrap_i64, wrap_u64, FI_10, FI_11, FI_12, FI_13, FI_14, FI_15, FI_16, FI_17, FI_18, FI_19, FI_20, FI_21, onOk, nxt, dE, cE, xE]
    first | omega | ((repeat' apply And.intro) <;> ((repeat' split) <;> omega))
set_option maxHeartbeats 1000000 in
theorem rX_o0_4 (kv : Nat → Nat) (iv0 : Nat → Int) (bv0 : Nat → Bool) (hin : InB rX.B iv0) (hF : FT (sta FI FB kv iv0 bv0) (dlt dyn0) rX.F) (iv : Nat → Int) (bv : Nat → Bool) (ha : Agr 4 iv0 bv0 iv bv) (hi : rX_inv iv0 bv0 0 iv bv) :
    LfT (sta FI FB kv) rX.os (rX_inv iv0 bv0) (rX_mu iv0 bv0) 0 iv bv (.fin [((.lt (.c 9223372036854775807) (.op .add (.op .sub (.c (-1)) (.v 3)) (.c 1))), .false), ((.eq (.v 2) (.c 4611686018427387904)), .false), ((.lt (.op .add (.op .add (.v 0) (.op .sub (.c (-1)) (.v 1))) (.c 1)) (.op .add (.op .sub (.c (-1)) (.v 3)) (.c 1))), .false), ((.le (.c 0) (.v 0)), .true), ((.lt (.v 1) (.c 0)), .true), ((.lt (.v 3) (.c 0)), .true), ((.eq (.v 3) (.c 0)), .false), ((.le (.v 2) (.c 4611686018427387904)), .true), ((.le (.v 1) (.v 0)), .true)] 0 ⟨⟨[], []⟩, [], [], []⟩ [(.ei (.ap 18 (.v 0) (.v 1) (.v 2) (.v 3) (.c 0) (.c 0)) (.op .sub (.v 0) (.op .add (.op .sub (.c (-1)) (.v 3)) (.c 1)))), (.ei (.ap 19 (.v 0) (.v 1) (.v 2) (.v 3) (.c 0) (.c 0)) (.v 1)), (.ei (.ap 20 (.v 0) (.v 1) (.v 2) (.v 3) (.c 0) (.c 0)) (.op .add (.v 2) (.c 1))), (.ei (.ap 21 (.v 0) (.v 1) (.v 2) (.v 3) (.c 0) (.c 0)) (.c 0))] []) := by
  intro δ hf
  simp only [FT, TP, SB.tp, SI.tv, sta, IB.eval, and_true, wrap_i64, wrap_u64, FI_10, FI_11, FI_12, FI_13, FI_14, FI_15, FI_16, FI_17, FI_18, FI_19, FI_20, FI_21, onOk, nxt, dE, cE, xE] at hf
  have b0 := hin 0 (-9223372036854775808) 9223372036854775807 (by simp [rX, b4, b3])
  have b1 := hin 1 (-9223372036854775808) 9223372036854775807 (by simp [rX, b4, b3])
  have b2 := hin 2 0 18446744073709551615 (by simp [rX, b4, b3])
  have b3 := hin 3 (-9223372036854775808) 9223372036854775807 (by simp [rX, b4, b3])
  have a0 := ha.1 0 (by omega)
  have a1 := ha.1 1 (by omega)
  have a2 := ha.1 2 (by omega)
  have a3 := ha.1 3 (by omega)
  rw [← a0] at b0; rw [← a1] at b1; rw [← a2] at b2; rw [← a3] at b3
  refine ⟨?_, by simp [rX, o1, othT]⟩
  · simp only [ObsT, Ob.Tv, SB.tp, SI.tv, sta, IB.eval, and_true, wrap_i64, wrap_u64, FI_10, FI_11, FI_12, FI_13, FI_14, FI_15, FI_16, FI_17, FI_18, FI_19, FI_20, FI_21, onOk, nxt, dE, cE, xE]
    first | omega | ((repeat' apply And.intro) <;> ((repeat' split) <;> omega))
set_option maxHeartbeats 1000000 in
theorem rX_o0_5 (kv : Nat → Nat) (iv0 : Nat → Int) (bv0 : Nat → Bool) (hin : InB rX.B iv0) (hF : FT (sta FI FB kv iv0 bv0) (dlt dyn0) rX.F) (iv : Nat → Int) (bv : Nat → Bool) (ha : Agr 4 iv0 bv0 iv bv) (hi : rX_inv iv0 bv0 0 iv bv) :
    LfT (sta FI FB kv) rX.os (rX_inv iv0 bv0) (rX_mu iv0 bv0) 0 iv bv (.fin [((.lt (.wk .u64 (.op .sub (.v 0) (.v 1))) (.op .add (.op .sub (.c (-1)) (.v 3)) (.c 1))), .true), ((.le (.c 0) (.v 0)), .false), ((.lt (.v 1) (.c 0)), .true), ((.lt (.v 3) (.c 0)), .true), ((.eq (.v 3) (.c 0)), .false), ((.le (.v 2) (.c 4611686018427387904)), .true), ((.le (.v 1) (.v 0)), .true)] 0 ⟨⟨[], []⟩, [], [], []⟩ [(.ei (.ap 18 (.v 0) (.v 1) (.v 2) (.v 3) (.c 0) (.c 0)) (.c 0)), (.ei (.ap 19 (.v 0) (.v 1) (.v 2) (.v 3) (.c 0) (.c 0)) (.c 0)), (.ei (.ap 20 (.v 0) (.v 1) (.v 2) (.v 3) (.c 0) (.c 0)) (.c 0)), (.ei (.ap 21 (.v 0) (.v 1) (.v 2) (.v 3) (.c 0) (.c 0)) (.c 140))] []) := by
  intro δ hf
  simp only [FT, TP, SB.tp, SI.tv, sta, IB.eval, and_true, wrap_i64, wrap_u64, FI_10, FI_11, FI_12, FI_13, FI_14, FI_15, FI_16, FI_17, FI_18, FI_19, FI_20, FI_21, onOk, nxt, dE, cE, xE] at hf
  have b0 := hin 0 (-9223372036854775808) 9223372036854775807 (by simp [rX, b4, b3])
  have b1 := hin 1 (-9223372036854775808) 9223372036854775807 (by simp [rX, b4, b3])
  have b2 := hin 2 0 18446744073709551615 (by simp [rX, b4, b3])
  have b3 := hin 3 (-9223372036854775808) 9223372036854775807 (by simp [rX, b4, b3])
  have a0 := ha.1 0 (by omega)
  have a1 := ha.1 1 (by omega)
  have a2 := ha.1 2 (by omega)
  have a3 := ha.1 3 (by omega)
  rw [← a0] at b0; rw [← a1] at b1; rw [← a2] at b2; rw [← a3] at b3
  refine ⟨?_, by simp [rX, o1, othT]⟩
  · simp only [ObsT, Ob.Tv, SB.tp, SI.tv, sta, IB.eval, and_true, wrap_i64, wrap_u64, FI_10, FI_11, FI_12, FI_13, FI_14, FI_15, FI_16, FI_17, FI_18, FI_19, FI_20, FI_21, onOk, nxt, dE, cE, xE]
    first | omega | ((repeat' apply And.intro) <;> ((repeat' split) <;> omega))
set_option maxHeartbeats 1000000 in
theorem rX_o0_6 (kv : Nat → Nat) (iv0 : Nat → Int) (bv0 : Nat → Bool) (hin : InB rX.B iv0) (hF : FT (sta FI FB kv iv0 bv0) (dlt dyn0) rX.F) (iv : Nat → Int) (bv : Nat → Bool) (ha : Agr 4 iv0 bv0 iv bv) (hi : rX_inv iv0 bv0 0 iv bv) :
    LfT (sta FI FB kv) rX.os (rX_inv iv0 bv0) (rX_mu iv0 bv0) 0 iv bv (.fin [((.eq (.v 2) (.c 4611686018427387904)), .true), ((.lt (.wk .u64 (.op .sub (.v 0) (.v 1))) (.op .add (.op .sub (.c (-1)) (.v 3)) (.c 1))), .false), ((.le (.c 0) (.v 0)), .false), ((.lt (.v 1) (.c 0)), .true), ((.lt (.v 3) (.c 0)), .true), ((.eq (.v 3) (.c 0)), .false), ((.le (.v 2) (.c 4611686018427387904)), .true), ((.le (.v 1) (.v 0)), .true)] 0 ⟨⟨[], []⟩, [], [], []⟩ [(.ei (.ap 18 (.v 0) (.v 1) (.v 2) (.v 3) (.c 0) (.c 0)) (.c 0)), (.ei (.ap 19 (.v 0) (.v 1) (.v 2) (.v 3) (.c 0) (.c 0)) (.c 0)), (.ei (.ap 20 (.v 0) (.v 1) (.v 2) (.v 3) (.c 0) (.c 0)) (.c 0)), (.ei (.ap 21 (.v 0) (.v 1) (.v 2) (.v 3) (.c 0) (.c 0)) (.c 142))] []) := by
  intro δ hf
  simp only [FT, TP, SB.tp, SI.tv, sta, IB.eval, and_true, wrap_i64, wrap_u64, FI_10, FI_11, FI_12, FI_13, FI_14, FI_15, FI_16, FI_17, FI_18, FI_19, FI_20, FI_21, onOk, nxt, dE, cE, xE] at hf
  have b0 := hin 0 (-9223372036854775808) 9223372036854775807 (by simp [rX, b4, b3])
  have b1 := hin 1 (-9223372036854775808) 9223372036854775807 (by simp [rX, b4, b3])
  have b2 := hin 2 0 18446744073709551615 (by simp [rX, b4, b3])
  have b3 := hin 3 (-9223372036854775808) 9223372036854775807 (by simp [rX, b4, b3])
  have a0 := ha.1 0 (by omega)
  have a1 := ha.1 1 (by omega)
  have a2 := ha.1 2 (by omega)
  have a3 := ha.1 3 (by omega)
  rw [← a0] at b0; rw [← a1] at b1; rw [← a2] at b2; rw [← a3] at b3
  refine ⟨?_, by simp [rX, o1, othT]⟩
  · simp only [ObsT, Ob.Tv, SB.tp, SI.tv, sta, IB.eval, and_true, wrap_i64, wrap_u64, FI_10, FI_11, FI_12, FI_13, FI_14, FI_15, FI_16, FI_17, FI_18, FI_19, FI_20, FI_21, onOk, nxt, dE, cE, xE]
    first | omega | ((repeat' apply And.intro) <;> ((repeat' split) <;> omega))
set_option maxHeartbeats 1000000 in
theorem rX_o0_7 (kv : Nat → Nat) (iv0 : Nat → Int) (bv0 : Nat → Bool) (hin : InB rX.B iv0) (hF : FT (sta FI FB kv iv0 bv0) (dlt dyn0) rX.F) (iv : Nat → Int) (bv : Nat → Bool) (ha : Agr 4 iv0 bv0 iv bv) (hi : rX_inv iv0 bv0 0 iv bv) :
    LfT (sta FI FB kv) rX.os (rX_inv iv0 bv0) (rX_mu iv0 bv0) 0 iv bv (.fin [((.lt (.c 9223372036854775807) (.op .add (.op .sub (.c (-1)) (.v 3)) (.c 1))), .true), ((.eq (.v 2) (.c 4611686018427387904)), .false), ((.lt (.wk .u64 (.op .sub (.v 0) (.v 1))) (.op .add (.op .sub (.c (-1)) (.v 3)) (.c 1))), .false), ((.le (.c 0) (.v 0)), .false), ((.lt (.v 1) (.c 0)), .true), ((.lt (.v 3) (.c 0)), .true), ((.eq (.v 3) (.c 0)), .false), ((.le (.v 2) (.c 4611686018427387904)), .true), ((.le (.v 1) (.v 0)), .true)] 0 ⟨⟨[], []⟩, [], [], []⟩ [(.ei (.ap 18 (.v 0) (.v 1) (.v 2) (.v 3) (.c 0) (.c 0)) (.wk .i64 (.op .sub (.wk .i64 (.op .add (.v 0) (.c (-9223372036854775807)))) (.op .add (.op .sub (.c (-1)) (.v 3)) (.c (-9223372036854775806)))))), (.ei (.ap 19 (.v 0) (.v 1) (.v 2) (.v 3) (.c 0) (.c 0)) (.v 1)), (.ei (.ap 20 (.v 0) (.v 1) (.v 2) (.v 3) (.c 0) (.c 0)) (.op .add (.v 2) (.c 1))), (.ei (.ap 21 (.v 0) (.v 1) (.v 2) (.v 3) (.c 0) (.c 0)) (.c 0))] []) := by
  intro δ hf
  simp only [FT, TP, SB.tp, SI.tv, sta, IB.eval, and_true, wrap_i64, wrap_u64, FI_10, FI_11, FI_12, FI_13, FI_14, FI_15, FI_16, FI_17, FI_18, FI_19, FI_20, FI_21, onOk, nxt, dE, cE, xE] at hf
  have b0 := hin 0 (-9223372036854775808) 9223372036854775807 (by simp [rX, b4, b3])
  have b1 := hin 1 (-9223372036854775808) 9223372036854775807 (by simp [rX, b4, b3])
  have b2 := hin 2 0 18446744073709551615 (by simp [rX, b4, b3])
  have b3 := hin 3 (-9223372036854775808) 9223372036854775807 (by simp [rX, b4, b3])
  have a0 := ha.1 0 (by omega)
  have a1 := ha.1 1 (by omega)
  have a2 := ha.1 2 (by omega)
  have a3 := ha.1 3 (by omega)
  rw [← a0] at b0; rw [← a1] at b1; rw [← a2] at b2; rw [← a3] at b3
  refine ⟨?_, by simp [rX, o1, othT]⟩
  · simp only [ObsT, Ob.Tv, SB.tp, SI.tv, sta, IB.eval, and_true, wrap_i64, wrap_u64, FI_10, FI_11, FI_12, FI_13, FI_14, FI_15, FI_16, FI_17, FI_18, FI_19, FI_20, FI_21, onOk, nxt, dE, cE, xE]
    first | omega | ((repeat' apply And.intro) <;> ((repeat' split) <;> omega))
set_option maxHeartbeats 1000000 in
theorem rX_o0_8 (kv : Nat → Nat) (iv0 : Nat → Int) (bv0 : Nat → Bool) (hin : InB rX.B iv0) (hF : FT (sta FI FB kv iv0 bv0) (dlt dyn0) rX.F) (iv : Nat → Int) (bv : Nat → Bool) (ha : Agr 4 iv0 bv0 iv bv) (hi : rX_inv iv0 bv0 0 iv bv) :
    LfT (sta FI FB kv) rX.os (rX_inv iv0 bv0) (rX_mu iv0 bv0) 0 iv bv (.fin [((.lt (.c 9223372036854775807) (.op .add (.op .sub (.c (-1)) (.v 3)) (.c 1))), .false), ((.eq (.v 2) (.c 4611686018427387904)), .false), ((.lt (.wk .u64 (.op .sub (.v 0) (.v 1))) (.op .add (.op .sub (.c (-1)) (.v 3)) (.c 1))), .false), ((.le (.c 0) (.v 0)), .false), ((.lt (.v 1) (.c 0)), .true), ((.lt (.v 3) (.c 0)), .true), ((.eq (.v 3) (.c 0)), .false), ((.le (.v 2) (.c 4611686018427387904)), .true), ((.le (.v 1) (.v 0)), .true)] 0 ⟨⟨[], []⟩, [], [], []⟩ [(.ei (.ap 18 (.v 0) (.v 1) (.v 2) (.v 3) (.c 0) (.c 0)) (.wk .i64 (.op .sub (.v 0) (.op .add (.op .sub (.c (-1)) (.v 3)) (.c 1))))), (.ei (.ap 19 (.v 0) (.v 1) (.v 2) (.v 3) (.c 0) (.c 0)) (.v 1)), (.ei (.ap 20 (.v 0) (.v 1) (.v 2) (.v 3) (.c 0) (.c 0)) (.op .add (.v 2) (.c 1))), (.ei (.ap 21 (.v 0) (.v 1) (.v 2) (.v 3) (.c 0) (.c 0)) (.c 0))] []) := by
  intro δ hf
  simp only [FT, TP, SB.tp, SI.tv, sta, IB.eval, and_true, wrap_i64, wrap_u64, FI_10, FI_11, FI_12, FI_13, FI_14, FI_15, FI_16, FI_17, FI_18, FI_19, FI_20, FI_21, onOk, nxt, dE, cE, xE] at hf
  have b0 := hin 0 (-9223372036854775808) 9223372036854775807 (by simp [rX, b4, b3])
  have b1 := hin 1 (-9223372036854775808) 9223372036854775807 (by simp [rX, b4, b3])
  have b2 := hin 2 0 18446744073709551615 (by simp [rX, b4, b3])
  have b3 := hin 3 (-9223372036854775808) 9223372036854775807 (by simp [rX, b4, b3])
  have a0 := ha.1 0 (by omega)
  have a1 := ha.1 1 (by omega)
  have a2 := ha.1 2 (by omega)
  have a3 := ha.1 3 (by omega)
  rw [← a0] at b0; rw [← a1] at b1; rw [← a2] at b2; rw [← a3] at b3
  refine ⟨?_, by simp [rX, o1, othT]⟩
  · simp only [ObsT, Ob.Tv, SB.tp, SI.tv, sta, IB.eval, and_true, wrap_i64, wrap_u64, FI_10, FI_11, FI_12, FI_13, FI_14, FI_15, FI_16, FI_17, FI_18, FI_19, FI_20, FI_21, onOk, nxt, dE, cE, xE]
    first | omega | ((repeat' apply And.intro) <;> ((repeat' split) <;> omega))
set_option maxHeartbeats 1000000 in
theorem rX_o0_9 (kv : Nat → Nat) (iv0 : Nat → Int) (bv0 : Nat → Bool) (hin : InB rX.B iv0) (hF : FT (sta FI FB kv iv0 bv0) (dlt dyn0) rX.F) (iv : Nat → Int) (bv : Nat → Bool) (ha : Agr 4 iv0 bv0 iv bv) (hi : rX_inv iv0 bv0 0 iv bv) :
    LfT (sta FI FB kv) rX.os (rX_inv iv0 bv0) (rX_mu iv0 bv0) 0 iv bv (.fin [((.lt (.wk .u64 (.wk .i64 (.op .sub (.v 0) (.v 1)))) (.op .add (.op .sub (.c (-1)) (.v 3)) (.c 1))), .true), ((.lt (.v 1) (.c 0)), .false), ((.lt (.v 3) (.c 0)), .true), ((.eq (.v 3) (.c 0)), .false), ((.le (.v 2) (.c 4611686018427387904)), .true), ((.le (.v 1) (.v 0)), .true)] 0 ⟨⟨[], []⟩, [], [], []⟩ [(.ei (.ap 18 (.v 0) (.v 1) (.v 2) (.v 3) (.c 0) (.c 0)) (.c 0)), (.ei (.ap 19 (.v 0) (.v 1) (.v 2) (.v 3) (.c 0) (.c 0)) (.c 0)), (.ei (.ap 20 (.v 0) (.v 1) (.v 2) (.v 3) (.c 0) (.c 0)) (.c 0)), (.ei (.ap 21 (.v 0) (.v 1) (.v 2) (.v 3) (.c 0) (.c 0)) (.c 140))] []) := by
  intro δ hf
  simp only [FT, TP, SB.tp, SI.tv, sta, IB.eval, and_true, wrap_i64, wrap_u64, FI_10, FI_11, FI_12, FI_13, FI_14, FI_15, FI_16, FI_17, FI_18, FI_19, FI_20, FI_21, onOk, nxt, dE, cE, xE] at hf
  have b0 := hin 0 (-9223372036854775808) 9223372036854775807 (by simp [rX, b4, b3])
  have b1 := hin 1 (-9223372036854775808) 9223372036854775807 (by simp [rX, b4, b3])
  have b2 := hin 2 0 18446744073709551615 (by simp [rX, b4, b3])
  have b3 := hin 3 (-9223372036854775808) 9223372036854775807 (by simp [rX, b4, b3])
  have a0 := ha.1 0 (by omega)
  have a1 := ha.1 1 (by omega)
  have a2 := ha.1 2 (by omega)
  have a3 := ha.1 3 (by omega)
  rw [← a0] at b0; rw [← a1] at b1; rw [← a2] at b2; rw [← a3] at b3
  refine ⟨?_, by simp [rX, o1, othT]⟩
  · simp only [ObsT, Ob.Tv, SB.tp, SI.tv, sta, IB.eval, and_true, wrap_i64, wrap_u64, FI_10, FI_11, FI_12, FI_13, FI_14, FI_15, FI_16, FI_17, FI_18, FI_19, FI_20, FI_21, onOk, nxt, dE, cE, xE]
    first | omega | ((repeat' apply And.intro) <;> ((repeat' split) <;> omega))
set_option maxHeartbeats 1000000 in
theorem rX_o0_10 (kv : Nat → Nat) (iv0 : Nat → Int) (bv0 : Nat → Bool) (hin : InB rX.B iv0) (hF : FT (sta FI FB kv iv0 bv0) (dlt dyn0) rX.F) (iv : Nat → Int) (bv : Nat → Bool) (ha : Agr 4 iv0 bv0 iv bv) (hi : rX_inv iv0 bv0 0 iv bv) :
    LfT (sta FI FB kv) rX.os (rX_inv iv0 bv0) (rX_mu iv0 bv0) 0 iv bv (.fin [((.eq (.v 2) (.c 4611686018427387904)), .true), ((.lt (.wk .u64 (.wk .i64 (.op .sub (.v 0) (.v 1)))) (.op .add (.op .sub (.c (-1)) (.v 3)) (.c 1))), .false), ((.lt (.v 1) (.c 0)), .false), ((.lt (.v 3) (.c 0)), .true), ((.eq (.v 3) (.c 0)), .false), ((.le (.v 2) (.c 4611686018427387904)), .true), ((.le (.v 1) (.v 0)), .true)] 0 ⟨⟨[], []⟩, [], [], []⟩ [(.ei (.ap 18 (.v 0) (.v 1) (.v 2) (.v 3) (.c 0) (.c 0)) (.c 0)), (.ei (.ap 19 (.v 0) (.v 1) (.v 2) (.v 3) (.c 0) (.c 0)) (.c 0)), (.ei (.ap 20 (.v 0) (.v 1) (.v 2) (.v 3) (.c 0) (.c 0)) (.c 0)), (.ei (.ap 21 (.v 0) (.v 1) (.v 2) (.v 3) (.c 0) (.c 0)) (.c 142))] []) := by
  intro δ hf
  simp only [FT, TP, SB.tp, SI.tv, sta, IB.eval, and_true, wrap_i64, wrap_u64, FI_10, FI_11, FI_12, FI_13, FI_14, FI_15, FI_16, FI_17, FI_18, FI_19, FI_20, FI_21, onOk, nxt, dE, cE, xE] at hf
  have b0 := hin 0 (-9223372036854775808) 9223372036854775807 (by simp [rX, b4, b3])
  have b1 := hin 1 (-9223372036854775808) 9223372036854775807 (by simp [rX, b4, b3])
  have b2 := hin 2 0 18446744073709551615 (by simp [rX, b4, b3])
  have b3 := hin 3 (-9223372036854775808) 9223372036854775807 (by simp [rX, b4, b3])
  have a0 := ha.1 0 (by omega)
  have a1 := ha.1 1 (by omega)
  have a2 := ha.1 2 (by omega)
  have a3 := ha.1 3 (by omega)
  rw [← a0] at b0; rw [← a1] at b1; rw [← a2] at b2; rw [← a3] at b3
  refine ⟨?_, by simp [rX, o1, othT]⟩
  · simp only [ObsT, Ob.Tv, SB.tp, SI.tv, sta, IB.eval, and_true, wrap_i64, wrap_u64, FI_10, FI_11, FI_12, FI_13, FI_14, FI_15, FI_16, FI_17, FI_18, FI_19, FI_20, FI_21, onOk, nxt, dE, cE, xE]
    first | omega | ((repeat' apply And.intro) <;> ((repeat' split) <;> omega))
set_option maxHeartbeats 1000000 in
theorem rX_o0_11 (kv : Nat → Nat) (iv0 : Nat → Int) (bv0 : Nat → Bool) (hin : InB rX.B iv0) (hF : FT (sta FI FB kv iv0 bv0) (dlt dyn0) rX.F) (iv : Nat → Int) (bv : Nat → Bool) (ha : Agr 4 iv0 bv0 iv bv) (hi : rX_inv iv0 bv0 0 iv bv) :
    LfT (sta FI FB kv) rX.os (rX_inv iv0 bv0) (rX_mu iv0 bv0) 0 iv bv (.fin [((.lt (.c 9223372036854775807) (.op .add (.op .sub (.c (-1)) (.v 3)) (.c 1))), .true), ((.eq (.v 2) (.c 4611686018427387904)), .false), ((.lt (.wk .u64 (.wk .i64 (.op .sub (.v 0) (.v 1)))) (.op .add (.op .sub (.c (-1)) (.v 3)) (.c 1))), .false), ((.lt (.v 1) (.c 0)), .false), ((.lt (.v 3) (.c 0)), .true), ((.eq (.v 3) (.c 0)), .false), ((.le (.v 2) (.c 4611686018427387904)), .true), ((.le (.v 1) (.v 0)), .true)] 0 ⟨⟨[], []⟩, [], [], []⟩ [(.ei (.ap 18 (.v 0) (.v 1) (.v 2) (.v 3) (.c 0) (.c 0)) (.wk .i64 (.op .sub (.wk .i64 (.op .add (.v 0) (.c (-9223372036854775807)))) (.op .add (.op .sub (.c (-1)) (.v 3)) (.c (-9223372036854775806)))))), (.ei (.ap 19 (.v 0) (.v 1) (.v 2) (.v 3) (.c 0) (.c 0)) (.v 1)), (.ei (.ap 20 (.v 0) (.v 1) (.v 2) (.v 3) (.c 0) (.c 0)) (.op .add (.v 2) (.c 1))), (.ei (.ap 21 (.v 0) (.v 1) (.v 2) (.v 3) (.c 0) (.c 0)) (.c 0))] []) := by
  intro δ hf
  simp only [FT, TP, SB.tp, SI.tv, sta, IB.eval, and_true, wrap_i64, wrap_u64, FI_10, FI_11, FI_12, FI_13, FI_14, FI_15, FI_16, FI_17, FI_18, FI_19, FI_20, FI_21, onOk, nxt, dE, cE, xE] at hf
  have b0 := hin 0 (-9223372036854775808) 9223372036854775807 (by simp [rX, b4, b3])
  have b1 := hin 1 (-9223372036854775808) 9223372036854775807 (by simp [rX, b4, b3])
  have b2 := hin 2 0 18446744073709551615 (by simp [rX, b4, b3])
  have b3 := hin 3 (-9223372036854775808) 9223372036854775807 (by simp [rX, b4, b3])
  have a0 := ha.1 0 (by omega)
  have a1 := ha.1 1 (by omega)
  have a2 := ha.1 2 (by omega)
  have a3 := ha.1 3 (by omega)
  rw [← a0] at b0; rw [← a1] at b1; rw [← a2] at b2; rw [← a3] at b3
  refine ⟨?_, by simp [rX, o1, othT]⟩
  · simp only [ObsT, Ob.Tv, SB.tp, SI.tv, sta, IB.eval, and_true, wrap_i64, wrap_u64, FI_10, FI_11, FI_12, FI_13, FI_14, FI_15, FI_16, FI_17, FI_18, FI_19, FI_20, FI_21, onOk, nxt, dE, cE, xE]
    first | omega | ((repeat' apply And.intro) <;> ((repeat' split) <;> omega))
set_option maxHeartbeats 1000000 in
theorem rX_o0_12 (kv : Nat → Nat) (iv0 : Nat → Int) (bv0 : Nat → Bool) (hin : InB rX.B iv0) (hF : FT (sta FI FB kv iv0 bv0) (dlt dyn0) rX.F) (iv : Nat → Int) (bv : Nat → Bool) (ha : Agr 4 iv0 bv0 iv bv) (hi : rX_inv iv0 bv0 0 iv bv) :
    LfT (sta FI FB kv) rX.os (rX_inv iv0 bv0) (rX_mu iv0 bv0) 0 iv bv (.fin [((.lt (.c 9223372036854775807) (.op .add (.op .sub (.c (-1)) (.v 3)) (.c 1))), .false), ((.eq (.v 2) (.c 4611686018427387904)), .false), ((.lt (.wk .u64 (.wk .i64 (.op .sub (.v 0) (.v 1)))) (.op .add (.op .sub (.c (-1)) (.v 3)) (.c 1))), .false), ((.lt (.v 1) (.c 0)), .false), ((.lt (.v 3) (.c 0)), .true), ((.eq (.v 3) (.c 0)), .false), ((.le (.v 2) (.c 4611686018427387904)), .true), ((.le (.v 1) (.v 0)), .true)] 0 ⟨⟨[], []⟩, [], [], []⟩ [(.ei (.ap 18 (.v 0) (.v 1) (.v 2) (.v 3) (.c 0) (.c 0)) (.wk .i64 (.op .sub (.v 0) (.op .add (.op .sub (.c (-1)) (.v 3)) (.c 1))))), (.ei (.ap 19 (.v 0) (.v 1) (.v 2) (.v 3) (.c 0) (.c 0)) (.v 1)), (.ei (.ap 20 (.v 0) (.v 1) (.v 2) (.v 3) (.c 0) (.c 0)) (.op .add (.v 2) (.c 1))), (.ei (.ap 21 (.v 0) (.v 1) (.v 2) (.v 3) (.c 0) (.c 0)) (.c 0))] []) := by
  intro δ hf
  simp only [FT, TP, SB.tp, SI.tv, sta, IB.eval, and_true, wrap_i64, wrap_u64, FI_10, FI_11, FI_12, FI_13, FI_14, FI_15, FI_16, FI_17, FI_18, FI_19, FI_20, FI_21, onOk, nxt, dE, cE, xE] at hf
  have b0 := hin 0 (-9223372036854775808) 9223372036854775807 (by simp [rX, b4, b3])
  have b1 := hin 1 (-9223372036854775808) 9223372036854775807 (by simp [rX, b4, b3])
  have b2 := hin 2 0 18446744073709551615 (by simp [rX, b4, b3])
  have b3 := hin 3 (-9223372036854775808) 9223372036854775807 (by simp [rX, b4, b3])
  have a0 := ha.1 0 (by omega)
  have a1 := ha.1 1 (by omega)
  have a2 := ha.1 2 (by omega)
  have a3 := ha.1 3 (by omega)
  rw [← a0] at b0; rw [← a1] at b1; rw [← a2] at b2; rw [← a3] at b3
  refine ⟨?_, by simp [rX, o1, othT]⟩
  · simp only [ObsT, Ob.Tv, SB.tp, SI.tv, sta, IB.eval, and_true, wrap_i64, wrap_u64, FI_10, FI_11, FI_12, FI_13, FI_14, FI_15, FI_16, FI_17, FI_18, FI_19, FI_20, FI_21, onOk, nxt, dE, cE, xE]
    first | omega | ((repeat' apply And.intro) <;> ((repeat' split) <;> omega))
set_option maxHeartbeats 1000000 in
theorem rX_o0_13 (kv : Nat → Nat) (iv0 : Nat → Int) (bv0 : Nat → Bool) (hin : InB rX.B iv0) (hF : FT (sta FI FB kv iv0 bv0) (dlt dyn0) rX.F) (iv : Nat → Int) (bv : Nat → Bool) (ha : Agr 4 iv0 bv0 iv bv) (hi : rX_inv iv0 bv0 0 iv bv) :
    LfT (sta FI FB kv) rX.os (rX_inv iv0 bv0) (rX_mu iv0 bv0) 0 iv bv (.fin [((.lt (.v 3) (.c 0)), .false), ((.eq (.v 3) (.c 0)), .false), ((.le (.v 2) (.c 4611686018427387904)), .true), ((.le (.v 1) (.v 0)), .true)] 0 ⟨⟨[], []⟩, [], [], []⟩ [(.ei (.ap 18 (.v 0) (.v 1) (.v 2) (.v 3) (.c 0) (.c 0)) (.ap 14 (.v 0) (.v 1) (.v 2) (.v 3) (.c 0) (.c 0))), (.ei (.ap 19 (.v 0) (.v 1) (.v 2) (.v 3) (.c 0) (.c 0)) (.ap 15 (.v 0) (.v 1) (.v 2) (.v 3) (.c 0) (.c 0))), (.ei (.ap 20 (.v 0) (.v 1) (.v 2) (.v 3) (.c 0) (.c 0)) (.ap 16 (.v 0) (.v 1) (.v 2) (.v 3) (.c 0) (.c 0))), (.ei (.ap 21 (.v 0) (.v 1) (.v 2) (.v 3) (.c 0) (.c 0)) (.ap 17 (.v 0) (.v 1) (.v 2) (.v 3) (.c 0) (.c 0)))] []) := by
  intro δ hf
  simp only [FT, TP, SB.tp, SI.tv, sta, IB.eval, and_true, wrap_i64, wrap_u64, FI_10, FI_11, FI_12, FI_13, FI_14, FI_15, FI_16, FI_17, FI_18, FI_19, FI_20, FI_21, onOk, nxt, dE, cE, xE] at hf
  have b0 := hin 0 (-9223372036854775808) 9223372036854775807 (by simp [rX, b4, b3])
  have b1 := hin 1 (-9223372036854775808) 9223372036854775807 (by simp [rX, b4, b3])
  have b2 := hin 2 0 18446744073709551615 (by simp [rX, b4, b3])
  have b3 := hin 3 (-9223372036854775808) 9223372036854775807 (by simp [rX, b4, b3])
  have a0 := ha.1 0 (by omega)
  have a1 := ha.1 1 (by omega)
  have a2 := ha.1 2 (by omega)
  have a3 := ha.1 3 (by omega)
  rw [← a0] at b0; rw [← a1] at b1; rw [← a2] at b2; rw [← a3] at b3
  refine ⟨?_, by simp [rX, o1, othT]⟩
  · simp only [ObsT, Ob.Tv, SB.tp, SI.tv, sta, IB.eval, and_true, wrap_i64, wrap_u64, FI_10, FI_11, FI_12, FI_13, FI_14, FI_15, FI_16, FI_17, FI_18, FI_19, FI_20, FI_21, onOk, nxt, dE, cE, xE]
    first | omega | ((repeat' apply And.intro) <;> ((repeat' split) <;> omega))
set_option maxHeartbeats 1000000 in
theorem rX_o0_14 (kv : Nat → Nat) (iv0 : Nat → Int) (bv0 : Nat → Bool) (hin : InB rX.B iv0) (hF : FT (sta FI FB kv iv0 bv0) (dlt dyn0) rX.F) (iv : Nat → Int) (bv : Nat → Bool) (ha : Agr 4 iv0 bv0 iv bv) (hi : rX_inv iv0 bv0 0 iv bv) :
    LfT (sta FI FB kv) rX.os (rX_inv iv0 bv0) (rX_mu iv0 bv0) 0 iv bv (.fin [((.le (.v 2) (.c 4611686018427387904)), .false), ((.le (.v 1) (.v 0)), .true)] 0 ⟨⟨[], []⟩, [], [], []⟩ [(.ei (.ap 18 (.v 0) (.v 1) (.v 2) (.v 3) (.c 0) (.c 0)) (.c 0)), (.ei (.ap 19 (.v 0) (.v 1) (.v 2) (.v 3) (.c 0) (.c 0)) (.c 0)), (.ei (.ap 20 (.v 0) (.v 1) (.v 2) (.v 3) (.c 0) (.c 0)) (.c 0)), (.ei (.ap 21 (.v 0) (.v 1) (.v 2) (.v 3) (.c 0) (.c 0)) (.c 2))] []) := by
  intro δ hf
  simp only [FT, TP, SB.tp, SI.tv, sta, IB.eval, and_true, wrap_i64, wrap_u64, FI_10, FI_11, FI_12, FI_13, FI_14, FI_15, FI_16, FI_17, FI_18, FI_19, FI_20, FI_21, onOk, nxt, dE, cE, xE] at hf
  have b0 := hin 0 (-9223372036854775808) 9223372036854775807 (by simp [rX, b4, b3])
  have b1 := hin 1 (-9223372036854775808) 9223372036854775807 (by simp [rX, b4, b3])
  have b2 := hin 2 0 18446744073709551615 (by simp [rX, b4, b3])
  have b3 := hin 3 (-9223372036854775808) 9223372036854775807 (by simp [rX, b4, b3])
  have a0 := ha.1 0 (by omega)
  have a1 := ha.1 1 (by omega)
  have a2 := ha.1 2 (by omega)
  have a3 := ha.1 3 (by omega)
  rw [← a0] at b0; rw [← a1] at b1; rw [← a2] at b2; rw [← a3] at b3
  refine ⟨?_, by simp [rX, o1, othT]⟩
  · simp only [ObsT, Ob.Tv, SB.tp, SI.tv, sta, IB.eval, and_true, wrap_i64, wrap_u64, FI_10, FI_11, FI_12, FI_13, FI_14, FI_15, FI_16, FI_17, FI_18, FI_19, FI_20, FI_21, onOk, nxt, dE, cE, xE]
    first | omega | ((repeat' apply And.intro) <;> ((repeat' split) <;> omega))
set_option maxHeartbeats 1000000 in
theorem rX_o0_15 (kv : Nat → Nat) (iv0 : Nat → Int) (bv0 : Nat → Bool) (hin : InB rX.B iv0) (hF : FT (sta FI FB kv iv0 bv0) (dlt dyn0) rX.F) (iv : Nat → Int) (bv : Nat → Bool) (ha : Agr 4 iv0 bv0 iv bv) (hi : rX_inv iv0 bv0 0 iv bv) :
    LfT (sta FI FB kv) rX.os (rX_inv iv0 bv0) (rX_mu iv0 bv0) 0 iv bv (.fin [((.le (.v 1) (.v 0)), .false)] 0 ⟨⟨[], []⟩, [], [], []⟩ [(.ei (.ap 18 (.v 0) (.v 1) (.v 2) (.v 3) (.c 0) (.c 0)) (.c 0)), (.ei (.ap 19 (.v 0) (.v 1) (.v 2) (.v 3) (.c 0) (.c 0)) (.c 0)), (.ei (.ap 20 (.v 0) (.v 1) (.v 2) (.v 3) (.c 0) (.c 0)) (.c 0)), (.ei (.ap 21 (.v 0) (.v 1) (.v 2) (.v 3) (.c 0) (.c 0)) (.c 2))] []) := by
  intro δ hf
  simp only [FT, TP, SB.tp, SI.tv, sta, IB.eval, and_true, wrap_i64, wrap_u64, FI_10, FI_11, FI_12, FI_13, FI_14, FI_15, FI_16, FI_17, FI_18, FI_19, FI_20, FI_21, onOk, nxt, dE, cE, xE] at hf
  have b0 := hin 0 (-9223372036854775808) 9223372036854775807 (by simp [rX, b4, b3])
  have b1 := hin 1 (-9223372036854775808) 9223372036854775807 (by simp [rX, b4, b3])
  have b2 := hin 2 0 18446744073709551615 (by simp [rX, b4, b3])
  have b3 := hin 3 (-9223372036854775808) 9223372036854775807 (by simp [rX, b4, b3])
  have a0 := ha.1 0 (by omega)
  have a1 := ha.1 1 (by omega)
  have a2 := ha.1 2 (by omega)
  have a3 := ha.1 3 (by omega)
  rw [← a0] at b0; rw [← a1] at b1; rw [← a2] at b2; rw [← a3] at b3
  refine ⟨?_, by simp [rX, o1, othT]⟩
  · simp only [ObsT, Ob.Tv, SB.tp, SI.tv, sta, IB.eval, and_true, wrap_i64, wrap_u64, FI_10, FI_11, FI_12, FI_13, FI_14, FI_15, FI_16, FI_17, FI_18, FI_19, FI_20, FI_21, onOk, nxt, dE, cE, xE]
    first | omega | ((repeat' apply And.intro) <;> ((repeat' split) <;> omega))
set_option maxRecDepth 100000 in
theorem rX_c : LsC ((tm0 rX Try.f13 (Try.f13.body.getD .skip)) :: []) rX.os [rX_L0] := by
  unfold rX_L0
  exact ⟨List.forall_mem_cons.2 ⟨⟨⟨_, rfl, rfl⟩, by kernel_rfl⟩, List.forall_mem_cons.2 ⟨⟨⟨_, rfl, rfl⟩, by kernel_rfl⟩, List.forall_mem_cons.2 ⟨⟨⟨_, rfl, rfl⟩, by kernel_rfl⟩, List.forall_mem_cons.2 ⟨⟨⟨_, rfl, rfl⟩, by kernel_rfl⟩, List.forall_mem_cons.2 ⟨⟨⟨_, rfl, rfl⟩, by kernel_rfl⟩, List.forall_mem_cons.2 ⟨⟨⟨_, rfl, rfl⟩, by kernel_rfl⟩, List.forall_mem_cons.2 ⟨⟨⟨_, rfl, rfl⟩, by kernel_rfl⟩, List.forall_mem_cons.2 ⟨⟨⟨_, rfl, rfl⟩, by kernel_rfl⟩, List.forall_mem_cons.2 ⟨⟨⟨_, rfl, rfl⟩, by kernel_rfl⟩, List.forall_mem_cons.2 ⟨⟨⟨_, rfl, rfl⟩, by kernel_rfl⟩, List.forall_mem_cons.2 ⟨⟨⟨_, rfl, rfl⟩, by kernel_rfl⟩, List.forall_mem_cons.2 ⟨⟨⟨_, rfl, rfl⟩, by kernel_rfl⟩, List.forall_mem_cons.2 ⟨⟨⟨_, rfl, rfl⟩, by kernel_rfl⟩, List.forall_mem_cons.2 ⟨⟨⟨_, rfl, rfl⟩, by kernel_rfl⟩, List.forall_mem_cons.2 ⟨⟨⟨_, rfl, rfl⟩, by kernel_rfl⟩, List.forall_mem_cons.2 ⟨⟨⟨_, rfl, rfl⟩, by kernel_rfl⟩, List.forall_mem_nil _⟩⟩⟩⟩⟩⟩⟩⟩⟩⟩⟩⟩⟩⟩⟩⟩, trivial⟩
theorem rX_ok : rX.Ok Try.prog FI FB :=
  Con.of_plain (body := Try.f13.body.getD .skip) pok fiok (EntsFor.cons rC_ok EntsFor.nil) rX Try.func13 (by kernel_rfl) 4 [] (by kernel_rfl) [rX_L0] ⟨rX_h0, trivial⟩ rX_c
    rX_inv rX_mu (fun _ _ _ => trivial) fun kv iv0 bv0 hin hF k l iv bv hk ha hi => match k, hk, hi with
    | 0, hk, hi => by
      cases hk
      exact List.forall_mem_cons.2 ⟨rX_o0_0 kv iv0 bv0 hin hF iv bv ha hi, List.forall_mem_cons.2 ⟨rX_o0_1 kv iv0 bv0 hin hF iv bv ha hi, List.forall_mem_cons.2 ⟨rX_o0_2 kv iv0 bv0 hin hF iv bv ha hi, List.forall_mem_cons.2 ⟨rX_o0_3 kv iv0 bv0 hin hF iv bv ha hi, List.forall_mem_cons.2 ⟨rX_o0_4 kv iv0 bv0 hin hF iv bv ha hi, List.forall_mem_cons.2 ⟨rX_o0_5 kv iv0 bv0 hin hF iv bv ha hi, List.forall_mem_cons.2 ⟨rX_o0_6 kv iv0 bv0 hin hF iv bv ha hi, List.forall_mem_cons.2 ⟨rX_o0_7 kv iv0 bv0 hin hF iv bv ha hi, List.forall_mem_cons.2 ⟨rX_o0_8 kv iv0 bv0 hin hF iv bv ha hi, List.forall_mem_cons.2 ⟨rX_o0_9 kv iv0 bv0 hin hF iv bv ha hi, List.forall_mem_cons.2 ⟨rX_o0_10 kv iv0 bv0 hin hF iv bv ha hi, List.forall_mem_cons.2 ⟨rX_o0_11 kv iv0 bv0 hin hF iv bv ha hi, List.forall_mem_cons.2 ⟨rX_o0_12 kv iv0 bv0 hin hF iv bv ha hi, List.forall_mem_cons.2 ⟨rX_o0_13 kv iv0 bv0 hin hF iv bv ha hi, List.forall_mem_cons.2 ⟨rX_o0_14 kv iv0 bv0 hin hF iv bv ha hi, List.forall_mem_cons.2 ⟨rX_o0_15 kv iv0 bv0 hin hF iv bv ha hi, List.forall_mem_nil _⟩⟩⟩⟩⟩⟩⟩⟩⟩⟩⟩⟩⟩⟩⟩⟩
    | k + 1, hk, _ => by simp at hk
end Go.Sx.Esc
