/- A symbolic executor: contracts: what is left to be shown of each way, in numbers. -/
import Derived.Test.YtimdcofalpglbaaSxT
namespace Go.Sx
set_option linter.unusedVariables false
set_option linter.unusedSimpArgs false
open Go.RowKit

mutual
/-- the same value, leaf by leaf -/
def SV.Eqv (σ : Sta) (ρ ρ' : Dyn) : SV → SV → Prop
  | .it k e, .it k' e' => k = k' ∧ e.den σ ρ = e'.den σ ρ'
  | .bo p, .bo q => p.den σ ρ = q.den σ ρ'
  | .ag l, .ag l' => SV.EqvL σ ρ ρ' l l'
  | .tp l, .tp l' => SV.EqvL σ ρ ρ' l l'
  | .sn, .sn => True
  | .pn, .pn => True
  | .mn, .mn => True
  | .fz, .fz => True
  | .fcn, .fcn => True
  | _, _ => False
def SV.EqvL (σ : Sta) (ρ ρ' : Dyn) : List SV → List SV → Prop
  | [], [] => True
  | a :: l, b :: l' => SV.Eqv σ ρ ρ' a b ∧ SV.EqvL σ ρ ρ' l l'
  | _, _ => False
end
mutual
theorem SV.eqv_is {σ : Sta} {ρ ρ' : Dyn} : ∀ (x y : SV) (u : Value), SV.Eqv σ ρ ρ' x y → x.Is σ ρ u → y.Is σ ρ' u
  | .it k e, y, u, h, hu => by
    cases y <;> simp only [SV.Eqv] at h
    obtain ⟨rfl, h⟩ := h
    simp only [SV.Is] at hu ⊢
    rw [← h]; exact hu
  | .bo p, y, u, h, hu => by
    cases y <;> simp only [SV.Eqv] at h
    simp only [SV.Is] at hu ⊢
    rw [← h]; exact hu
  | .ag l, y, u, h, hu => by
    cases y <;> simp only [SV.Eqv] at h
    simp only [SV.Is] at hu ⊢
    obtain ⟨vs, h1, rfl⟩ := hu
    exact ⟨vs, SV.eqvL_is l _ vs h h1, rfl⟩
  | .tp l, y, u, h, hu => by
    cases y <;> simp only [SV.Eqv] at h
    simp only [SV.Is] at hu ⊢
    obtain ⟨vs, h1, rfl⟩ := hu
    exact ⟨vs, SV.eqvL_is l _ vs h h1, rfl⟩
  | .sn, y, u, h, hu => by cases y <;> simp only [SV.Eqv] at h; simp only [SV.Is] at hu ⊢; exact hu
  | .pn, y, u, h, hu => by cases y <;> simp only [SV.Eqv] at h; simp only [SV.Is] at hu ⊢; exact hu
  | .mn, y, u, h, hu => by cases y <;> simp only [SV.Eqv] at h; simp only [SV.Is] at hu ⊢; exact hu
  | .fz, y, u, h, hu => by cases y <;> simp only [SV.Eqv] at h; simp only [SV.Is] at hu ⊢; exact hu
  | .fcn, y, u, h, hu => by cases y <;> simp only [SV.Eqv] at h; simp only [SV.Is] at hu ⊢; exact hu
  | .any, y, u, h, hu => by cases y <;> simp only [SV.Eqv] at h
  | .st _, y, u, h, hu => by cases y <;> simp only [SV.Eqv] at h
  | .pt _ _, y, u, h, hu => by cases y <;> simp only [SV.Eqv] at h
  | .sl _ _ _ _, y, u, h, hu => by cases y <;> simp only [SV.Eqv] at h
  | .mp _, y, u, h, hu => by cases y <;> simp only [SV.Eqv] at h
  | .fn _ _ _, y, u, h, hu => by cases y <;> simp only [SV.Eqv] at h
  | .yl _, y, u, h, hu => by cases y <;> simp only [SV.Eqv] at h
  | .fc _ _, y, u, h, hu => by cases y <;> simp only [SV.Eqv] at h
  | .va _, y, u, h, hu => by cases y <;> simp only [SV.Eqv] at h
  | .dv _, y, u, h, hu => by cases y <;> simp only [SV.Eqv] at h
theorem SV.eqvL_is {σ : Sta} {ρ ρ' : Dyn} : ∀ (l l' : List SV) (us : List Value), SV.EqvL σ ρ ρ' l l' → SV.IsL σ ρ l us → SV.IsL σ ρ' l' us
  | [], l', us, h, hu => by
    cases l' <;> simp only [SV.EqvL] at h
    rw [SV.isL_nil] at hu ⊢; exact hu
  | a :: l, l', us, h, hu => by
    cases l' <;> simp only [SV.EqvL] at h
    rw [SV.isL_cons] at hu ⊢
    obtain ⟨u, r, rfl, h1, h2⟩ := hu
    exact ⟨u, r, rfl, SV.eqv_is a _ u h.1 h1, SV.eqvL_is l _ r h.2 h2⟩
end

/-- what is left of a way -/
def WyOk (FI : FIx) (FB : FBx) (iv : Nat → Int) (bv : Nat → Bool) (R : SV) (y : Wy) : Prop :=
  ∀ ρ, Known (sta FI FB iv bv) ρ y.facts → match y.z with | some z => SV.Eqv (sta FI FB iv bv) ρ dyn0 z R | none => False

theorem Con.of {P : Program} {eqt : List TypeId} {FI : FIx} {FB : FBx} {BF : List (Nat × Int × Int)} {E : Ents} (hP : POk P eqt) (hbf : BfOk FI BF) (hE : EntsFor P FI FB BF E) (c : Con) {fn : Func} {body : Code} (hfn : P.funcs[c.g]? = some fn) (hbd : fn.body = some body) {n k : Nat} {L : List Wy}
    (hL : (ex ⟨P, ⟨c.B, BF⟩, [], eqt⟩ E (dw ⟨P, ⟨c.B, BF⟩, [], eqt⟩ E n k) (fun _ _ => false) n (enterF c.g fn body c.A) [] (hp0 ⟨c.B, BF⟩ [])).wys = some L)
    (h : ∀ iv bv, InB c.B iv → ∀ y ∈ L, WyOk FI FB iv bv c.R y) : c.Ok P FI FB := by
  refine Con.of_ways hP hbf hE c hfn hbd hL fun iv bv hin y hy ρ hk => ?_
  have := h iv bv hin y hy ρ hk
  split
  · rename_i z hz
    rw [hz] at this
    exact fun u hu => SV.eqv_is z c.R u this hu
  · rename_i hz
    rw [hz] at this
    exact this

theorem wrap_i64 (x : Int) : IntKind.i64.wrap x = (x + 9223372036854775808) % 18446744073709551616 - 9223372036854775808 := by
  simp only [IntKind.wrap, IntKind.bits, IntKind.signed]
  simp only [Bool.true_and]
  split
  · rename_i h
    simp only [ge_iff_le, decide_eq_true_eq] at h
    omega
  · rename_i h
    simp only [ge_iff_le, decide_eq_true_eq] at h
    omega
theorem wrap_u64 (x : Int) : IntKind.u64.wrap x = x % 18446744073709551616 := by
  simp only [IntKind.wrap, IntKind.bits, IntKind.signed]
  simp only [Bool.false_and, Bool.false_eq_true, if_false]
  omega

end Go.Sx
