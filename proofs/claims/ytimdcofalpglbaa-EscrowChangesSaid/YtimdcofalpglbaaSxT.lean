/- A symbolic executor: calls of functions that are handed plain values, by contract. -/
import Derived.Test.YtimdcofalpglbaaSxS
namespace Go.Sx
set_option linter.unusedVariables false
set_option linter.unusedSimpArgs false
open Go.RowKit

/-! ### What is asked of a program -/
noncomputable def eqtOk (P : Program) (t : TypeId) : Bool :=
  bif P.stoodInHeld t then false else bif P.eqGuardType P.depth t then false else match P.underlying t with | some (.struct fs) => lall (fun f => !(f.name == "_")) fs.toList | _ => true
structure POk (P : Program) (eqt : List TypeId) : Prop where
  eqt : ∀ t ∈ eqt, P.stoodInHeld t = false ∧ P.eqGuardType P.depth t = false ∧ ∀ fs, P.underlying t = some (.struct fs) → ∀ f ∈ fs.toList, f.name ≠ "_"
  names : ∀ (f : Nat) (fn : Func), P.funcs[f]? = some fn → (fn.name == "runtime.NumGoroutine") = false
  mixed : P.follows .mixedOrders = true
theorem POk.of {P : Program} {eqt : List TypeId} (h1 : lall (fun fn => !(fn.name == "runtime.NumGoroutine")) P.funcs.toList = true) (h2 : P.follows .mixedOrders = true) (h3 : lall (eqtOk P) eqt = true) : POk P eqt := by
  refine ⟨fun t ht => ?_, fun f fn hf => ?_, h2⟩
  · have := lall_iff.1 h3 t ht
    unfold eqtOk at this
    cases e1 : P.stoodInHeld t with
    | true => rw [e1] at this; cases this
    | false =>
      rw [e1, cond_false] at this
      cases e2 : P.eqGuardType P.depth t with
      | true => rw [e2] at this; cases this
      | false =>
        rw [e2, cond_false] at this
        refine ⟨rfl, rfl, fun fs hfs f hf he => ?_⟩
        rw [hfs] at this
        have := lall_iff.1 this f hf
        rw [he] at this
        simp at this
  · have hm : fn ∈ P.funcs.toList := by
      have := Array.mem_of_getElem? hf
      exact Array.mem_toList_iff.2 this
    have := lall_iff.1 h1 fn hm
    simpa using this

abbrev FIx := Nat → Int → Int → Int → Int → Int → Int → Int
abbrev FBx := Nat → Int → Int → Int → Int → Int → Int → Bool
def sta (FI : FIx) (FB : FBx) (iv : Nat → Int) (bv : Nat → Bool) : Sta :=
  { iv, bv, sv := fun _ => ByteArray.empty, vv := fun _ => undef, kv := fun _ => 0, lv := fun _ => [], op := fun _ _ => False, fi := FI, fb := FB }
def ctB (σ : Sta) (w : World) : Ct := { σ, phi := fun j _ U => j = 0 ∧ ∀ b o, w.heap[b]? = some o → U b o, mono := fun _ _ _ _ _ _ hU ⟨h1, h2⟩ => ⟨h1, fun b o h => hU b o (h2 b o h)⟩ }
theorem ctB_base (σ : Sta) (w : World) : (ctB σ w).Base w := fun _ _ => ⟨fun h => h.2, fun h => ⟨rfl, h⟩⟩

/-! ### The ways of a run -/
noncomputable def Tr.wys (t : Tr) : Option (List Wy) :=
  Tr.rec (motive := fun _ => Option (List Wy)) (fun z H => some [⟨H.facts, some z⟩]) (fun _ _ _ => none) (fun _ _ _ a b => match a, b with | some x, some y => some (lapp x y) | _, _ => none) (fun _ _ _ H => some [⟨H.facts, none⟩]) t
theorem Tr.wys_ok : ∀ {t : Tr} {L : List Wy}, t.wys = some L → t.whole = true ∧ t.ways = L
  | .leaf z H, L, h => by
    have h' : some [(⟨H.facts, some z⟩ : Wy)] = some L := h
    cases h'; exact ⟨rfl, rfl⟩
  | .cut f fs H, L, h => by cases h
  | .fork p a b, L, h => by
    have h' : (match a.wys, b.wys with | some x, some y => some (lapp x y) | _, _ => none) = some L := h
    cases ha : a.wys with
    | none => rw [ha] at h'; cases h'
    | some x =>
      cases hb : b.wys with
      | none => rw [ha, hb] at h'; cases h'
      | some y =>
        rw [ha, hb] at h'
        cases h'
        obtain ⟨a1, a2⟩ := Tr.wys_ok ha
        obtain ⟨b1, b2⟩ := Tr.wys_ok hb
        refine ⟨?_, ?_⟩
        · show (bif a.whole then b.whole else false) = true
          rw [a1, b1]; rfl
        · show lapp a.ways b.ways = _
          rw [a2, b2]
  | .bad n f fs H, L, h => by
    have h' : some [(⟨H.facts, none⟩ : Wy)] = some L := h
    cases h'; exact ⟨rfl, rfl⟩

/-! ### Contracts -/
structure Con where
  g : FuncId
  A : List SV
  B : List (Nat × Int × Int)
  R : SV
def InB (B : List (Nat × Int × Int)) (iv : Nat → Int) : Prop := ∀ i a b, (i, a, b) ∈ B → a ≤ iv i ∧ iv i ≤ b
def Con.Ok (P : Program) (FI : FIx) (FB : FBx) (c : Con) : Prop :=
  ∀ iv bv, InB c.B iv → ∀ us, SV.IsL (sta FI FB iv bv) dyn0 c.A us → ∀ w, Calls P c.g us.toArray w fun e w' => ∃ u, e = .returned u ∧ c.R.Is (sta FI FB iv bv) dyn0 u ∧ Below w.heap.size w w'

/-- what the variables of a pattern stand for -/
structure Sb where
  i : List (Nat × SI)
  b : List (Nat × SB)
mutual
noncomputable def mtch : SV → SV → Sb → Option Sb
  | .it k (.v i), .it k' e, s => bif keq k k' then (match get s.i i with | none => some ⟨(i, e) :: s.i, s.b⟩ | some _ => none) else none
  | .bo (.v i), .bo p, s => match get s.b i with | none => some ⟨s.i, (i, p) :: s.b⟩ | some _ => none
  | .ag l, .ag l', s => mtchL l l' s
  | .tp l, .tp l', s => mtchL l l' s
  | .sn, .sn, s => some s
  | .pn, .pn, s => some s
  | .mn, .mn, s => some s
  | .fz, .fz, s => some s
  | .fcn, .fcn, s => some s
  | _, _, _ => none
noncomputable def mtchL : List SV → List SV → Sb → Option Sb
  | [], [], s => some s
  | a :: l, z :: l', s => match mtch a z s with | some s' => mtchL l l' s' | none => none
  | _, _, _ => none
end
structure Sb.Le (s s' : Sb) : Prop where
  i : ∀ j e, get s.i j = some e → get s'.i j = some e
  b : ∀ j e, get s.b j = some e → get s'.b j = some e
theorem Sb.Le.refl (s : Sb) : s.Le s := ⟨fun _ _ h => h, fun _ _ h => h⟩
theorem Sb.Le.trans {a b c : Sb} (h : a.Le b) (k : b.Le c) : a.Le c := ⟨fun j e x => k.i j e (h.i j e x), fun j e x => k.b j e (h.b j e x)⟩
/-- the assignment gives the variables what the substitution says -/
structure Sb.Ag (σ : Sta) (ρ : Dyn) (s : Sb) (iv : Nat → Int) (bv : Nat → Bool) : Prop where
  i : ∀ j e, get s.i j = some e → e.den σ ρ = some (iv j)
  b : ∀ j e, get s.b j = some e → e.den σ ρ = some (bv j)
structure Sb.Def (σ : Sta) (ρ : Dyn) (s : Sb) : Prop where
  i : ∀ j e, get s.i j = some e → ∃ x, e.den σ ρ = some x
  b : ∀ j e, get s.b j = some e → ∃ x, e.den σ ρ = some x
theorem Sb.Def.ag {σ : Sta} {ρ : Dyn} {s : Sb} (h : s.Def σ ρ) : s.Ag σ ρ (fun j => match get s.i j with | some e => (e.den σ ρ).getD 0 | none => 0) (fun j => match get s.b j with | some e => (e.den σ ρ).getD false | none => false) := by
  refine ⟨fun j e hj => ?_, fun j e hj => ?_⟩
  · obtain ⟨x, hx⟩ := h.i j e hj
    simp [hj, hx]
  · obtain ⟨x, hx⟩ := h.b j e hj
    simp [hj, hx]
theorem Sb.Ag.of_le {σ : Sta} {ρ : Dyn} {s s' : Sb} {iv : Nat → Int} {bv : Nat → Bool} (h : s'.Ag σ ρ iv bv) (hl : s.Le s') : s.Ag σ ρ iv bv := ⟨fun j e x => h.i j e (hl.i j e x), fun j e x => h.b j e (hl.b j e x)⟩

mutual
theorem mtch_ok {FI : FIx} {FB : FBx} {σ : Sta} {ρ : Dyn} : ∀ (a z : SV) (s s' : Sb) (u : Value), mtch a z s = some s' → z.Is σ ρ u → s.Def σ ρ → s.Le s' ∧ s'.Def σ ρ ∧ ∀ iv bv, s'.Ag σ ρ iv bv → a.Is (sta FI FB iv bv) dyn0 u
  | .it k e0, z, s, s', u, h, hz, hd => by
    cases e0 <;> cases z <;> simp only [mtch] at h <;> try (cases h)
    rename_i i k' e
    cases hk : keq k k' with
    | false => rw [hk] at h; cases h
    | true =>
      rw [hk, cond_true] at h
      have := keq_eq hk; subst this
      split at h
      · rename_i hn
        cases h
        simp only [SV.Is] at hz
        obtain ⟨x, hx, rfl⟩ := hz
        refine ⟨⟨fun j e' he => ?_, fun _ _ h => h⟩, ⟨fun j e' he => ?_, hd.b⟩, fun iv bv hag => ?_⟩
        · rw [get_cons, if_neg]
          · exact he
          · intro e''; simp only at e''; subst e''; rw [hn] at he; cases he
        · rw [get_cons] at he
          split at he
          · cases he; exact ⟨x, hx⟩
          · exact hd.i j e' he
        · have := hag.i i e (by rw [get_cons, if_pos rfl])
          rw [hx] at this
          cases this
          simp only [SV.Is]
          exact ⟨_, rfl, rfl⟩
      · cases h
  | .bo e0, z, s, s', u, h, hz, hd => by
    cases e0 <;> cases z <;> simp only [mtch] at h <;> try (cases h)
    rename_i i e
    split at h
    · rename_i hn
      cases h
      simp only [SV.Is] at hz
      obtain ⟨x, hx, rfl⟩ := hz
      refine ⟨⟨fun _ _ h => h, fun j e' he => ?_⟩, ⟨hd.i, fun j e' he => ?_⟩, fun iv bv hag => ?_⟩
      · rw [get_cons, if_neg]
        · exact he
        · intro e''; simp only at e''; subst e''; rw [hn] at he; cases he
      · rw [get_cons] at he
        split at he
        · cases he; exact ⟨x, hx⟩
        · exact hd.b j e' he
      · have := hag.b i e (by rw [get_cons, if_pos rfl])
        rw [hx] at this
        cases this
        simp only [SV.Is]
        exact ⟨_, rfl, rfl⟩
    · cases h
  | .ag l, z, s, s', u, h, hz, hd => by
    cases z <;> simp only [mtch] at h <;> try (cases h)
    rename_i l'
    simp only [SV.Is] at hz
    obtain ⟨vs, h1, rfl⟩ := hz
    obtain ⟨k1, k2, k3⟩ := mtchL_ok l l' s s' vs h h1 hd
    exact ⟨k1, k2, fun iv bv hag => by simp only [SV.Is]; exact ⟨vs, k3 iv bv hag, rfl⟩⟩
  | .tp l, z, s, s', u, h, hz, hd => by
    cases z <;> simp only [mtch] at h <;> try (cases h)
    rename_i l'
    simp only [SV.Is] at hz
    obtain ⟨vs, h1, rfl⟩ := hz
    obtain ⟨k1, k2, k3⟩ := mtchL_ok l l' s s' vs h h1 hd
    exact ⟨k1, k2, fun iv bv hag => by simp only [SV.Is]; exact ⟨vs, k3 iv bv hag, rfl⟩⟩
  | .sn, z, s, s', u, h, hz, hd => by
    cases z <;> simp only [mtch] at h <;> cases h
    exact ⟨Sb.Le.refl _, hd, fun _ _ _ => by simp only [SV.Is] at hz ⊢; exact hz⟩
  | .pn, z, s, s', u, h, hz, hd => by
    cases z <;> simp only [mtch] at h <;> cases h
    exact ⟨Sb.Le.refl _, hd, fun _ _ _ => by simp only [SV.Is] at hz ⊢; exact hz⟩
  | .mn, z, s, s', u, h, hz, hd => by
    cases z <;> simp only [mtch] at h <;> cases h
    exact ⟨Sb.Le.refl _, hd, fun _ _ _ => by simp only [SV.Is] at hz ⊢; exact hz⟩
  | .fz, z, s, s', u, h, hz, hd => by
    cases z <;> simp only [mtch] at h <;> cases h
    exact ⟨Sb.Le.refl _, hd, fun _ _ _ => by simp only [SV.Is] at hz ⊢; exact hz⟩
  | .fcn, z, s, s', u, h, hz, hd => by
    cases z <;> simp only [mtch] at h <;> cases h
    exact ⟨Sb.Le.refl _, hd, fun _ _ _ => by simp only [SV.Is] at hz ⊢; exact hz⟩
  | .any, z, s, s', u, h, hz, hd => by cases z <;> simp only [mtch] at h <;> cases h
  | .st _, z, s, s', u, h, hz, hd => by cases z <;> simp only [mtch] at h <;> cases h
  | .pt _ _, z, s, s', u, h, hz, hd => by cases z <;> simp only [mtch] at h <;> cases h
  | .sl _ _ _ _, z, s, s', u, h, hz, hd => by cases z <;> simp only [mtch] at h <;> cases h
  | .mp _, z, s, s', u, h, hz, hd => by cases z <;> simp only [mtch] at h <;> cases h
  | .fn _ _ _, z, s, s', u, h, hz, hd => by cases z <;> simp only [mtch] at h <;> cases h
  | .yl _, z, s, s', u, h, hz, hd => by cases z <;> simp only [mtch] at h <;> cases h
  | .fc _ _, z, s, s', u, h, hz, hd => by cases z <;> simp only [mtch] at h <;> cases h
  | .va _, z, s, s', u, h, hz, hd => by cases z <;> simp only [mtch] at h <;> cases h
  | .dv _, z, s, s', u, h, hz, hd => by cases z <;> simp only [mtch] at h <;> cases h
theorem mtchL_ok {FI : FIx} {FB : FBx} {σ : Sta} {ρ : Dyn} : ∀ (l l' : List SV) (s s' : Sb) (us : List Value), mtchL l l' s = some s' → SV.IsL σ ρ l' us → s.Def σ ρ → s.Le s' ∧ s'.Def σ ρ ∧ ∀ iv bv, s'.Ag σ ρ iv bv → SV.IsL (sta FI FB iv bv) dyn0 l us
  | [], l', s, s', us, h, hz, hd => by
    cases l' with
    | nil =>
      simp only [mtchL, Option.some.injEq] at h
      subst h
      rw [SV.isL_nil] at hz; subst hz
      exact ⟨Sb.Le.refl _, hd, fun _ _ _ => SV.isL_nil.2 rfl⟩
    | cons => simp only [mtchL] at h; cases h
  | a :: l, l', s, s', us, h, hz, hd => by
    cases l' with
    | nil => simp only [mtchL] at h; cases h
    | cons z l' =>
      simp only [mtchL] at h
      rw [SV.isL_cons] at hz
      obtain ⟨u, r, rfl, h1, h2⟩ := hz
      split at h
      · rename_i s1 hs1
        obtain ⟨k1, k2, k3⟩ := mtch_ok (FI := FI) (FB := FB) a z s s1 u hs1 h1 hd
        obtain ⟨m1, m2, m3⟩ := mtchL_ok l l' s1 s' r h h2 k2
        exact ⟨k1.trans m1, m2, fun iv bv hag => by rw [SV.isL_cons]; exact ⟨u, r, rfl, k3 iv bv (hag.of_le m1), m3 iv bv hag⟩⟩
      · cases h
end

/-! ### The result, with what the variables stand for -/
noncomputable def SI.sbs (s : Sb) (x : SI) : Option SI :=
  SI.rec (motive := fun _ => Option SI) (fun n => some (.c n)) (fun i => get s.i i) (fun _ => none)
    (fun f _ _ a b => match a, b with | some a, some b => some (.op f a b) | _, _ => none)
    (fun k _ a => match a with | some a => some (.wk k a) | none => none)
    (fun f _ _ _ _ _ _ a b c d e g => match a, b, c, d, e, g with | some a, some b, some c, some d, some e, some g => some (.ap f a b c d e g) | _, _, _, _, _, _ => none) x
theorem SI.sbs_ok {FI : FIx} {FB : FBx} {σ : Sta} {ρ : Dyn} {s : Sb} {iv : Nat → Int} {bv : Nat → Bool} (h : s.Ag σ ρ iv bv) (hfi : σ.fi = FI) : ∀ {x y : SI}, x.sbs s = some y → y.den σ ρ = x.den (sta FI FB iv bv) dyn0 := by
  intro x
  induction x with
  | c n => intro y e; cases e; rfl
  | v i => intro y e; exact h.i i y e
  | d i => intro y e; cases e
  | op f a b ha hb =>
    intro y e
    have e' : (match a.sbs s, b.sbs s with | some a, some b => some (SI.op f a b) | _, _ => none) = some y := e
    cases h1 : a.sbs s with
    | none => rw [h1] at e'; cases e'
    | some a' =>
      cases h2 : b.sbs s with
      | none => rw [h1, h2] at e'; cases e'
      | some b' =>
        rw [h1, h2] at e'; cases e'
        simp only [SI.den, ha h1, hb h2]
  | wk k a ha =>
    intro y e
    have e' : (match a.sbs s with | some a => some (SI.wk k a) | none => none) = some y := e
    cases h1 : a.sbs s with
    | none => rw [h1] at e'; cases e'
    | some a' =>
      rw [h1] at e'; cases e'
      simp only [SI.den, ha h1]
  | ap f a b c d e g ha hb hc hd he hg =>
    intro y ee
    have e' : (match a.sbs s, b.sbs s, c.sbs s, d.sbs s, e.sbs s, g.sbs s with | some a, some b, some c, some d, some e, some g => some (SI.ap f a b c d e g) | _, _, _, _, _, _ => none) = some y := ee
    cases h1 : a.sbs s with
    | none => rw [h1] at e'; cases e'
    | some a' =>
    cases h2 : b.sbs s with
    | none => rw [h1, h2] at e'; cases e'
    | some b' =>
    cases h3 : c.sbs s with
    | none => rw [h1, h2, h3] at e'; cases e'
    | some c' =>
    cases h4 : d.sbs s with
    | none => rw [h1, h2, h3, h4] at e'; cases e'
    | some d' =>
    cases h5 : e.sbs s with
    | none => rw [h1, h2, h3, h4, h5] at e'; cases e'
    | some f' =>
    cases h6 : g.sbs s with
    | none => rw [h1, h2, h3, h4, h5, h6] at e'; cases e'
    | some g' =>
      rw [h1, h2, h3, h4, h5, h6] at e'; cases e'
      simp only [SI.den, ha h1, hb h2, hc h3, hd h4, he h5, hg h6, sta, hfi]
noncomputable def SB.sbs (s : Sb) (x : SB) : Option SB :=
  SB.rec (motive := fun _ => Option SB) (fun b => some (.c b)) (fun i => get s.b i)
    (fun x y => match x.sbs s, y.sbs s with | some a, some b => some (.lt a b) | _, _ => none)
    (fun x y => match x.sbs s, y.sbs s with | some a, some b => some (.le a b) | _, _ => none)
    (fun x y => match x.sbs s, y.sbs s with | some a, some b => some (.eq a b) | _, _ => none)
    (fun _ _ => none)
    (fun f a b c d e g => match a.sbs s, b.sbs s, c.sbs s, d.sbs s, e.sbs s, g.sbs s with | some a, some b, some c, some d, some e, some g => some (.ap f a b c d e g) | _, _, _, _, _, _ => none)
    (fun _ a => match a with | some a => some (.not a) | none => none)
    (fun _ _ a b => match a, b with | some a, some b => some (.and a b) | _, _ => none)
    (fun _ _ a b => match a, b with | some a, some b => some (.or a b) | _, _ => none) x
theorem SB.sbs_ok {FI : FIx} {FB : FBx} {σ : Sta} {ρ : Dyn} {s : Sb} {iv : Nat → Int} {bv : Nat → Bool} (h : s.Ag σ ρ iv bv) (hfi : σ.fi = FI) (hfb : σ.fb = FB) : ∀ {x y : SB}, x.sbs s = some y → y.den σ ρ = x.den (sta FI FB iv bv) dyn0 := by
  have two : ∀ {a b a' b' : SI} {f : SI → SI → SB}, (match a.sbs s, b.sbs s with | some a, some b => some (f a b) | _, _ => none) = some (f a' b') → (∀ x y x' y', f x y = f x' y' → x = x' ∧ y = y') → a.sbs s = some a' ∧ b.sbs s = some b' := by
    intro a b a' b' f e hf
    cases h1 : a.sbs s with
    | none => rw [h1] at e; cases e
    | some x =>
      cases h2 : b.sbs s with
      | none => rw [h1, h2] at e; cases e
      | some y =>
        rw [h1, h2] at e
        obtain ⟨r1, r2⟩ := hf _ _ _ _ (Option.some.inj e)
        exact ⟨by rw [r1], by rw [r2]⟩
  intro x
  induction x with
  | c n => intro y e; cases e; rfl
  | v i => intro y e; exact h.b i y e
  | seq a b => intro y e; cases e
  | lt a b =>
    intro y e
    have e' : (match a.sbs s, b.sbs s with | some a, some b => some (SB.lt a b) | _, _ => none) = some y := e
    cases h1 : a.sbs s with
    | none => rw [h1] at e'; cases e'
    | some x =>
      cases h2 : b.sbs s with
      | none => rw [h1, h2] at e'; cases e'
      | some z => rw [h1, h2] at e'; cases e'; simp only [SB.den, SI.sbs_ok h hfi h1 (FB := FB), SI.sbs_ok h hfi h2 (FB := FB)]
  | le a b =>
    intro y e
    have e' : (match a.sbs s, b.sbs s with | some a, some b => some (SB.le a b) | _, _ => none) = some y := e
    cases h1 : a.sbs s with
    | none => rw [h1] at e'; cases e'
    | some x =>
      cases h2 : b.sbs s with
      | none => rw [h1, h2] at e'; cases e'
      | some z => rw [h1, h2] at e'; cases e'; simp only [SB.den, SI.sbs_ok h hfi h1 (FB := FB), SI.sbs_ok h hfi h2 (FB := FB)]
  | eq a b =>
    intro y e
    have e' : (match a.sbs s, b.sbs s with | some a, some b => some (SB.eq a b) | _, _ => none) = some y := e
    cases h1 : a.sbs s with
    | none => rw [h1] at e'; cases e'
    | some x =>
      cases h2 : b.sbs s with
      | none => rw [h1, h2] at e'; cases e'
      | some z => rw [h1, h2] at e'; cases e'; simp only [SB.den, SI.sbs_ok h hfi h1 (FB := FB), SI.sbs_ok h hfi h2 (FB := FB)]
  | ap f a b c d e g =>
    intro y ee
    have e' : (match a.sbs s, b.sbs s, c.sbs s, d.sbs s, e.sbs s, g.sbs s with | some a, some b, some c, some d, some e, some g => some (SB.ap f a b c d e g) | _, _, _, _, _, _ => none) = some y := ee
    cases h1 : a.sbs s with
    | none => rw [h1] at e'; cases e'
    | some a' =>
    cases h2 : b.sbs s with
    | none => rw [h1, h2] at e'; cases e'
    | some b' =>
    cases h3 : c.sbs s with
    | none => rw [h1, h2, h3] at e'; cases e'
    | some c' =>
    cases h4 : d.sbs s with
    | none => rw [h1, h2, h3, h4] at e'; cases e'
    | some d' =>
    cases h5 : e.sbs s with
    | none => rw [h1, h2, h3, h4, h5] at e'; cases e'
    | some f' =>
    cases h6 : g.sbs s with
    | none => rw [h1, h2, h3, h4, h5, h6] at e'; cases e'
    | some g' =>
      rw [h1, h2, h3, h4, h5, h6] at e'; cases e'
      simp only [SB.den, SI.sbs_ok h hfi h1 (FB := FB), SI.sbs_ok h hfi h2 (FB := FB), SI.sbs_ok h hfi h3 (FB := FB), SI.sbs_ok h hfi h4 (FB := FB), SI.sbs_ok h hfi h5 (FB := FB), SI.sbs_ok h hfi h6 (FB := FB), sta, hfb]
  | not a ha =>
    intro y e
    have e' : (match a.sbs s with | some a => some (SB.not a) | none => none) = some y := e
    cases h1 : a.sbs s with
    | none => rw [h1] at e'; cases e'
    | some x => rw [h1] at e'; cases e'; simp only [SB.den, ha h1]
  | and a b ha hb =>
    intro y e
    have e' : (match a.sbs s, b.sbs s with | some a, some b => some (SB.and a b) | _, _ => none) = some y := e
    cases h1 : a.sbs s with
    | none => rw [h1] at e'; cases e'
    | some x =>
      cases h2 : b.sbs s with
      | none => rw [h1, h2] at e'; cases e'
      | some z => rw [h1, h2] at e'; cases e'; simp only [SB.den, ha h1, hb h2]
  | or a b ha hb =>
    intro y e
    have e' : (match a.sbs s, b.sbs s with | some a, some b => some (SB.or a b) | _, _ => none) = some y := e
    cases h1 : a.sbs s with
    | none => rw [h1] at e'; cases e'
    | some x =>
      cases h2 : b.sbs s with
      | none => rw [h1, h2] at e'; cases e'
      | some z => rw [h1, h2] at e'; cases e'; simp only [SB.den, ha h1, hb h2]
mutual
noncomputable def SV.sbs (s : Sb) : SV → Option SV
  | .it k e => match e.sbs s with | some e => some (.it k e) | none => none
  | .bo p => match p.sbs s with | some p => some (.bo p) | none => none
  | .ag l => match SV.sbsL s l with | some l => some (.ag l) | none => none
  | .tp l => match SV.sbsL s l with | some l => some (.tp l) | none => none
  | .sn => some .sn
  | .pn => some .pn
  | .mn => some .mn
  | .fz => some .fz
  | .fcn => some .fcn
  | _ => none
noncomputable def SV.sbsL (s : Sb) : List SV → Option (List SV)
  | [] => some []
  | a :: l => match SV.sbs s a, SV.sbsL s l with | some a, some l => some (a :: l) | _, _ => none
end
mutual
theorem SV.sbs_ok {FI : FIx} {FB : FBx} {σ : Sta} {ρ : Dyn} {s : Sb} {iv : Nat → Int} {bv : Nat → Bool} (h : s.Ag σ ρ iv bv) (hfi : σ.fi = FI) (hfb : σ.fb = FB) : ∀ (x y : SV) (u : Value), SV.sbs s x = some y → x.Is (sta FI FB iv bv) dyn0 u → y.Is σ ρ u
  | .it k e, y, u, hs, hu => by
    simp only [SV.sbs] at hs
    split at hs
    · rename_i e' he
      cases hs
      simp only [SV.Is] at hu ⊢
      rw [SI.sbs_ok (FB := FB) h hfi he]; exact hu
    · cases hs
  | .bo e, y, u, hs, hu => by
    simp only [SV.sbs] at hs
    split at hs
    · rename_i e' he
      cases hs
      simp only [SV.Is] at hu ⊢
      rw [SB.sbs_ok h hfi hfb he]; exact hu
    · cases hs
  | .ag l, y, u, hs, hu => by
    simp only [SV.sbs] at hs
    split at hs
    · rename_i l' he
      cases hs
      simp only [SV.Is] at hu ⊢
      obtain ⟨vs, h1, rfl⟩ := hu
      exact ⟨vs, SV.sbsL_ok h hfi hfb l l' vs he h1, rfl⟩
    · cases hs
  | .tp l, y, u, hs, hu => by
    simp only [SV.sbs] at hs
    split at hs
    · rename_i l' he
      cases hs
      simp only [SV.Is] at hu ⊢
      obtain ⟨vs, h1, rfl⟩ := hu
      exact ⟨vs, SV.sbsL_ok h hfi hfb l l' vs he h1, rfl⟩
    · cases hs
  | .sn, y, u, hs, hu => by simp only [SV.sbs] at hs; cases hs; simp only [SV.Is] at hu ⊢; exact hu
  | .pn, y, u, hs, hu => by simp only [SV.sbs] at hs; cases hs; simp only [SV.Is] at hu ⊢; exact hu
  | .mn, y, u, hs, hu => by simp only [SV.sbs] at hs; cases hs; simp only [SV.Is] at hu ⊢; exact hu
  | .fz, y, u, hs, hu => by simp only [SV.sbs] at hs; cases hs; simp only [SV.Is] at hu ⊢; exact hu
  | .fcn, y, u, hs, hu => by simp only [SV.sbs] at hs; cases hs; simp only [SV.Is] at hu ⊢; exact hu
  | .any, y, u, hs, hu => by simp only [SV.sbs] at hs; cases hs
  | .st _, y, u, hs, hu => by simp only [SV.sbs] at hs; cases hs
  | .pt _ _, y, u, hs, hu => by simp only [SV.sbs] at hs; cases hs
  | .sl _ _ _ _, y, u, hs, hu => by simp only [SV.sbs] at hs; cases hs
  | .mp _, y, u, hs, hu => by simp only [SV.sbs] at hs; cases hs
  | .fn _ _ _, y, u, hs, hu => by simp only [SV.sbs] at hs; cases hs
  | .yl _, y, u, hs, hu => by simp only [SV.sbs] at hs; cases hs
  | .fc _ _, y, u, hs, hu => by simp only [SV.sbs] at hs; cases hs
  | .va _, y, u, hs, hu => by simp only [SV.sbs] at hs; cases hs
  | .dv _, y, u, hs, hu => by simp only [SV.sbs] at hs; cases hs
theorem SV.sbsL_ok {FI : FIx} {FB : FBx} {σ : Sta} {ρ : Dyn} {s : Sb} {iv : Nat → Int} {bv : Nat → Bool} (h : s.Ag σ ρ iv bv) (hfi : σ.fi = FI) (hfb : σ.fb = FB) : ∀ (l l' : List SV) (us : List Value), SV.sbsL s l = some l' → SV.IsL (sta FI FB iv bv) dyn0 l us → SV.IsL σ ρ l' us
  | [], l', us, hs, hu => by
    simp only [SV.sbsL, Option.some.injEq] at hs
    subst hs
    rw [SV.isL_nil] at hu ⊢; exact hu
  | a :: l, l', us, hs, hu => by
    simp only [SV.sbsL] at hs
    rw [SV.isL_cons] at hu
    obtain ⟨u, r, rfl, h1, h2⟩ := hu
    split at hs
    · rename_i a' l2 ha hl
      cases hs
      rw [SV.isL_cons]
      exact ⟨u, r, rfl, SV.sbs_ok h hfi hfb a a' u ha h1, SV.sbsL_ok h hfi hfb l l2 r hl h2⟩
    · cases hs
end

noncomputable def inRg (r : Rg) (a b : Int) : Bool := match r with | (some x, some y) => bif ile a x then ile y b else false | _ => false
noncomputable def Con.app (B : List (Nat × Int × Int)) (BF : List (Nat × Int × Int)) (A : List SV) (R : SV) (H : Hp) (args : List SV) : Option (SV × Hp) :=
  match mtchL A args ⟨[], []⟩ with
  | some s => bif lall (fun p => match get s.i p.1 with | some e => inRg (rg ⟨H.bd, BF⟩ e) p.2.1 p.2.2 | none => false) B then (match SV.sbs s R with | some z => some (z, H) | none => none) else none
  | none => none
noncomputable def Con.ent (BF : List (Nat × Int × Int)) (c : Con) : Nat × (Hp → List SV → Option (SV × Hp)) := (c.g, Con.app c.B BF c.A c.R)

theorem Con.callOk {P : Program} {FI : FIx} {FB : FBx} {BF : List (Nat × Int × Int)} {c : Con} (h : c.Ok P FI FB) {cc : Cc} {C : Ct} (hB : cc.B.Ok C.σ) (hP : cc.P = P) (hf : cc.B.f = BF) (hfi : C.σ.fi = FI) (hfb : C.σ.fb = FB) : CallOk cc C (c.ent BF).1 (c.ent BF).2 := by
  intro hc w0 ρ H w args us z H' hh ha happ
  have happ' : (match mtchL c.A args ⟨[], []⟩ with
    | some s => bif lall (fun p => match get s.i p.1 with | some e => inRg (rg ⟨H.bd, BF⟩ e) p.2.1 p.2.2 | none => false) c.B then (match SV.sbs s c.R with | some z => some (z, H) | none => none) else none
    | none => none) = some (z, H') := happ
  split at happ'
  · rename_i s hs
    obtain ⟨_, hdef, hA⟩ := mtchL_ok (FI := FI) (FB := FB) c.A args ⟨[], []⟩ s us hs ha ⟨(fun _ _ h => by cases h), (fun _ _ h => by cases h)⟩
    have hag := hdef.ag
    cases hck : lall (fun p => match get s.i p.1 with | some e => inRg (rg ⟨H.bd, BF⟩ e) p.2.1 p.2.2 | none => false) c.B with
    | false => rw [hck] at happ'; cases happ'
    | true =>
      rw [hck, cond_true] at happ'
      split at happ'
      · rename_i z' hz
        cases happ'
        have hbok : (⟨H.bd, BF⟩ : Bd).Ok C.σ := ⟨hh.bd, by rw [← hf]; exact hB.f⟩
        have hin : InB c.B (fun j => match get s.i j with | some e => (e.den C.σ ρ).getD 0 | none => 0) := by
          intro i a b hm
          have := lall_iff.1 hck (i, a, b) hm
          simp only at this
          cases hg : get s.i i with
          | none => rw [hg] at this; cases this
          | some e =>
            rw [hg] at this
            obtain ⟨x, hx⟩ := hdef.i i e hg
            have hr := rg_ok hbok e x hx
            simp only [hg, hx, Option.getD_some]
            have this : inRg (rg ⟨H.bd, BF⟩ e) a b = true := this
            generalize rg ⟨H.bd, BF⟩ e = r at this hr
            obtain ⟨r1, r2⟩ := r
            cases r1 with
            | none => cases this
            | some x1 =>
              cases r2 with
              | none => cases this
              | some x2 =>
                have this' : (bif ile a x1 then ile x2 b else false) = true := this
                cases h1 : ile a x1 with
                | false => rw [h1] at this'; cases this'
                | true =>
                  rw [h1, cond_true] at this'
                  have q1 := ile_iff.1 h1
                  have q2 := ile_iff.1 this'
                  have q3 := hr.1 x1 rfl
                  have q4 := hr.2 x2 rfl
                  exact ⟨Int.le_trans q1 q3, Int.le_trans q4 q2⟩
        have hcall := h _ _ hin us (hA _ _ hag) w
        rw [← hP] at hcall
        intro cs
        obtain ⟨e, w', fr, ⟨u, rfl, hR, hbl⟩, h1, h2, h3⟩ := hcall cs
        exact ⟨.returned u, w', fr, ⟨ρ, u, rfl, Tn.of_below hbl, SV.sbs_ok hag hfi hfb c.R z u hz hR, hh.below hbl⟩, h1, h2, h3⟩
      · cases happ'
  · cases happ'

/-- entries by contract, whatever the run stands in -/
def EntsFor (P : Program) (FI : FIx) (FB : FBx) (BF : List (Nat × Int × Int)) (E : Ents) : Prop :=
  ∀ (cc : Cc) (C : Ct), cc.B.Ok C.σ → cc.P = P → cc.B.f = BF → C.σ.fi = FI → C.σ.fb = FB → EntsOk cc C E
theorem EntsFor.nil {P : Program} {FI : FIx} {FB : FBx} {BF : List (Nat × Int × Int)} : EntsFor P FI FB BF [] := fun _ _ _ _ _ _ _ _ _ h => by cases h
theorem EntsFor.cons {P : Program} {FI : FIx} {FB : FBx} {BF : List (Nat × Int × Int)} {E : Ents} {c : Con} (h : c.Ok P FI FB) (hE : EntsFor P FI FB BF E) : EntsFor P FI FB BF (c.ent BF :: E) := by
  intro cc C hB hP hf hfi hfb f app hm
  rcases List.mem_cons.1 hm with e | hm
  · cases e; exact c.callOk h hB hP hf hfi hfb
  · exact hE cc C hB hP hf hfi hfb f app hm

/-- bounds of the functions -/
def BfOk (FI : FIx) (BF : List (Nat × Int × Int)) : Prop := ∀ i a b, (i, a, b) ∈ BF → ∀ x0 x1 x2 x3 x4 x5, a ≤ FI i x0 x1 x2 x3 x4 x5 ∧ FI i x0 x1 x2 x3 x4 x5 ≤ b

/-- A CONTRACT, BY THE WAYS OF THE FUNCTION's RUN -/
theorem Con.of_ways {P : Program} {eqt : List TypeId} {FI : FIx} {FB : FBx} {BF : List (Nat × Int × Int)} {E : Ents} (hP : POk P eqt) (hbf : BfOk FI BF) (hE : EntsFor P FI FB BF E) (c : Con) {fn : Func} {body : Code} (hfn : P.funcs[c.g]? = some fn) (hbd : fn.body = some body) {n k : Nat} {L : List Wy}
    (hL : (ex ⟨P, ⟨c.B, BF⟩, [], eqt⟩ E (dw ⟨P, ⟨c.B, BF⟩, [], eqt⟩ E n k) (fun _ _ => false) n (enterF c.g fn body c.A) [] (hp0 ⟨c.B, BF⟩ [])).wys = some L)
    (h : ∀ iv bv, InB c.B iv → ∀ y ∈ L, ∀ ρ, Known (sta FI FB iv bv) ρ y.facts → match y.z with | some z => ∀ u, z.Is (sta FI FB iv bv) ρ u → c.R.Is (sta FI FB iv bv) dyn0 u | none => False) : c.Ok P FI FB := by
  intro iv bv hin us hus w
  have hcc : (⟨P, ⟨c.B, BF⟩, [], eqt⟩ : Cc).Ok (ctB (sta FI FB iv bv) w) := ⟨⟨hin, hbf⟩, fun _ _ _ _ hm => (by cases hm), hP.eqt, hP.names, hP.mixed⟩
  have hE' := hE ⟨P, ⟨c.B, BF⟩, [], eqt⟩ (ctB (sta FI FB iv bv) w) ⟨hin, hbf⟩ rfl rfl rfl rfl
  obtain ⟨h1, h2⟩ := Tr.wys_ok hL
  exact calls_of_ways hcc hE' (dw_ok hcc hE' n k) (ctB_base _ w) (F := []) (fun f hf => by cases hf) (g := c.g) hfn hbd hus h1 h2 (Pv := fun u => c.R.Is (sta FI FB iv bv) dyn0 u) (h iv bv hin)

end Go.Sx
