/- A symbolic executor: regions that draw their order: from the first operation to the last. -/
import Derived.Test.YtfgdpkceoadgjaaSxQ
namespace Go.Sx
set_option linter.unusedVariables false
set_option linter.unusedSimpArgs false
open Go.RowKit

section
variable {cc : Cc} {E : Ents} {nst : Fr → Hp → Nr} {nt : Nat} {T0 : List (Nat × SV)} {H0 : Hp} {ops : Array Oper} {C : Ct} {hc : Nat → Option Obj} {w0 : World}

theorem Good.get {rv : Rv} {n : Cn} (h : Good cc E nst nt T0 H0 ops rv n) {i : Nat} {r : Rec} (hm : (i, r) ∈ rv) : Go.Sx.get rv i = some r := by
  have hex : ∀ {rv : Rv}, (i, r) ∈ rv → ∃ r', Go.Sx.get rv i = some r' := by
    intro rv hm
    induction rv with
    | nil => cases hm
    | cons p rv ih =>
      rw [get_cons]
      split
      · exact ⟨_, rfl⟩
      · rename_i hne
        rcases List.mem_cons.1 hm with e | hm
        · rw [← e] at hne; exact absurd rfl hne
        · exact ih hm
  obtain ⟨r', hr'⟩ := hex hm
  rw [hr', h.uniq hm (get_mem hr')]

theorem blt_iff {a b : Nat} : Nat.blt a b = true ↔ a < b := by simp [Nat.blt_eq]
theorem blt_not {a b : Nat} (h : Nat.blt a b = false) : ¬ a < b := fun hc => by rw [blt_iff.2 hc] at h; cases h

/-- the record of the next operation -/
theorem opD_ok {rv : Rv} {n : Cn} (hg : Good cc E nst nt T0 H0 ops rv n) {o : Oper} (ho : ops[rv.length]? = some o) {r : Rec} (h : opD cc E nst nt T0 H0 ops rv n o = .ok r) : GoodRec cc E nst nt T0 H0 ops rv n r := by
  unfold opD at h
  split at h
  · cases h
  · rename_i pr hpr
    obtain ⟨p1, p2, p3, p4⟩ := predsOf_ok hpr
    simp only at h
    cases hdst : (dstLt nt o.dst) with
    | false => rw [hdst] at h; cases h
    | true =>
      rw [hdst, cond_true] at h
      split at h
      · rename_i z H' hdo
        split at h
        · rename_i r' hmk
          cases h
          unfold mkRec at hmk
          simp only at hmk
          cases c1 : (Nat.ble n.b H'.nb && (Nat.ble n.d H'.nd && Nat.ble n.v H'.nv)) with
          | false => rw [c1] at hmk; cases hmk
          | true =>
            rw [c1, cond_true] at hmk
            cases c2 : okOps rv pr (o.looksAt ops) o.dst (visOf (tlOf T0 rv pr (o.looksAt ops)) o.op) (oldIds n.b (diff H'.heap (hiOf H0 rv n (visOf (tlOf T0 rv pr (o.looksAt ops)) o.op) pr).heap)) with
            | false => rw [c2] at hmk; cases hmk
            | true =>
              rw [c2, cond_true] at hmk
              cases c3 : okIds (hiOf H0 rv n (visOf (tlOf T0 rv pr (o.looksAt ops)) o.op) pr) H'.nb (diff H'.heap (hiOf H0 rv n (visOf (tlOf T0 rv pr (o.looksAt ops)) o.op) pr).heap) with
              | false => rw [c3] at hmk; cases hmk
              | true =>
                rw [c3, cond_true] at hmk
                cases hmk
                simp only [Bool.and_eq_true, Nat.ble_eq] at c1
                refine ⟨⟨c1.1, c1.2.1, c1.2.2⟩, ?_, ?_, ?_, ?_, ?_, ⟨o, H', ho, rfl, rfl, fun e he => p1 e (Array.mem_toList_iff.2 he), ?_, hdo, rfl, rfl, rfl, rfl⟩, rfl⟩
                · intro j hj
                  obtain ⟨q, s, h1, h2⟩ := p2 j hj
                  have hq := hg.idx q s (get_mem h1)
                  rcases h2 with rfl | h2
                  · exact hq
                  · obtain ⟨_, rv', n', f1, f2, f3, f4, _⟩ := hg.split (get_mem h1)
                    have := f3.prlt j h2
                    rw [f4] at this
                    exact Nat.lt_trans this hq
                · intro j hj rj hm x hx
                  obtain ⟨e, he, hb, h2⟩ := p4 j hj
                  rcases h2 with h2 | ⟨s, h2, h3⟩
                  · subst h2
                    exact p3 e he hb rj (hg.get hm) x hx
                  · obtain ⟨l', rv', n', f1, f2, f3, f4, f5, _⟩ := hg.split (get_mem h2)
                    refine p3 e he hb s h2 x (f3.prcl j h3 rj ?_ x hx)
                    have hlt := f3.prlt j h3
                    rw [f1] at hm
                    rcases List.mem_append.1 hm with hm | hm
                    · have := f5 j rj hm; omega
                    · rcases List.mem_cons.1 hm with e' | hm
                      · cases e'; omega
                      · exact hm
                · intro j rj hm hnot
                  have hck := lall_iff.1 c2 (j, rj) hm
                  have hmn : lmem pr j = false := by
                    cases e : lmem pr j with
                    | false => rfl
                    | true => exact absurd (lmem_iff.1 e) hnot
                  simp only [hmn, cond_false, Bool.and_eq_true] at hck
                  obtain ⟨a1, a2, a3, a4, a5⟩ := hck
                  refine ⟨fun d hd => ⟨fun hin => ?_, fun hdd => ?_⟩, fun d hd hin => ?_, fun hw hf => ?_, fun hw hf => ?_⟩
                  · rw [hd] at a1
                    simp only [offR, lmem_iff.2 hin] at a1; cases a1
                  · have hdd' : o.dst = some d := hdd
                    rw [hd, hdd'] at a2
                    simp [neD] at a2
                  · have hd' : o.dst = some d := hd
                    rw [hd'] at a3
                    simp only [offR, lmem_iff.2 hin] at a3; cases a3
                  · have := lall_iff.1 a4 hw hf
                    simpa using this
                  · have := lall_iff.1 a5 hw hf
                    simpa using this
                · intro id bk hbk
                  have hck := lall_iff.1 c3 (id, bk) (get_mem hbk)
                  cases e1 : Nat.blt id H'.nb with
                  | false => simp only [e1, cond_false] at hck; cases hck
                  | true =>
                    simp only [e1, cond_true] at hck
                    refine ⟨blt_iff.1 e1, fun hlt => ?_⟩
                    have e2 : Nat.blt id (hiOf H0 rv n (visOf (tlOf T0 rv pr (o.looksAt ops)) o.op) pr).nb = true := blt_iff.2 hlt
                    simp only [e2, cond_true] at hck
                    refine ⟨mem_oldIds (get_mem hbk) hlt, ?_⟩
                    have h3 := hck
                    cases hgx : Go.Sx.get (hiOf H0 rv n (visOf (tlOf T0 rv pr (o.looksAt ops)) o.op) pr).heap id with
                    | none => rw [hgx] at h3; cases h3
                    | some bk' => rw [hgx] at h3; exact ⟨bk', rfl, h3⟩
                · intro d hd
                  have hd' : o.dst = some d := hd
                  rw [hd'] at hdst
                  exact blt_iff.1 hdst
                · intro j hj
                  obtain ⟨e, he, hb, h2⟩ := p4 j hj
                  refine ⟨e, Array.mem_toList_iff.1 he, hb, ?_⟩
                  rcases h2 with h2 | ⟨s, h2, h3⟩
                  · exact .inl h2
                  · exact .inr ⟨s, get_mem h2, h3⟩
        · cases h
      · rename_i p _
        cases hs : p.stat with
        | false => rw [hs] at h; cases h
        | true => rw [hs] at h; cases h
      · cases h
theorem opD_ask {rv : Rv} {n : Cn} {o : Oper} {p : SB} (h : opD cc E nst nt T0 H0 ops rv n o = .ask p) : p.stat = true := by
  unfold opD at h
  split at h
  · cases h
  · simp only at h
    rename_i pr _
    cases hdst : (dstLt nt o.dst) with
    | false => rw [hdst] at h; cases h
    | true =>
      rw [hdst, cond_true] at h
      split at h
      · split at h <;> cases h
      · rename_i q _
        cases hs : q.stat with
        | false => rw [hs] at h; cases h
        | true => rw [hs] at h; cases h; exact hs
      · cases h

theorem drawL_ok : ∀ (l : List Oper) (rv : Rv) (n : Cn), Good cc E nst nt T0 H0 ops rv n → l = ops.toList.drop rv.length → rv.length ≤ ops.size →
    match drawL cc E nst nt T0 H0 ops l rv.length rv n with
    | .ok T' H' => ∃ rvF nF, Good cc E nst nt T0 H0 ops rvF nF ∧ rvF.length = ops.size ∧ T' = tmD (fun _ => true) T0 rvF ∧
        H' = { heap := hpD (fun _ => true) H0.heap rvF, nb := nF.b, nd := nF.d, nv := nF.v, facts := fcD (fun _ => true) H0.facts rvF, phis := phD (fun _ => true) H0.phis rvF, bd := H0.bd }
    | .ask p => p.stat = true
    | .bad _ => True
  | [], rv, n, hg, hl, hsz => by
    refine ⟨rv, n, hg, ?_, rfl, rfl⟩
    have := congrArg List.length hl
    simp at this; omega
  | o :: l, rv, n, hg, hl, hsz => by
    have ho : ops[rv.length]? = some o := by
      have : (ops.toList.drop rv.length)[0]? = some o := by rw [← hl]; rfl
      rw [List.getElem?_drop] at this
      simpa using this
    have hlt : rv.length < ops.size := (Array.getElem?_eq_some_iff.1 ho).1
    show (match (match opD cc E nst nt T0 H0 ops rv n o with
      | .ok r => drawL cc E nst nt T0 H0 ops l (Nat.succ rv.length) ((rv.length, r) :: rv) r.n1
      | .ask p => .ask p
      | .bad w => .bad w) with
      | .ok T' H' => _
      | .ask p => _
      | .bad _ => True)
    cases hop : opD cc E nst nt T0 H0 ops rv n o with
    | ok r =>
      have hr := opD_ok hg ho hop
      exact drawL_ok l ((rv.length, r) :: rv) r.n1 (.cons hg hr) (by
        have := congrArg (List.drop 1) hl
        simpa [List.drop_drop, Nat.add_comm] using this) hlt
    | ask p => exact opD_ask hop
    | bad w => trivial

/-! ### The walk -/
theorem lg_eq {α : Type} {D D' : Nat → Bool} {h0 : List (Nat × α)} {f : Rec → List (Nat × α)} : ∀ {rv : Rv}, (∀ j r, (j, r) ∈ rv → D j = D' j) → lg D h0 f rv = lg D' h0 f rv
  | [], _ => rfl
  | (j, r) :: rv, h => by
    rw [lg_cons, lg_cons, h j r (by simp), lg_eq (rv := rv) fun j' r' hm => h j' r' (List.mem_cons_of_mem _ hm)]
theorem KK.congr {rvF : Rv} {nF : Cn} {ρ0 ρ : Dyn} {W0 w : World} {tmps : Array Value} {D D' : Nat → Bool} (h : ∀ j r, (j, r) ∈ rvF → D j = D' j) (k : KK C hc w0 nt T0 H0 rvF nF ρ0 W0 D ρ tmps w) : KK C hc w0 nt T0 H0 rvF nF ρ0 W0 D' ρ tmps w := by
  have e1 : lgC D T0 (cnOf H0) tmF rvF = lgC D' T0 (cnOf H0) tmF rvF := lg_eq h
  have e2 : lgC D H0.heap (cnOf H0) (fun r => r.dh) rvF = lgC D' H0.heap (cnOf H0) (fun r => r.dh) rvF := lg_eq h
  have e3 : hpD D H0.heap rvF = hpD D' H0.heap rvF := lg_eq h
  have e4 : hpD D [] rvF = hpD D' [] rvF := lg_eq h
  obtain ⟨a1, a2, a3, a4, a5, a6, a7, a8, a9, a10, a11, a12, a13, a14, a15, a16, a17, a18, a19, a20, a21, a22⟩ := k
  rw [e1] at a2
  rw [e2] at a3
  rw [e3] at a4 a7 a8 a14
  rw [e4] at a21 a22
  exact ⟨a1, a2, a3, a4, a5, fun j r hm hD => a6 j r hm (by rw [h j r hm]; exact hD), a7, fun j r hm hD => a8 j r hm (by rw [h j r hm]; exact hD), a9, fun j r hm hD => a10 j r hm (by rw [h j r hm]; exact hD), a11, a12, a13, a14, a15, a16, a17, a18, a19, a20, a21, a22⟩

theorem filter_lt {p q : Nat → Bool} : ∀ {l : List Nat}, (∀ x ∈ l, q x = true → p x = true) → (∃ x ∈ l, p x = true ∧ q x = false) → (l.filter q).length < (l.filter p).length
  | [], _, h => by obtain ⟨_, h, _⟩ := h; cases h
  | a :: l, h1, ⟨x, hx, h2, h3⟩ => by
    have hle : ∀ {l : List Nat}, (∀ x ∈ l, q x = true → p x = true) → (l.filter q).length ≤ (l.filter p).length := by
      intro l
      induction l with
      | nil => simp
      | cons b l ih =>
        intro h
        have i := ih fun x hx => h x (List.mem_cons_of_mem _ hx)
        rw [List.filter_cons, List.filter_cons]
        split
        · rename_i hq
          rw [if_pos (h b (by simp) hq)]; simpa using i
        · split
          · simp; omega
          · exact i
    rw [List.filter_cons, List.filter_cons]
    rcases List.mem_cons.1 hx with e | hx
    · subst e
      rw [if_pos h2, if_neg (by rw [h3]; simp)]
      have := hle fun y hy => h1 y (List.mem_cons_of_mem _ hy)
      simp; omega
    · have ih := filter_lt (l := l) (fun y hy => h1 y (List.mem_cons_of_mem _ hy)) ⟨x, hx, h2, h3⟩
      split
      · rename_i hq
        rw [if_pos (h1 a (by simp) hq)]; simpa using ih
      · split
        · simp; omega
        · exact ih

theorem KK.all (hcc : cc.Ok C) (hE : EntsOk cc C E) (hn : NstOk cc C nst) (hb : ∀ id bk, get H0.heap id = some bk → id < H0.nb) {rvF : Rv} {nF : Cn} (hg : Good cc E nst nt T0 H0 ops rvF nF) (hsz : rvF.length = ops.size) {ρ0 : Dyn} {W0 : World}
    {kk : List Item} {df : List Deferred} {ro : Option Nat} {fn : FuncId} {cs : List Frame} :
    ∀ (fuel t : Nat) (listed : Array Bool) (ρ : Dyn) (tmps : Array Value) (w : World), listed.size = ops.size → ((List.range ops.size).filter fun j => !listed.getD j false).length ≤ fuel →
      Closed (fun j => listed.getD j false) rvF → KK C hc w0 nt T0 H0 rvF nF ρ0 W0 (fun j => listed.getD j false) ρ tmps w →
      ∃ ρ' tmps' w', KK C hc w0 nt T0 H0 rvF nF ρ0 W0 (fun _ => true) ρ' tmps' w' ∧
        Steps cc.P (lone ((bF fn ro).atR { tmps := tmps, defers := df } (.inRegion ops (Region.linearise.go .any ops fuel t listed []) :: kk)) cs w) (lone ((bF fn ro).atR { tmps := tmps', defers := df } (.inRegion ops [] :: kk)) cs w')
  | 0, t, listed, ρ, tmps, w, hls, hf, hcl, k => by
    refine ⟨ρ, tmps, w, k.congr fun j r hm => ?_, .refl _ _⟩
    have hj := hg.idx j r hm
    rw [hsz] at hj
    cases e : listed.getD j false with
    | true => rfl
    | false =>
      have : j ∈ (List.range ops.size).filter fun j => !listed.getD j false := by
        rw [List.mem_filter, List.mem_range]; exact ⟨hj, by simp only [e]; rfl⟩
      have := List.length_pos_of_mem this
      omega
  | fuel + 1, t, listed, ρ, tmps, w, hls, hf, hcl, k => by
    have hlg : ∀ j, j < ops.size → listed.getD j true = listed.getD j false := by
      intro j hj
      simp [Array.getElem?_eq_getElem (show j < listed.size by omega)]
    have hrd : ∀ i r, (i, r) ∈ rvF → listed.getD i false = false → (∀ e ∈ (ops[i]?.map Oper.after).getD #[], Region.binds .any e = true → listed.getD e.on false = true) → ∀ x ∈ r.pr, listed.getD x false = true := by
      intro i r hm _ he x hx
      obtain ⟨l, rv, n, e1, e2, e3, e4, _⟩ := hg.split hm
      obtain ⟨o, H', p1, p2, p3, p4, p5, _⟩ := e3.op
      rw [e4] at p1
      rw [p1] at he
      obtain ⟨e, h1, h2, h3⟩ := p5 x hx
      have h4 := he e h1 h2
      rcases h3 with rfl | ⟨r', h5, h6⟩
      · exact h4
      · exact hcl e.on r' (by rw [e1]; exact List.mem_append_right _ (List.mem_cons_of_mem _ h5)) h4 x h6
    show ∃ ρ' tmps' w', _ ∧ Steps cc.P (lone ((bF fn ro).atR { tmps := tmps, defers := df } (.inRegion ops (match (Region.ready .any ops listed)[t % (Region.ready .any ops listed).length]? with
      | some i => Region.linearise.go .any ops fuel (t / (Region.ready .any ops listed).length) (listed.setIfInBounds i true) [i]
      | none => []) :: kk)) cs w) _
    cases hrs : (Region.ready .any ops listed)[t % (Region.ready .any ops listed).length]? with
    | some i =>
      have hmem := List.mem_of_getElem? hrs
      obtain ⟨h0, o, ho, hall⟩ := mem_ready.1 hmem
      have hi : i < ops.size := (Array.getElem?_eq_some_iff.1 ho).1
      rw [hlg i hi] at h0
      obtain ⟨r, hr⟩ := hg.mem (show i < rvF.length by omega)
      have hpr := hrd i r hr h0 (by rw [ho]; exact hall)
      obtain ⟨ρ1, tmps1, w1, k1, st1⟩ := k.step hcc hE hn hb hg hr hcl h0 hpr (rest := Region.linearise.go .any ops fuel (t / (Region.ready .any ops listed).length) (listed.setIfInBounds i true) []) (kk := kk) (df := df) (ro := ro) (fn := fn) (cs := cs)
      have hadd : (fun j => (listed.setIfInBounds i true).getD j false) = addD (fun j => listed.getD j false) i := by
        funext j
        by_cases hji : j = i
        · subst hji
          rw [addD_self]
          simp [show j < listed.size by omega]
        · rw [addD_ne hji]
          exact getD_set_ne false (Ne.symm hji)
      obtain ⟨ρ2, tmps2, w2, k2, st2⟩ := KK.all hcc hE hn hb hg hsz (kk := kk) (df := df) (ro := ro) (fn := fn) (cs := cs) fuel (t / (Region.ready .any ops listed).length) (listed.setIfInBounds i true) ρ1 tmps1 w1 (by simpa using hls) (by
          have := filter_lt (l := List.range ops.size) (p := fun j => !listed.getD j false) (q := fun j => !(listed.setIfInBounds i true).getD j false) (fun x _ hx => by
            have e : (listed.setIfInBounds i true).getD x false = addD (fun j => listed.getD j false) i x := congrFun hadd x
            rw [e] at hx
            cases hc : listed.getD x false with
            | false => rfl
            | true => rw [addD_of hc] at hx; cases hx) ⟨i, List.mem_range.2 hi, by simp only [h0]; rfl, by
              have e : (listed.setIfInBounds i true).getD i false = addD (fun j => listed.getD j false) i i := congrFun hadd i
              simp only [e, addD_self]; rfl⟩
          omega) (by rw [hadd]; exact hcl.add hg hr hpr) (by rw [hadd]; exact k1)
      refine ⟨ρ2, tmps2, w2, k2, ?_⟩
      have e : Region.linearise.go .any ops fuel (t / (Region.ready .any ops listed).length) (listed.setIfInBounds i true) [i] = i :: Region.linearise.go .any ops fuel (t / (Region.ready .any ops listed).length) (listed.setIfInBounds i true) [] := by
        rw [linearise_go_acc]; rfl
      simp only [e]
      exact st1.trans st2
    | none =>
      have hnil : ∀ j, j ∉ Region.ready .any ops listed := by
        intro j hj
        have hp := List.length_pos_of_mem hj
        have := List.getElem?_eq_none_iff.1 hrs
        have := Nat.mod_lt t hp
        omega
      have hdone : ∀ j, j < ops.size → listed.getD j false = true := by
        intro j
        induction j using Nat.strongRecOn with
        | _ j ih =>
          intro hj
          cases e : listed.getD j false with
          | true => rfl
          | false =>
            exfalso
            obtain ⟨r, hr⟩ := hg.mem (show j < rvF.length by omega)
            obtain ⟨l, rv, n, e1, e2, e3, e4, _⟩ := hg.split hr
            obtain ⟨o, H', p1, p2, p3, p4, p5, _⟩ := e3.op
            rw [e4] at p1
            refine hnil j (mem_ready.2 ⟨by rw [hlg j hj]; exact e, o, p1, fun ed he hbd => ?_⟩)
            have := e3.prlt _ (p4 ed he hbd)
            exact ih ed.on (by omega) (by omega)
      refine ⟨ρ, tmps, w, k.congr fun j r hm => ?_, .refl _ _⟩
      have hj := hg.idx j r hm
      exact hdone j (by omega)

theorem drawS_ok (hcc : cc.Ok C) (hE : EntsOk cc C E) (hn : NstOk cc C nst) : DrOk cc C (drawS cc E nst) := by
  intro hc w0 cs ρ H w nt T tmps df ro fn k ops id hh ht
  have hd := drawL_ok (cc := cc) (E := E) (nst := nst) (nt := nt) (T0 := T) (H0 := H) (ops := ops) ops.toList [] (cnOf H) .nil (by simp) (by simp)
  show match drawL cc E nst nt T H ops ops.toList 0 [] (cnOf H) with | .ok T' H' => _ | .ask p => _ | .bad _ => _
  have hd' : match drawL cc E nst nt T H ops ops.toList 0 [] (cnOf H) with
    | .ok T' H' => ∃ rvF nF, Good cc E nst nt T H ops rvF nF ∧ rvF.length = ops.size ∧ T' = tmD (fun _ => true) T rvF ∧
        H' = { heap := hpD (fun _ => true) H.heap rvF, nb := nF.b, nd := nF.d, nv := nF.v, facts := fcD (fun _ => true) H.facts rvF, phis := phD (fun _ => true) H.phis rvF, bd := H.bd }
    | .ask p => p.stat = true
    | .bad _ => True := hd
  cases hdr : drawL cc E nst nt T H ops ops.toList 0 [] (cnOf H) with
  | ok T' H' =>
    rw [hdr] at hd'
    obtain ⟨rvF, nF, hg, hsz, rfl, rfl⟩ := hd'
    have hh1 : HpRel C hc w0 ρ H w.drew := hh.drew
    have k0 := KK.start hh1 ht hg
    have hfalse : (fun j => (Array.replicate ops.size false).getD j false) = fun _ => false := by
      funext j
      by_cases hj : j < ops.size <;> simp [hj]
    obtain ⟨ρ', tmps', w', k1, st⟩ := KK.all hcc hE hn hh.hb hg hsz (kk := k) (df := df) (ro := ro) (fn := fn) (cs := cs) ops.size (w.tape w.drawn (.order fn id)) (Array.replicate ops.size false) ρ tmps w.drew (by simp) (by
      have := List.length_filter_le (fun j => !(Array.replicate ops.size false).getD j false) (List.range ops.size)
      simpa using this) (by rw [hfalse]; intro _ _ _ h; cases h) (by rw [hfalse]; exact k0)
    obtain ⟨h1, h2, h3⟩ := k1.finish hh.hb hg
    refine ⟨ρ', tmps', w', (Tn.of_below ((Below.refl _ w).drew)).trans h1, ?_, h2, h3⟩
    have s1 := stepR_region_draw (P := cc.P) (b := bF fn ro) (a := { tmps := tmps, defers := df }) (k := k) (cs := cs) (w := w) (ops := ops) (id := id)
    have s2 : Region.schedule (cc.P.follows .mixedOrders) ops (w.tape w.drawn (.order (bF fn ro).fn id)) = Region.linearise.go .any ops ops.size (w.tape w.drawn (.order fn id)) (Array.replicate ops.size false) [] := by
      rw [hcc.mixed]
      unfold Region.schedule
      rw [Bool.true_or, if_pos rfl]
      rfl
    rw [s2] at s1
    exact (Steps.one s1).trans (st.trans (.one stepR_region_end))
  | ask p =>
    rw [hdr] at hd'
    exact SB.stat_den hd'
  | bad n => trivial

end
end Go.Sx
