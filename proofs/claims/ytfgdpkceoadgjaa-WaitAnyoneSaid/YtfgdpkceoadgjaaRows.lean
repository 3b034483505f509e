/-
  No cell of these rows narrows 'for every input' (looked for: loops, veiled, ifaces, maps, wideKeys, modest, calm, conditions, laid).
  DERIVED. THE GIVEN ROWS OF THIS SEAT. 16 by the template 'for every input the law returns true; each argument reads behind the call as it read before'; 0 by the template 'total and deterministic' (their statements: YtfgdpkceoadgjaaTotals.lean).
  GIVEN WITH THE SEED: the statements are not yours to turn. If you find one false, say at which input.
  Laid BY PROGRAM, IN A SANDBOX (cutbox-rows.mjs): the forced cells as the released guide's own fill.sh prints them over the translation 02d12e22698b2d9e… (all of the seat's roots in one cut). By AI agents, Wed Nov 11 2026. No macro, syntax, notation, axiom, sorry.
-/
import Derived.Test.YtfgdpkceoadgjaaChecked
import GoSem.Claim
import GoSem.ClaimJoined
import GoSem.ClaimMapViews
import Derived.JoinedTies
import Derived.KernelRfl
namespace Go.Proofs.Ytfgdpkceoadgjaa
/- THE CELL 'sum', in the pinned program and in every row, IS THE sha256 OF THE DUMP (.gsa) THAT YtfgdpkceoadgjaaProg.lean LOADS. Nothing in Lean hashes anything: it is a label: what it is worth is what the hold of that sum in a sandbox is worth. -/
noncomputable def Try.pinned : Pinned := { name := "ytfgdpkceoadgjaa", sum := "02d12e22698b2d9e4dbc159ea012798fd6c867089d356f3bf0419e3a20dac3e9", checked := Try.checked }
namespace Rows
def none {H : Type} : Left H := { results := [], args := [] }

/-- 'castellanlaw03.ModePairs': WHATEVER THE INPUT: true; the input reads as it did. -/
def modePairsSpec : ChangeSpec := { name := "modePairs", fn := fun _ => fun
  | [d1, d2] => { results := [.lit (.bool true)], args := [d1, d2] }
  | _ => none }
def modePairsRow : OpenClaim := { program := "ytfgdpkceoadgjaa", sum := "02d12e22698b2d9e4dbc159ea012798fd6c867089d356f3bf0419e3a20dac3e9", func := "castellan/castellanlaw03.ModePairs", spec := "modePairs", unfollowed := true, recurses := true, apart := false }
def ModePairsSaid : Prop := modePairsRow.holds Try.pinned (OpenSpec.ofChange modePairsSpec)

/-- ITS FALSE NEIGHBOUR: 'it returns false'. Refute it at one input. -/
def modePairsWrong : ChangeSpec := { name := "modePairs", fn := fun _ => fun
  | [d1, d2] => { results := [.lit (.bool false)], args := [d1, d2] }
  | _ => none }
def ModePairsWrongFalsely : Prop := modePairsRow.holds Try.pinned (OpenSpec.ofChange modePairsWrong)

/-- 'castellanlaw03.ModeJoins': WHATEVER THE INPUT: true; the input reads as it did. -/
def modeJoinsSpec : ChangeSpec := { name := "modeJoins", fn := fun _ => fun
  | [d] => { results := [.lit (.bool true)], args := [d] }
  | _ => none }
def modeJoinsRow : OpenClaim := { program := "ytfgdpkceoadgjaa", sum := "02d12e22698b2d9e4dbc159ea012798fd6c867089d356f3bf0419e3a20dac3e9", func := "castellan/castellanlaw03.ModeJoins", spec := "modeJoins", unfollowed := true, recurses := true, apart := false }
def ModeJoinsSaid : Prop := modeJoinsRow.holds Try.pinned (OpenSpec.ofChange modeJoinsSpec)

/-- ITS FALSE NEIGHBOUR: 'it returns false'. Refute it at one input. -/
def modeJoinsWrong : ChangeSpec := { name := "modeJoins", fn := fun _ => fun
  | [d] => { results := [.lit (.bool false)], args := [d] }
  | _ => none }
def ModeJoinsWrongFalsely : Prop := modeJoinsRow.holds Try.pinned (OpenSpec.ofChange modeJoinsWrong)

/-- 'castellanlaw03.ModeEach': WHATEVER THE INPUT: true; the input reads as it did. -/
def modeEachSpec : ChangeSpec := { name := "modeEach", fn := fun _ => fun
  | [d] => { results := [.lit (.bool true)], args := [d] }
  | _ => none }
def modeEachRow : OpenClaim := { program := "ytfgdpkceoadgjaa", sum := "02d12e22698b2d9e4dbc159ea012798fd6c867089d356f3bf0419e3a20dac3e9", func := "castellan/castellanlaw03.ModeEach", spec := "modeEach", unfollowed := true, recurses := true, apart := false }
def ModeEachSaid : Prop := modeEachRow.holds Try.pinned (OpenSpec.ofChange modeEachSpec)

/-- ITS FALSE NEIGHBOUR: 'it returns false'. Refute it at one input. -/
def modeEachWrong : ChangeSpec := { name := "modeEach", fn := fun _ => fun
  | [d] => { results := [.lit (.bool false)], args := [d] }
  | _ => none }
def ModeEachWrongFalsely : Prop := modeEachRow.holds Try.pinned (OpenSpec.ofChange modeEachWrong)

/-- 'castellanlaw03.ModeHolds': WHATEVER THE INPUT: true; the input reads as it did. -/
def modeHoldsSpec : ChangeSpec := { name := "modeHolds", fn := fun _ => fun
  | [d1, d2, d3] => { results := [.lit (.bool true)], args := [d1, d2, d3] }
  | _ => none }
def modeHoldsRow : OpenClaim := { program := "ytfgdpkceoadgjaa", sum := "02d12e22698b2d9e4dbc159ea012798fd6c867089d356f3bf0419e3a20dac3e9", func := "castellan/castellanlaw03.ModeHolds", spec := "modeHolds", unfollowed := true, recurses := true, apart := false }
def ModeHoldsSaid : Prop := modeHoldsRow.holds Try.pinned (OpenSpec.ofChange modeHoldsSpec)

/-- ITS FALSE NEIGHBOUR: 'it returns false'. Refute it at one input. -/
def modeHoldsWrong : ChangeSpec := { name := "modeHolds", fn := fun _ => fun
  | [d1, d2, d3] => { results := [.lit (.bool false)], args := [d1, d2, d3] }
  | _ => none }
def ModeHoldsWrongFalsely : Prop := modeHoldsRow.holds Try.pinned (OpenSpec.ofChange modeHoldsWrong)

/-- 'castellanlaw03.ModeNames': WHATEVER THE INPUT: true; the input reads as it did. -/
def modeNamesSpec : ChangeSpec := { name := "modeNames", fn := fun _ => fun
  | [d1, d2] => { results := [.lit (.bool true)], args := [d1, d2] }
  | _ => none }
def modeNamesRow : OpenClaim := { program := "ytfgdpkceoadgjaa", sum := "02d12e22698b2d9e4dbc159ea012798fd6c867089d356f3bf0419e3a20dac3e9", func := "castellan/castellanlaw03.ModeNames", spec := "modeNames", unfollowed := true, recurses := true, apart := false }
def ModeNamesSaid : Prop := modeNamesRow.holds Try.pinned (OpenSpec.ofChange modeNamesSpec)

/-- ITS FALSE NEIGHBOUR: 'it returns false'. Refute it at one input. -/
def modeNamesWrong : ChangeSpec := { name := "modeNames", fn := fun _ => fun
  | [d1, d2] => { results := [.lit (.bool false)], args := [d1, d2] }
  | _ => none }
def ModeNamesWrongFalsely : Prop := modeNamesRow.holds Try.pinned (OpenSpec.ofChange modeNamesWrong)

/-- 'castellanlaw13.HoldEnds': WHATEVER THE INPUT: true; the input reads as it did. -/
def holdEndsSpec : ChangeSpec := { name := "holdEnds", fn := fun _ => fun
  | [d1, d2, d3] => { results := [.lit (.bool true)], args := [d1, d2, d3] }
  | _ => none }
def holdEndsRow : OpenClaim := { program := "ytfgdpkceoadgjaa", sum := "02d12e22698b2d9e4dbc159ea012798fd6c867089d356f3bf0419e3a20dac3e9", func := "castellan/castellanlaw13.HoldEnds", spec := "holdEnds", inPlace := ["slices.overlaps[castellan/api.Hold]"], unfollowed := true, recurses := true, apart := false }
def HoldEndsSaid : Prop := holdEndsRow.holds Try.pinned (OpenSpec.ofChange holdEndsSpec)

/-- ITS FALSE NEIGHBOUR: 'it returns false'. Refute it at one input. -/
def holdEndsWrong : ChangeSpec := { name := "holdEnds", fn := fun _ => fun
  | [d1, d2, d3] => { results := [.lit (.bool false)], args := [d1, d2, d3] }
  | _ => none }
def HoldEndsWrongFalsely : Prop := holdEndsRow.holds Try.pinned (OpenSpec.ofChange holdEndsWrong)

/-- 'castellanlaw13.HoldAsks': WHATEVER THE INPUT: true; the input reads as it did. -/
def holdAsksSpec : ChangeSpec := { name := "holdAsks", fn := fun _ => fun
  | [d1, d2, d3] => { results := [.lit (.bool true)], args := [d1, d2, d3] }
  | _ => none }
def holdAsksRow : OpenClaim := { program := "ytfgdpkceoadgjaa", sum := "02d12e22698b2d9e4dbc159ea012798fd6c867089d356f3bf0419e3a20dac3e9", func := "castellan/castellanlaw13.HoldAsks", spec := "holdAsks", inPlace := ["slices.overlaps[castellan/api.Hold]"], unfollowed := true, recurses := true, apart := false }
def HoldAsksSaid : Prop := holdAsksRow.holds Try.pinned (OpenSpec.ofChange holdAsksSpec)

/-- ITS FALSE NEIGHBOUR: 'it returns false'. Refute it at one input. -/
def holdAsksWrong : ChangeSpec := { name := "holdAsks", fn := fun _ => fun
  | [d1, d2, d3] => { results := [.lit (.bool false)], args := [d1, d2, d3] }
  | _ => none }
def HoldAsksWrongFalsely : Prop := holdAsksRow.holds Try.pinned (OpenSpec.ofChange holdAsksWrong)

/-- 'castellanlaw13.HoldAdds': WHATEVER THE INPUT: true; the input reads as it did. -/
def holdAddsSpec : ChangeSpec := { name := "holdAdds", fn := fun _ => fun
  | [d1, d2] => { results := [.lit (.bool true)], args := [d1, d2] }
  | _ => none }
def holdAddsRow : OpenClaim := { program := "ytfgdpkceoadgjaa", sum := "02d12e22698b2d9e4dbc159ea012798fd6c867089d356f3bf0419e3a20dac3e9", func := "castellan/castellanlaw13.HoldAdds", spec := "holdAdds", inPlace := ["slices.overlaps[castellan/api.Hold]"], unfollowed := true, recurses := true, apart := false }
def HoldAddsSaid : Prop := holdAddsRow.holds Try.pinned (OpenSpec.ofChange holdAddsSpec)

/-- ITS FALSE NEIGHBOUR: 'it returns false'. Refute it at one input. -/
def holdAddsWrong : ChangeSpec := { name := "holdAdds", fn := fun _ => fun
  | [d1, d2] => { results := [.lit (.bool false)], args := [d1, d2] }
  | _ => none }
def HoldAddsWrongFalsely : Prop := holdAddsRow.holds Try.pinned (OpenSpec.ofChange holdAddsWrong)

/-- 'castellanlaw13.HoldHolds': WHATEVER THE INPUT: true; the input reads as it did. -/
def holdHoldsSpec : ChangeSpec := { name := "holdHolds", fn := fun _ => fun
  | [d] => { results := [.lit (.bool true)], args := [d] }
  | _ => none }
def holdHoldsRow : OpenClaim := { program := "ytfgdpkceoadgjaa", sum := "02d12e22698b2d9e4dbc159ea012798fd6c867089d356f3bf0419e3a20dac3e9", func := "castellan/castellanlaw13.HoldHolds", spec := "holdHolds", inPlace := ["slices.overlaps[castellan/api.Hold]"], unfollowed := true, recurses := true, apart := false }
def HoldHoldsSaid : Prop := holdHoldsRow.holds Try.pinned (OpenSpec.ofChange holdHoldsSpec)

/-- ITS FALSE NEIGHBOUR: 'it returns false'. Refute it at one input. -/
def holdHoldsWrong : ChangeSpec := { name := "holdHolds", fn := fun _ => fun
  | [d] => { results := [.lit (.bool false)], args := [d] }
  | _ => none }
def HoldHoldsWrongFalsely : Prop := holdHoldsRow.holds Try.pinned (OpenSpec.ofChange holdHoldsWrong)

/-- 'castellanlaw13.HoldEach': WHATEVER THE INPUT: true; the input reads as it did. -/
def holdEachSpec : ChangeSpec := { name := "holdEach", fn := fun _ => fun
  | [d1, d2] => { results := [.lit (.bool true)], args := [d1, d2] }
  | _ => none }
def holdEachRow : OpenClaim := { program := "ytfgdpkceoadgjaa", sum := "02d12e22698b2d9e4dbc159ea012798fd6c867089d356f3bf0419e3a20dac3e9", func := "castellan/castellanlaw13.HoldEach", spec := "holdEach", inPlace := ["slices.overlaps[castellan/api.Hold]"], unfollowed := true, recurses := true, apart := false }
def HoldEachSaid : Prop := holdEachRow.holds Try.pinned (OpenSpec.ofChange holdEachSpec)

/-- ITS FALSE NEIGHBOUR: 'it returns false'. Refute it at one input. -/
def holdEachWrong : ChangeSpec := { name := "holdEach", fn := fun _ => fun
  | [d1, d2] => { results := [.lit (.bool false)], args := [d1, d2] }
  | _ => none }
def HoldEachWrongFalsely : Prop := holdEachRow.holds Try.pinned (OpenSpec.ofChange holdEachWrong)

/-- 'castellanlaw12.WaitOrders': WHATEVER THE INPUT: true; the input reads as it did. -/
def waitOrdersSpec : ChangeSpec := { name := "waitOrders", fn := fun _ => fun
  | [d1, d2, d3] => { results := [.lit (.bool true)], args := [d1, d2, d3] }
  | _ => none }
def waitOrdersRow : OpenClaim := { program := "ytfgdpkceoadgjaa", sum := "02d12e22698b2d9e4dbc159ea012798fd6c867089d356f3bf0419e3a20dac3e9", func := "castellan/castellanlaw12.WaitOrders", spec := "waitOrders", unfollowed := true, recurses := true, apart := false }
def WaitOrdersSaid : Prop := waitOrdersRow.holds Try.pinned (OpenSpec.ofChange waitOrdersSpec)

/-- ITS FALSE NEIGHBOUR: 'it returns false'. Refute it at one input. -/
def waitOrdersWrong : ChangeSpec := { name := "waitOrders", fn := fun _ => fun
  | [d1, d2, d3] => { results := [.lit (.bool false)], args := [d1, d2, d3] }
  | _ => none }
def WaitOrdersWrongFalsely : Prop := waitOrdersRow.holds Try.pinned (OpenSpec.ofChange waitOrdersWrong)

/-- 'castellanlaw12.WaitNexts': WHATEVER THE INPUT: true; the input reads as it did. -/
def waitNextsSpec : ChangeSpec := { name := "waitNexts", fn := fun _ => fun
  | [d1, d2, d3] => { results := [.lit (.bool true)], args := [d1, d2, d3] }
  | _ => none }
def waitNextsRow : OpenClaim := { program := "ytfgdpkceoadgjaa", sum := "02d12e22698b2d9e4dbc159ea012798fd6c867089d356f3bf0419e3a20dac3e9", func := "castellan/castellanlaw12.WaitNexts", spec := "waitNexts", unfollowed := true, recurses := true, apart := false }
def WaitNextsSaid : Prop := waitNextsRow.holds Try.pinned (OpenSpec.ofChange waitNextsSpec)

/-- ITS FALSE NEIGHBOUR: 'it returns false'. Refute it at one input. -/
def waitNextsWrong : ChangeSpec := { name := "waitNexts", fn := fun _ => fun
  | [d1, d2, d3] => { results := [.lit (.bool false)], args := [d1, d2, d3] }
  | _ => none }
def WaitNextsWrongFalsely : Prop := waitNextsRow.holds Try.pinned (OpenSpec.ofChange waitNextsWrong)

/-- 'castellanlaw12.WaitGrants': WHATEVER THE INPUT: true; the input reads as it did. -/
def waitGrantsSpec : ChangeSpec := { name := "waitGrants", fn := fun _ => fun
  | [d1, d2] => { results := [.lit (.bool true)], args := [d1, d2] }
  | _ => none }
def waitGrantsRow : OpenClaim := { program := "ytfgdpkceoadgjaa", sum := "02d12e22698b2d9e4dbc159ea012798fd6c867089d356f3bf0419e3a20dac3e9", func := "castellan/castellanlaw12.WaitGrants", spec := "waitGrants", unfollowed := true, recurses := true, apart := false }
def WaitGrantsSaid : Prop := waitGrantsRow.holds Try.pinned (OpenSpec.ofChange waitGrantsSpec)

/-- ITS FALSE NEIGHBOUR: 'it returns false'. Refute it at one input. -/
def waitGrantsWrong : ChangeSpec := { name := "waitGrants", fn := fun _ => fun
  | [d1, d2] => { results := [.lit (.bool false)], args := [d1, d2] }
  | _ => none }
def WaitGrantsWrongFalsely : Prop := waitGrantsRow.holds Try.pinned (OpenSpec.ofChange waitGrantsWrong)

/-- 'castellanlaw12.WaitAnyone': WHATEVER THE INPUT: true; the input reads as it did. -/
def waitAnyoneSpec : ChangeSpec := { name := "waitAnyone", fn := fun _ => fun
  | [d1, d2, d3] => { results := [.lit (.bool true)], args := [d1, d2, d3] }
  | _ => none }
def waitAnyoneRow : OpenClaim := { program := "ytfgdpkceoadgjaa", sum := "02d12e22698b2d9e4dbc159ea012798fd6c867089d356f3bf0419e3a20dac3e9", func := "castellan/castellanlaw12.WaitAnyone", spec := "waitAnyone", unfollowed := true, recurses := true, apart := false }
def WaitAnyoneSaid : Prop := waitAnyoneRow.holds Try.pinned (OpenSpec.ofChange waitAnyoneSpec)

/-- ITS FALSE NEIGHBOUR: 'it returns false'. Refute it at one input. -/
def waitAnyoneWrong : ChangeSpec := { name := "waitAnyone", fn := fun _ => fun
  | [d1, d2, d3] => { results := [.lit (.bool false)], args := [d1, d2, d3] }
  | _ => none }
def WaitAnyoneWrongFalsely : Prop := waitAnyoneRow.holds Try.pinned (OpenSpec.ofChange waitAnyoneWrong)

/-- 'castellanlaw12.WaitHolds': WHATEVER THE INPUT: true; the input reads as it did. -/
def waitHoldsSpec : ChangeSpec := { name := "waitHolds", fn := fun _ => fun
  | [d1, d2] => { results := [.lit (.bool true)], args := [d1, d2] }
  | _ => none }
def waitHoldsRow : OpenClaim := { program := "ytfgdpkceoadgjaa", sum := "02d12e22698b2d9e4dbc159ea012798fd6c867089d356f3bf0419e3a20dac3e9", func := "castellan/castellanlaw12.WaitHolds", spec := "waitHolds", unfollowed := true, recurses := true, apart := false }
def WaitHoldsSaid : Prop := waitHoldsRow.holds Try.pinned (OpenSpec.ofChange waitHoldsSpec)

/-- ITS FALSE NEIGHBOUR: 'it returns false'. Refute it at one input. -/
def waitHoldsWrong : ChangeSpec := { name := "waitHolds", fn := fun _ => fun
  | [d1, d2] => { results := [.lit (.bool false)], args := [d1, d2] }
  | _ => none }
def WaitHoldsWrongFalsely : Prop := waitHoldsRow.holds Try.pinned (OpenSpec.ofChange waitHoldsWrong)

/-- 'castellanlaw12.WaitAdds': WHATEVER THE INPUT: true; the input reads as it did. -/
def waitAddsSpec : ChangeSpec := { name := "waitAdds", fn := fun _ => fun
  | [d1, d2, d3] => { results := [.lit (.bool true)], args := [d1, d2, d3] }
  | _ => none }
def waitAddsRow : OpenClaim := { program := "ytfgdpkceoadgjaa", sum := "02d12e22698b2d9e4dbc159ea012798fd6c867089d356f3bf0419e3a20dac3e9", func := "castellan/castellanlaw12.WaitAdds", spec := "waitAdds", unfollowed := true, recurses := true, apart := false }
def WaitAddsSaid : Prop := waitAddsRow.holds Try.pinned (OpenSpec.ofChange waitAddsSpec)

/-- ITS FALSE NEIGHBOUR: 'it returns false'. Refute it at one input. -/
def waitAddsWrong : ChangeSpec := { name := "waitAdds", fn := fun _ => fun
  | [d1, d2, d3] => { results := [.lit (.bool false)], args := [d1, d2, d3] }
  | _ => none }
def WaitAddsWrongFalsely : Prop := waitAddsRow.holds Try.pinned (OpenSpec.ofChange waitAddsWrong)

/- THE SECOND FORM. 'bulk': how many values and letters a reading holds, each counted each time it is reached (what is shared counts as often as it is met; a slice's spare places count too). A statement '..UptoSaid' is the law's where the arguments, and the package variables that the reading takes, are together of bulk at most 1048576: NARROWER than '..Said'. Prove '..Said' where nothing that the law and all that it calls make is longer than what came in: it says more and counts as full. Else prove '..UptoSaid'. A law counts once. -/
mutual
def uptoBulk {H : Type} : DataW H → Nat
  | .lit (.string bytes) => bytes.length + 1
  | .lit _ => 1
  | .nil => 1
  | .ptr d => uptoBulk d + 1
  | .slice elems spare => uptoBulkAll elems + uptoBulkAll spare + 1
  | .agg parts => uptoBulkAll parts + 1
  | .iface _ d => uptoBulk d + 1
  | .map entries => uptoBulkEntries entries + 1
  | .held _ => 1
def uptoBulkAll {H : Type} : List (DataW H) → Nat
  | [] => 0
  | d :: r => uptoBulk d + uptoBulkAll r
def uptoBulkEntries {H : Type} : List (Lit × DataW H) → Nat
  | [] => 0
  | x :: r => uptoBulkEntry x + uptoBulkEntries r
def uptoBulkEntry {H : Type} : Lit × DataW H → Nat
  | (.string bytes, d) => bytes.length + uptoBulk d + 1
  | (_, d) => uptoBulk d + 1
 end
def uptoSmall : (H : Type) → List (DataW H) → Bool := fun _ ds => decide (uptoBulkAll ds ≤ 1048576)
def OpenSpec.upto (s : _root_.Go.ChangeSpec) : _root_.Go.OpenSpec := { _root_.Go.OpenSpec.ofChange s with cond := some uptoSmall }

/-- 'castellanlaw03.ModePairs', WHERE WHAT IT READS IS OF BULK AT MOST 1048576: true; the input reads as it did. -/
def modePairsUptoRow : OpenClaim := { program := "ytfgdpkceoadgjaa", sum := "02d12e22698b2d9e4dbc159ea012798fd6c867089d356f3bf0419e3a20dac3e9", func := "castellan/castellanlaw03.ModePairs", spec := "modePairs", unfollowed := true, recurses := true, apart := false, narrowed := true }
def ModePairsUptoSaid : Prop := modePairsUptoRow.holds Try.pinned (OpenSpec.upto modePairsSpec)

/-- 'castellanlaw03.ModeJoins', WHERE WHAT IT READS IS OF BULK AT MOST 1048576: true; the input reads as it did. -/
def modeJoinsUptoRow : OpenClaim := { program := "ytfgdpkceoadgjaa", sum := "02d12e22698b2d9e4dbc159ea012798fd6c867089d356f3bf0419e3a20dac3e9", func := "castellan/castellanlaw03.ModeJoins", spec := "modeJoins", unfollowed := true, recurses := true, apart := false, narrowed := true }
def ModeJoinsUptoSaid : Prop := modeJoinsUptoRow.holds Try.pinned (OpenSpec.upto modeJoinsSpec)

/-- 'castellanlaw03.ModeEach', WHERE WHAT IT READS IS OF BULK AT MOST 1048576: true; the input reads as it did. -/
def modeEachUptoRow : OpenClaim := { program := "ytfgdpkceoadgjaa", sum := "02d12e22698b2d9e4dbc159ea012798fd6c867089d356f3bf0419e3a20dac3e9", func := "castellan/castellanlaw03.ModeEach", spec := "modeEach", unfollowed := true, recurses := true, apart := false, narrowed := true }
def ModeEachUptoSaid : Prop := modeEachUptoRow.holds Try.pinned (OpenSpec.upto modeEachSpec)

/-- 'castellanlaw03.ModeHolds', WHERE WHAT IT READS IS OF BULK AT MOST 1048576: true; the input reads as it did. -/
def modeHoldsUptoRow : OpenClaim := { program := "ytfgdpkceoadgjaa", sum := "02d12e22698b2d9e4dbc159ea012798fd6c867089d356f3bf0419e3a20dac3e9", func := "castellan/castellanlaw03.ModeHolds", spec := "modeHolds", unfollowed := true, recurses := true, apart := false, narrowed := true }
def ModeHoldsUptoSaid : Prop := modeHoldsUptoRow.holds Try.pinned (OpenSpec.upto modeHoldsSpec)

/-- 'castellanlaw03.ModeNames', WHERE WHAT IT READS IS OF BULK AT MOST 1048576: true; the input reads as it did. -/
def modeNamesUptoRow : OpenClaim := { program := "ytfgdpkceoadgjaa", sum := "02d12e22698b2d9e4dbc159ea012798fd6c867089d356f3bf0419e3a20dac3e9", func := "castellan/castellanlaw03.ModeNames", spec := "modeNames", unfollowed := true, recurses := true, apart := false, narrowed := true }
def ModeNamesUptoSaid : Prop := modeNamesUptoRow.holds Try.pinned (OpenSpec.upto modeNamesSpec)

/-- 'castellanlaw13.HoldEnds', WHERE WHAT IT READS IS OF BULK AT MOST 1048576: true; the input reads as it did. -/
def holdEndsUptoRow : OpenClaim := { program := "ytfgdpkceoadgjaa", sum := "02d12e22698b2d9e4dbc159ea012798fd6c867089d356f3bf0419e3a20dac3e9", func := "castellan/castellanlaw13.HoldEnds", spec := "holdEnds", inPlace := ["slices.overlaps[castellan/api.Hold]"], unfollowed := true, recurses := true, apart := false, narrowed := true }
def HoldEndsUptoSaid : Prop := holdEndsUptoRow.holds Try.pinned (OpenSpec.upto holdEndsSpec)

/-- 'castellanlaw13.HoldAsks', WHERE WHAT IT READS IS OF BULK AT MOST 1048576: true; the input reads as it did. -/
def holdAsksUptoRow : OpenClaim := { program := "ytfgdpkceoadgjaa", sum := "02d12e22698b2d9e4dbc159ea012798fd6c867089d356f3bf0419e3a20dac3e9", func := "castellan/castellanlaw13.HoldAsks", spec := "holdAsks", inPlace := ["slices.overlaps[castellan/api.Hold]"], unfollowed := true, recurses := true, apart := false, narrowed := true }
def HoldAsksUptoSaid : Prop := holdAsksUptoRow.holds Try.pinned (OpenSpec.upto holdAsksSpec)

/-- 'castellanlaw13.HoldAdds', WHERE WHAT IT READS IS OF BULK AT MOST 1048576: true; the input reads as it did. -/
def holdAddsUptoRow : OpenClaim := { program := "ytfgdpkceoadgjaa", sum := "02d12e22698b2d9e4dbc159ea012798fd6c867089d356f3bf0419e3a20dac3e9", func := "castellan/castellanlaw13.HoldAdds", spec := "holdAdds", inPlace := ["slices.overlaps[castellan/api.Hold]"], unfollowed := true, recurses := true, apart := false, narrowed := true }
def HoldAddsUptoSaid : Prop := holdAddsUptoRow.holds Try.pinned (OpenSpec.upto holdAddsSpec)

/-- 'castellanlaw13.HoldHolds', WHERE WHAT IT READS IS OF BULK AT MOST 1048576: true; the input reads as it did. -/
def holdHoldsUptoRow : OpenClaim := { program := "ytfgdpkceoadgjaa", sum := "02d12e22698b2d9e4dbc159ea012798fd6c867089d356f3bf0419e3a20dac3e9", func := "castellan/castellanlaw13.HoldHolds", spec := "holdHolds", inPlace := ["slices.overlaps[castellan/api.Hold]"], unfollowed := true, recurses := true, apart := false, narrowed := true }
def HoldHoldsUptoSaid : Prop := holdHoldsUptoRow.holds Try.pinned (OpenSpec.upto holdHoldsSpec)

/-- 'castellanlaw13.HoldEach', WHERE WHAT IT READS IS OF BULK AT MOST 1048576: true; the input reads as it did. -/
def holdEachUptoRow : OpenClaim := { program := "ytfgdpkceoadgjaa", sum := "02d12e22698b2d9e4dbc159ea012798fd6c867089d356f3bf0419e3a20dac3e9", func := "castellan/castellanlaw13.HoldEach", spec := "holdEach", inPlace := ["slices.overlaps[castellan/api.Hold]"], unfollowed := true, recurses := true, apart := false, narrowed := true }
def HoldEachUptoSaid : Prop := holdEachUptoRow.holds Try.pinned (OpenSpec.upto holdEachSpec)

/-- 'castellanlaw12.WaitOrders', WHERE WHAT IT READS IS OF BULK AT MOST 1048576: true; the input reads as it did. -/
def waitOrdersUptoRow : OpenClaim := { program := "ytfgdpkceoadgjaa", sum := "02d12e22698b2d9e4dbc159ea012798fd6c867089d356f3bf0419e3a20dac3e9", func := "castellan/castellanlaw12.WaitOrders", spec := "waitOrders", unfollowed := true, recurses := true, apart := false, narrowed := true }
def WaitOrdersUptoSaid : Prop := waitOrdersUptoRow.holds Try.pinned (OpenSpec.upto waitOrdersSpec)

/-- 'castellanlaw12.WaitNexts', WHERE WHAT IT READS IS OF BULK AT MOST 1048576: true; the input reads as it did. -/
def waitNextsUptoRow : OpenClaim := { program := "ytfgdpkceoadgjaa", sum := "02d12e22698b2d9e4dbc159ea012798fd6c867089d356f3bf0419e3a20dac3e9", func := "castellan/castellanlaw12.WaitNexts", spec := "waitNexts", unfollowed := true, recurses := true, apart := false, narrowed := true }
def WaitNextsUptoSaid : Prop := waitNextsUptoRow.holds Try.pinned (OpenSpec.upto waitNextsSpec)

/-- 'castellanlaw12.WaitGrants', WHERE WHAT IT READS IS OF BULK AT MOST 1048576: true; the input reads as it did. -/
def waitGrantsUptoRow : OpenClaim := { program := "ytfgdpkceoadgjaa", sum := "02d12e22698b2d9e4dbc159ea012798fd6c867089d356f3bf0419e3a20dac3e9", func := "castellan/castellanlaw12.WaitGrants", spec := "waitGrants", unfollowed := true, recurses := true, apart := false, narrowed := true }
def WaitGrantsUptoSaid : Prop := waitGrantsUptoRow.holds Try.pinned (OpenSpec.upto waitGrantsSpec)

/-- 'castellanlaw12.WaitAnyone', WHERE WHAT IT READS IS OF BULK AT MOST 1048576: true; the input reads as it did. -/
def waitAnyoneUptoRow : OpenClaim := { program := "ytfgdpkceoadgjaa", sum := "02d12e22698b2d9e4dbc159ea012798fd6c867089d356f3bf0419e3a20dac3e9", func := "castellan/castellanlaw12.WaitAnyone", spec := "waitAnyone", unfollowed := true, recurses := true, apart := false, narrowed := true }
def WaitAnyoneUptoSaid : Prop := waitAnyoneUptoRow.holds Try.pinned (OpenSpec.upto waitAnyoneSpec)

/-- 'castellanlaw12.WaitHolds', WHERE WHAT IT READS IS OF BULK AT MOST 1048576: true; the input reads as it did. -/
def waitHoldsUptoRow : OpenClaim := { program := "ytfgdpkceoadgjaa", sum := "02d12e22698b2d9e4dbc159ea012798fd6c867089d356f3bf0419e3a20dac3e9", func := "castellan/castellanlaw12.WaitHolds", spec := "waitHolds", unfollowed := true, recurses := true, apart := false, narrowed := true }
def WaitHoldsUptoSaid : Prop := waitHoldsUptoRow.holds Try.pinned (OpenSpec.upto waitHoldsSpec)

/-- 'castellanlaw12.WaitAdds', WHERE WHAT IT READS IS OF BULK AT MOST 1048576: true; the input reads as it did. -/
def waitAddsUptoRow : OpenClaim := { program := "ytfgdpkceoadgjaa", sum := "02d12e22698b2d9e4dbc159ea012798fd6c867089d356f3bf0419e3a20dac3e9", func := "castellan/castellanlaw12.WaitAdds", spec := "waitAdds", unfollowed := true, recurses := true, apart := false, narrowed := true }
def WaitAddsUptoSaid : Prop := waitAddsUptoRow.holds Try.pinned (OpenSpec.upto waitAddsSpec)

end Rows
end Go.Proofs.Ytfgdpkceoadgjaa
