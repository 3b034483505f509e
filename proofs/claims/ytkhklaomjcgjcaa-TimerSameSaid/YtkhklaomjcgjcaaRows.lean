/-
  No cell of these rows narrows 'for every input' (looked for: loops, veiled, ifaces, maps, wideKeys, modest, calm, conditions, laid).
  DERIVED. THE GIVEN ROWS OF THIS SEAT. 5 by the template 'for every input the law returns true; each argument reads behind the call as it read before'; 0 by the template 'total and deterministic' (their statements: YtkhklaomjcgjcaaTotals.lean).
  GIVEN WITH THE SEED: the statements are not yours to turn. If you find one false, say at which input.
  Laid BY PROGRAM, IN A SANDBOX (cutbox-rows.mjs): the forced cells as the released guide's own fill.sh prints them over the translation 5bb03e29cd5dc7b7… (all of the seat's roots in one cut). By AI agents, Wed Nov 11 2026. No macro, syntax, notation, axiom, sorry.
-/
import Derived.Test.YtkhklaomjcgjcaaChecked
import GoSem.Claim
import GoSem.ClaimJoined
import GoSem.ClaimMapViews
import Derived.JoinedTies
import Derived.KernelRfl
namespace Go.Proofs.Ytkhklaomjcgjcaa
/- THE CELL 'sum', in the pinned program and in every row, IS THE sha256 OF THE DUMP (.gsa) THAT YtkhklaomjcgjcaaProg.lean LOADS. Nothing in Lean hashes anything: it is a label: what it is worth is what the hold of that sum in a sandbox is worth. -/
noncomputable def Try.pinned : Pinned := { name := "ytkhklaomjcgjcaa", sum := "5bb03e29cd5dc7b755f04fb0900c5f138a73965ef9ca42cc9a02419d6abd358d", checked := Try.checked }
namespace Rows
def none {H : Type} : Left H := { results := [], args := [] }

/-- 'castellanlaw06.TimerLong': WHATEVER THE INPUT: true; the input reads as it did. -/
def timerLongSpec : ChangeSpec := { name := "timerLong", fn := fun _ => fun
  | [d] => { results := [.lit (.bool true)], args := [d] }
  | _ => none }
def timerLongRow : OpenClaim := { program := "ytkhklaomjcgjcaa", sum := "5bb03e29cd5dc7b755f04fb0900c5f138a73965ef9ca42cc9a02419d6abd358d", func := "castellan/castellanlaw06.TimerLong", spec := "timerLong", inPlace := ["maps.clone"], unfollowed := true, recurses := true, apart := false }
def TimerLongSaid : Prop := timerLongRow.holds Try.pinned (OpenSpec.ofChange timerLongSpec)

/-- ITS FALSE NEIGHBOUR: 'it returns false'. Refute it at one input. -/
def timerLongWrong : ChangeSpec := { name := "timerLong", fn := fun _ => fun
  | [d] => { results := [.lit (.bool false)], args := [d] }
  | _ => none }
def TimerLongWrongFalsely : Prop := timerLongRow.holds Try.pinned (OpenSpec.ofChange timerLongWrong)

/-- 'castellanlaw06.TimerHolds': WHATEVER THE INPUT: true; the input reads as it did. -/
def timerHoldsSpec : ChangeSpec := { name := "timerHolds", fn := fun _ => fun
  | [d] => { results := [.lit (.bool true)], args := [d] }
  | _ => none }
def timerHoldsRow : OpenClaim := { program := "ytkhklaomjcgjcaa", sum := "5bb03e29cd5dc7b755f04fb0900c5f138a73965ef9ca42cc9a02419d6abd358d", func := "castellan/castellanlaw06.TimerHolds", spec := "timerHolds", inPlace := ["maps.clone"], unfollowed := true, recurses := true, apart := false }
def TimerHoldsSaid : Prop := timerHoldsRow.holds Try.pinned (OpenSpec.ofChange timerHoldsSpec)

/-- ITS FALSE NEIGHBOUR: 'it returns false'. Refute it at one input. -/
def timerHoldsWrong : ChangeSpec := { name := "timerHolds", fn := fun _ => fun
  | [d] => { results := [.lit (.bool false)], args := [d] }
  | _ => none }
def TimerHoldsWrongFalsely : Prop := timerHoldsRow.holds Try.pinned (OpenSpec.ofChange timerHoldsWrong)

/-- 'castellanlaw06.TimerPlays': WHATEVER THE INPUT: true; the input reads as it did. -/
def timerPlaysSpec : ChangeSpec := { name := "timerPlays", fn := fun _ => fun
  | [d1, d2] => { results := [.lit (.bool true)], args := [d1, d2] }
  | _ => none }
def timerPlaysRow : OpenClaim := { program := "ytkhklaomjcgjcaa", sum := "5bb03e29cd5dc7b755f04fb0900c5f138a73965ef9ca42cc9a02419d6abd358d", func := "castellan/castellanlaw06.TimerPlays", spec := "timerPlays", inPlace := ["maps.clone"], unfollowed := true, recurses := true, apart := false }
def TimerPlaysSaid : Prop := timerPlaysRow.holds Try.pinned (OpenSpec.ofChange timerPlaysSpec)

/-- ITS FALSE NEIGHBOUR: 'it returns false'. Refute it at one input. -/
def timerPlaysWrong : ChangeSpec := { name := "timerPlays", fn := fun _ => fun
  | [d1, d2] => { results := [.lit (.bool false)], args := [d1, d2] }
  | _ => none }
def TimerPlaysWrongFalsely : Prop := timerPlaysRow.holds Try.pinned (OpenSpec.ofChange timerPlaysWrong)

/-- 'castellanlaw06.TimerNone': WHATEVER THE INPUT: true; the input reads as it did. -/
def timerNoneSpec : ChangeSpec := { name := "timerNone", fn := fun _ => fun
  | [d1, d2] => { results := [.lit (.bool true)], args := [d1, d2] }
  | _ => none }
def timerNoneRow : OpenClaim := { program := "ytkhklaomjcgjcaa", sum := "5bb03e29cd5dc7b755f04fb0900c5f138a73965ef9ca42cc9a02419d6abd358d", func := "castellan/castellanlaw06.TimerNone", spec := "timerNone", inPlace := ["maps.clone"], unfollowed := true, recurses := true, apart := false }
def TimerNoneSaid : Prop := timerNoneRow.holds Try.pinned (OpenSpec.ofChange timerNoneSpec)

/-- ITS FALSE NEIGHBOUR: 'it returns false'. Refute it at one input. -/
def timerNoneWrong : ChangeSpec := { name := "timerNone", fn := fun _ => fun
  | [d1, d2] => { results := [.lit (.bool false)], args := [d1, d2] }
  | _ => none }
def TimerNoneWrongFalsely : Prop := timerNoneRow.holds Try.pinned (OpenSpec.ofChange timerNoneWrong)

/-- 'castellanlaw06.TimerSame': WHATEVER THE INPUT: true; the input reads as it did. -/
def timerSameSpec : ChangeSpec := { name := "timerSame", fn := fun _ => fun
  | [d1, d2] => { results := [.lit (.bool true)], args := [d1, d2] }
  | _ => none }
def timerSameRow : OpenClaim := { program := "ytkhklaomjcgjcaa", sum := "5bb03e29cd5dc7b755f04fb0900c5f138a73965ef9ca42cc9a02419d6abd358d", func := "castellan/castellanlaw06.TimerSame", spec := "timerSame", inPlace := ["maps.clone"], unfollowed := true, recurses := true, apart := false }
def TimerSameSaid : Prop := timerSameRow.holds Try.pinned (OpenSpec.ofChange timerSameSpec)

/-- ITS FALSE NEIGHBOUR: 'it returns false'. Refute it at one input. -/
def timerSameWrong : ChangeSpec := { name := "timerSame", fn := fun _ => fun
  | [d1, d2] => { results := [.lit (.bool false)], args := [d1, d2] }
  | _ => none }
def TimerSameWrongFalsely : Prop := timerSameRow.holds Try.pinned (OpenSpec.ofChange timerSameWrong)

/- THE SECOND FORM. 'bulk': how many values and letters a reading holds, each counted each time it is reached (what is shared counts as often as it is met; a slice's spare places count too). A statement '..UptoSaid' is the law's where the arguments, and the package variables that the reading takes, are together of bulk at most 1048576: NARROWER than '..Said'. Prove '..Said' where nothing that the law and all that it calls make is longer than what came in: it says more and counts as full. Else prove '..UptoSaid'. A law counts once. -/
mutual
def uptoBulk {H : Type} : DataW H → Nat
  | .lit (.string bytes) => bytes.length + 1
  | .lit _ => 1
  | .nil => 1
  | .ptr d => uptoBulk d + 1
  | .slice elems spare => uptoBulkAll elems + uptoBulkAll spare + 1
  | .agg parts => uptoBulkAll parts + 1
  | .iface _ d => uptoBulk d + 1
  | .map entries => uptoBulkEntries entries + 1
  | .held _ => 1
def uptoBulkAll {H : Type} : List (DataW H) → Nat
  | [] => 0
  | d :: r => uptoBulk d + uptoBulkAll r
def uptoBulkEntries {H : Type} : List (Lit × DataW H) → Nat
  | [] => 0
  | x :: r => uptoBulkEntry x + uptoBulkEntries r
def uptoBulkEntry {H : Type} : Lit × DataW H → Nat
  | (.string bytes, d) => bytes.length + uptoBulk d + 1
  | (_, d) => uptoBulk d + 1
 end
def uptoSmall : (H : Type) → List (DataW H) → Bool := fun _ ds => decide (uptoBulkAll ds ≤ 1048576)
def OpenSpec.upto (s : _root_.Go.ChangeSpec) : _root_.Go.OpenSpec := { _root_.Go.OpenSpec.ofChange s with cond := some uptoSmall }

/-- 'castellanlaw06.TimerLong', WHERE WHAT IT READS IS OF BULK AT MOST 1048576: true; the input reads as it did. -/
def timerLongUptoRow : OpenClaim := { program := "ytkhklaomjcgjcaa", sum := "5bb03e29cd5dc7b755f04fb0900c5f138a73965ef9ca42cc9a02419d6abd358d", func := "castellan/castellanlaw06.TimerLong", spec := "timerLong", inPlace := ["maps.clone"], unfollowed := true, recurses := true, apart := false, narrowed := true }
def TimerLongUptoSaid : Prop := timerLongUptoRow.holds Try.pinned (OpenSpec.upto timerLongSpec)

/-- 'castellanlaw06.TimerHolds', WHERE WHAT IT READS IS OF BULK AT MOST 1048576: true; the input reads as it did. -/
def timerHoldsUptoRow : OpenClaim := { program := "ytkhklaomjcgjcaa", sum := "5bb03e29cd5dc7b755f04fb0900c5f138a73965ef9ca42cc9a02419d6abd358d", func := "castellan/castellanlaw06.TimerHolds", spec := "timerHolds", inPlace := ["maps.clone"], unfollowed := true, recurses := true, apart := false, narrowed := true }
def TimerHoldsUptoSaid : Prop := timerHoldsUptoRow.holds Try.pinned (OpenSpec.upto timerHoldsSpec)

/-- 'castellanlaw06.TimerPlays', WHERE WHAT IT READS IS OF BULK AT MOST 1048576: true; the input reads as it did. -/
def timerPlaysUptoRow : OpenClaim := { program := "ytkhklaomjcgjcaa", sum := "5bb03e29cd5dc7b755f04fb0900c5f138a73965ef9ca42cc9a02419d6abd358d", func := "castellan/castellanlaw06.TimerPlays", spec := "timerPlays", inPlace := ["maps.clone"], unfollowed := true, recurses := true, apart := false, narrowed := true }
def TimerPlaysUptoSaid : Prop := timerPlaysUptoRow.holds Try.pinned (OpenSpec.upto timerPlaysSpec)

/-- 'castellanlaw06.TimerNone', WHERE WHAT IT READS IS OF BULK AT MOST 1048576: true; the input reads as it did. -/
def timerNoneUptoRow : OpenClaim := { program := "ytkhklaomjcgjcaa", sum := "5bb03e29cd5dc7b755f04fb0900c5f138a73965ef9ca42cc9a02419d6abd358d", func := "castellan/castellanlaw06.TimerNone", spec := "timerNone", inPlace := ["maps.clone"], unfollowed := true, recurses := true, apart := false, narrowed := true }
def TimerNoneUptoSaid : Prop := timerNoneUptoRow.holds Try.pinned (OpenSpec.upto timerNoneSpec)

/-- 'castellanlaw06.TimerSame', WHERE WHAT IT READS IS OF BULK AT MOST 1048576: true; the input reads as it did. -/
def timerSameUptoRow : OpenClaim := { program := "ytkhklaomjcgjcaa", sum := "5bb03e29cd5dc7b755f04fb0900c5f138a73965ef9ca42cc9a02419d6abd358d", func := "castellan/castellanlaw06.TimerSame", spec := "timerSame", inPlace := ["maps.clone"], unfollowed := true, recurses := true, apart := false, narrowed := true }
def TimerSameUptoSaid : Prop := timerSameUptoRow.holds Try.pinned (OpenSpec.upto timerSameSpec)

end Rows
end Go.Proofs.Ytkhklaomjcgjcaa
