/-
  No cell of these rows narrows 'for every input' (looked for: loops, veiled, ifaces, maps, wideKeys, modest, calm, conditions, laid).
  DERIVED. THE GIVEN ROWS OF THIS SEAT. 5 by the template 'for every input the law returns true; each argument reads behind the call as it read before'; 0 by the template 'total and deterministic' (their statements: YtimdcofalpglbaaTotals.lean).
  GIVEN WITH THE SEED: the statements are not yours to turn. If you find one false, say at which input.
  Laid BY PROGRAM, IN A SANDBOX (cutbox-rows.mjs): the forced cells as the released guide's own fill.sh prints them over the translation 2460570e22207ccc… (all of the seat's roots in one cut). By AI agents, Wed Nov 11 2026. No macro, syntax, notation, axiom, sorry.
-/
import Derived.Test.YtimdcofalpglbaaChecked
import GoSem.Claim
import GoSem.ClaimJoined
import GoSem.ClaimMapViews
import Derived.JoinedTies
import Derived.KernelRfl
namespace Go.Proofs.Ytimdcofalpglbaa
/- THE CELL 'sum', in the pinned program and in every row, IS THE sha256 OF THE DUMP (.gsa) THAT YtimdcofalpglbaaProg.lean LOADS. Nothing in Lean hashes anything: it is a label: what it is worth is what the hold of that sum in a sandbox is worth. -/
noncomputable def Try.pinned : Pinned := { name := "ytimdcofalpglbaa", sum := "2460570e22207ccce2034d6179291911ec84c0ad02d2eb930559dd4dd4ed0274", checked := Try.checked }
namespace Rows
def none {H : Type} : Left H := { results := [], args := [] }

/-- 'castellanlaw04.EscrowChanges': WHATEVER THE INPUT: true; the input reads as it did. -/
def escrowChangesSpec : ChangeSpec := { name := "escrowChanges", fn := fun _ => fun
  | [d1, d2] => { results := [.lit (.bool true)], args := [d1, d2] }
  | _ => none }
def escrowChangesRow : OpenClaim := { program := "ytimdcofalpglbaa", sum := "2460570e22207ccce2034d6179291911ec84c0ad02d2eb930559dd4dd4ed0274", func := "castellan/castellanlaw04.EscrowChanges", spec := "escrowChanges", unfollowed := true, recurses := true, apart := false }
def EscrowChangesSaid : Prop := escrowChangesRow.holds Try.pinned (OpenSpec.ofChange escrowChangesSpec)

/-- ITS FALSE NEIGHBOUR: 'it returns false'. Refute it at one input. -/
def escrowChangesWrong : ChangeSpec := { name := "escrowChanges", fn := fun _ => fun
  | [d1, d2] => { results := [.lit (.bool false)], args := [d1, d2] }
  | _ => none }
def EscrowChangesWrongFalsely : Prop := escrowChangesRow.holds Try.pinned (OpenSpec.ofChange escrowChangesWrong)

/-- 'castellanlaw04.EscrowSpares': WHATEVER THE INPUT: true; the input reads as it did. -/
def escrowSparesSpec : ChangeSpec := { name := "escrowSpares", fn := fun _ => fun
  | [d] => { results := [.lit (.bool true)], args := [d] }
  | _ => none }
def escrowSparesRow : OpenClaim := { program := "ytimdcofalpglbaa", sum := "2460570e22207ccce2034d6179291911ec84c0ad02d2eb930559dd4dd4ed0274", func := "castellan/castellanlaw04.EscrowSpares", spec := "escrowSpares", unfollowed := true, recurses := true, apart := false }
def EscrowSparesSaid : Prop := escrowSparesRow.holds Try.pinned (OpenSpec.ofChange escrowSparesSpec)

/-- ITS FALSE NEIGHBOUR: 'it returns false'. Refute it at one input. -/
def escrowSparesWrong : ChangeSpec := { name := "escrowSpares", fn := fun _ => fun
  | [d] => { results := [.lit (.bool false)], args := [d] }
  | _ => none }
def EscrowSparesWrongFalsely : Prop := escrowSparesRow.holds Try.pinned (OpenSpec.ofChange escrowSparesWrong)

/-- 'castellanlaw04.EscrowRuns': WHATEVER THE INPUT: true; the input reads as it did. -/
def escrowRunsSpec : ChangeSpec := { name := "escrowRuns", fn := fun _ => fun
  | [d1, d2] => { results := [.lit (.bool true)], args := [d1, d2] }
  | _ => none }
def escrowRunsRow : OpenClaim := { program := "ytimdcofalpglbaa", sum := "2460570e22207ccce2034d6179291911ec84c0ad02d2eb930559dd4dd4ed0274", func := "castellan/castellanlaw04.EscrowRuns", spec := "escrowRuns", unfollowed := true, recurses := true, apart := false }
def EscrowRunsSaid : Prop := escrowRunsRow.holds Try.pinned (OpenSpec.ofChange escrowRunsSpec)

/-- ITS FALSE NEIGHBOUR: 'it returns false'. Refute it at one input. -/
def escrowRunsWrong : ChangeSpec := { name := "escrowRuns", fn := fun _ => fun
  | [d1, d2] => { results := [.lit (.bool false)], args := [d1, d2] }
  | _ => none }
def EscrowRunsWrongFalsely : Prop := escrowRunsRow.holds Try.pinned (OpenSpec.ofChange escrowRunsWrong)

/-- 'castellanlaw04.EscrowEach': WHATEVER THE INPUT: true; the input reads as it did. -/
def escrowEachSpec : ChangeSpec := { name := "escrowEach", fn := fun _ => fun
  | [d1, d2, d3] => { results := [.lit (.bool true)], args := [d1, d2, d3] }
  | _ => none }
def escrowEachRow : OpenClaim := { program := "ytimdcofalpglbaa", sum := "2460570e22207ccce2034d6179291911ec84c0ad02d2eb930559dd4dd4ed0274", func := "castellan/castellanlaw04.EscrowEach", spec := "escrowEach", unfollowed := true, recurses := true, apart := false }
def EscrowEachSaid : Prop := escrowEachRow.holds Try.pinned (OpenSpec.ofChange escrowEachSpec)

/-- ITS FALSE NEIGHBOUR: 'it returns false'. Refute it at one input. -/
def escrowEachWrong : ChangeSpec := { name := "escrowEach", fn := fun _ => fun
  | [d1, d2, d3] => { results := [.lit (.bool false)], args := [d1, d2, d3] }
  | _ => none }
def EscrowEachWrongFalsely : Prop := escrowEachRow.holds Try.pinned (OpenSpec.ofChange escrowEachWrong)

/-- 'castellanlaw04.EscrowHolds': WHATEVER THE INPUT: true; the input reads as it did. -/
def escrowHoldsSpec : ChangeSpec := { name := "escrowHolds", fn := fun _ => fun
  | [d1, d2, d3] => { results := [.lit (.bool true)], args := [d1, d2, d3] }
  | _ => none }
def escrowHoldsRow : OpenClaim := { program := "ytimdcofalpglbaa", sum := "2460570e22207ccce2034d6179291911ec84c0ad02d2eb930559dd4dd4ed0274", func := "castellan/castellanlaw04.EscrowHolds", spec := "escrowHolds", unfollowed := true, recurses := true, apart := false }
def EscrowHoldsSaid : Prop := escrowHoldsRow.holds Try.pinned (OpenSpec.ofChange escrowHoldsSpec)

/-- ITS FALSE NEIGHBOUR: 'it returns false'. Refute it at one input. -/
def escrowHoldsWrong : ChangeSpec := { name := "escrowHolds", fn := fun _ => fun
  | [d1, d2, d3] => { results := [.lit (.bool false)], args := [d1, d2, d3] }
  | _ => none }
def EscrowHoldsWrongFalsely : Prop := escrowHoldsRow.holds Try.pinned (OpenSpec.ofChange escrowHoldsWrong)

/- THE SECOND FORM. 'bulk': how many values and letters a reading holds, each counted each time it is reached (what is shared counts as often as it is met; a slice's spare places count too). A statement '..UptoSaid' is the law's where the arguments, and the package variables that the reading takes, are together of bulk at most 1048576: NARROWER than '..Said'. Prove '..Said' where nothing that the law and all that it calls make is longer than what came in: it says more and counts as full. Else prove '..UptoSaid'. A law counts once. -/
mutual
def uptoBulk {H : Type} : DataW H → Nat
  | .lit (.string bytes) => bytes.length + 1
  | .lit _ => 1
  | .nil => 1
  | .ptr d => uptoBulk d + 1
  | .slice elems spare => uptoBulkAll elems + uptoBulkAll spare + 1
  | .agg parts => uptoBulkAll parts + 1
  | .iface _ d => uptoBulk d + 1
  | .map entries => uptoBulkEntries entries + 1
  | .held _ => 1
def uptoBulkAll {H : Type} : List (DataW H) → Nat
  | [] => 0
  | d :: r => uptoBulk d + uptoBulkAll r
def uptoBulkEntries {H : Type} : List (Lit × DataW H) → Nat
  | [] => 0
  | x :: r => uptoBulkEntry x + uptoBulkEntries r
def uptoBulkEntry {H : Type} : Lit × DataW H → Nat
  | (.string bytes, d) => bytes.length + uptoBulk d + 1
  | (_, d) => uptoBulk d + 1
 end
def uptoSmall : (H : Type) → List (DataW H) → Bool := fun _ ds => decide (uptoBulkAll ds ≤ 1048576)
def OpenSpec.upto (s : _root_.Go.ChangeSpec) : _root_.Go.OpenSpec := { _root_.Go.OpenSpec.ofChange s with cond := some uptoSmall }

/-- 'castellanlaw04.EscrowChanges', WHERE WHAT IT READS IS OF BULK AT MOST 1048576: true; the input reads as it did. -/
def escrowChangesUptoRow : OpenClaim := { program := "ytimdcofalpglbaa", sum := "2460570e22207ccce2034d6179291911ec84c0ad02d2eb930559dd4dd4ed0274", func := "castellan/castellanlaw04.EscrowChanges", spec := "escrowChanges", unfollowed := true, recurses := true, apart := false, narrowed := true }
def EscrowChangesUptoSaid : Prop := escrowChangesUptoRow.holds Try.pinned (OpenSpec.upto escrowChangesSpec)

/-- 'castellanlaw04.EscrowSpares', WHERE WHAT IT READS IS OF BULK AT MOST 1048576: true; the input reads as it did. -/
def escrowSparesUptoRow : OpenClaim := { program := "ytimdcofalpglbaa", sum := "2460570e22207ccce2034d6179291911ec84c0ad02d2eb930559dd4dd4ed0274", func := "castellan/castellanlaw04.EscrowSpares", spec := "escrowSpares", unfollowed := true, recurses := true, apart := false, narrowed := true }
def EscrowSparesUptoSaid : Prop := escrowSparesUptoRow.holds Try.pinned (OpenSpec.upto escrowSparesSpec)

/-- 'castellanlaw04.EscrowRuns', WHERE WHAT IT READS IS OF BULK AT MOST 1048576: true; the input reads as it did. -/
def escrowRunsUptoRow : OpenClaim := { program := "ytimdcofalpglbaa", sum := "2460570e22207ccce2034d6179291911ec84c0ad02d2eb930559dd4dd4ed0274", func := "castellan/castellanlaw04.EscrowRuns", spec := "escrowRuns", unfollowed := true, recurses := true, apart := false, narrowed := true }
def EscrowRunsUptoSaid : Prop := escrowRunsUptoRow.holds Try.pinned (OpenSpec.upto escrowRunsSpec)

/-- 'castellanlaw04.EscrowEach', WHERE WHAT IT READS IS OF BULK AT MOST 1048576: true; the input reads as it did. -/
def escrowEachUptoRow : OpenClaim := { program := "ytimdcofalpglbaa", sum := "2460570e22207ccce2034d6179291911ec84c0ad02d2eb930559dd4dd4ed0274", func := "castellan/castellanlaw04.EscrowEach", spec := "escrowEach", unfollowed := true, recurses := true, apart := false, narrowed := true }
def EscrowEachUptoSaid : Prop := escrowEachUptoRow.holds Try.pinned (OpenSpec.upto escrowEachSpec)

/-- 'castellanlaw04.EscrowHolds', WHERE WHAT IT READS IS OF BULK AT MOST 1048576: true; the input reads as it did. -/
def escrowHoldsUptoRow : OpenClaim := { program := "ytimdcofalpglbaa", sum := "2460570e22207ccce2034d6179291911ec84c0ad02d2eb930559dd4dd4ed0274", func := "castellan/castellanlaw04.EscrowHolds", spec := "escrowHolds", unfollowed := true, recurses := true, apart := false, narrowed := true }
def EscrowHoldsUptoSaid : Prop := escrowHoldsUptoRow.holds Try.pinned (OpenSpec.upto escrowHoldsSpec)

end Rows
end Go.Proofs.Ytimdcofalpglbaa
