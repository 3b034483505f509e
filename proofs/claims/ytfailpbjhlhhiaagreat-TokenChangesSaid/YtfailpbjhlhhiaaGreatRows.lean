/-
  No cell of these rows narrows 'for every input' (looked for: loops, veiled, ifaces, maps, wideKeys, modest, calm, conditions, laid).
  DERIVED. THE GIVEN ROWS OF THIS SEAT. 5 by the template 'for every input the law returns true; each argument reads behind the call as it read before'; 0 by the template 'total and deterministic' (their statements: YtfailpbjhlhhiaaGreatTotals.lean).
  GIVEN WITH THE SEED: the statements are not yours to turn. If you find one false, say at which input.
  Laid BY PROGRAM, IN A SANDBOX (cutbox-rows.mjs): the forced cells as the released guide's own fill.sh prints them over the translation 1a9ac2ee277076cc… (all of the seat's roots in one cut). By AI agents, Wed Nov 11 2026. No macro, syntax, notation, axiom, sorry.
-/
import Derived.Test.YtfailpbjhlhhiaaGreatChecked
import GoSem.Claim
import GoSem.ClaimJoined
import GoSem.ClaimMapViews
import Derived.JoinedTies
import Derived.KernelRfl
namespace Go.Proofs.YtfailpbjhlhhiaaGreat
/- THE CELL 'sum', in the pinned program and in every row, IS THE sha256 OF THE DUMP (.gsa) THAT YtfailpbjhlhhiaaGreatProg.lean LOADS. Nothing in Lean hashes anything: it is a label: what it is worth is what the hold of that sum in a sandbox is worth. -/
noncomputable def Tryz.pinned : Pinned := { name := "ytfailpbjhlhhiaagreat", sum := "1a9ac2ee277076cc7d9d3cc1de6396ca8490450aac1046171c3775262cfaa3cc", checked := Tryz.checked }
namespace Rows
def none {H : Type} : Left H := { results := [], args := [] }

/-- 'castellanlaw15.TokenLearns': WHATEVER THE INPUT: true; the input reads as it did. -/
def tokenLearnsSpec : ChangeSpec := { name := "tokenLearns", fn := fun _ => fun
  | [d1, d2, d3] => { results := [.lit (.bool true)], args := [d1, d2, d3] }
  | _ => none }
def tokenLearnsRow : OpenClaim := { program := "ytfailpbjhlhhiaagreat", sum := "1a9ac2ee277076cc7d9d3cc1de6396ca8490450aac1046171c3775262cfaa3cc", func := "castellan/castellanlaw15.TokenLearns", spec := "tokenLearns", inPlace := ["slices.overlaps[castellan/api.Hold]"], unfollowed := true, recurses := true, apart := false }
def TokenLearnsSaid : Prop := tokenLearnsRow.holds Tryz.pinned (OpenSpec.ofChange tokenLearnsSpec)

/-- ITS FALSE NEIGHBOUR: 'it returns false'. Refute it at one input. -/
def tokenLearnsWrong : ChangeSpec := { name := "tokenLearns", fn := fun _ => fun
  | [d1, d2, d3] => { results := [.lit (.bool false)], args := [d1, d2, d3] }
  | _ => none }
def TokenLearnsWrongFalsely : Prop := tokenLearnsRow.holds Tryz.pinned (OpenSpec.ofChange tokenLearnsWrong)

/-- 'castellanlaw15.TokenChanges': WHATEVER THE INPUT: true; the input reads as it did. -/
def tokenChangesSpec : ChangeSpec := { name := "tokenChanges", fn := fun _ => fun
  | [d1, d2, d3] => { results := [.lit (.bool true)], args := [d1, d2, d3] }
  | _ => none }
def tokenChangesRow : OpenClaim := { program := "ytfailpbjhlhhiaagreat", sum := "1a9ac2ee277076cc7d9d3cc1de6396ca8490450aac1046171c3775262cfaa3cc", func := "castellan/castellanlaw15.TokenChanges", spec := "tokenChanges", inPlace := ["slices.overlaps[castellan/api.Hold]"], unfollowed := true, recurses := true, apart := false }
def TokenChangesSaid : Prop := tokenChangesRow.holds Tryz.pinned (OpenSpec.ofChange tokenChangesSpec)

/-- ITS FALSE NEIGHBOUR: 'it returns false'. Refute it at one input. -/
def tokenChangesWrong : ChangeSpec := { name := "tokenChanges", fn := fun _ => fun
  | [d1, d2, d3] => { results := [.lit (.bool false)], args := [d1, d2, d3] }
  | _ => none }
def TokenChangesWrongFalsely : Prop := tokenChangesRow.holds Tryz.pinned (OpenSpec.ofChange tokenChangesWrong)

/-- 'castellanlaw15.TokenMakes': WHATEVER THE INPUT: true; the input reads as it did. -/
def tokenMakesSpec : ChangeSpec := { name := "tokenMakes", fn := fun _ => fun
  | [d1, d2, d3] => { results := [.lit (.bool true)], args := [d1, d2, d3] }
  | _ => none }
def tokenMakesRow : OpenClaim := { program := "ytfailpbjhlhhiaagreat", sum := "1a9ac2ee277076cc7d9d3cc1de6396ca8490450aac1046171c3775262cfaa3cc", func := "castellan/castellanlaw15.TokenMakes", spec := "tokenMakes", inPlace := ["slices.overlaps[castellan/api.Hold]"], unfollowed := true, recurses := true, apart := false }
def TokenMakesSaid : Prop := tokenMakesRow.holds Tryz.pinned (OpenSpec.ofChange tokenMakesSpec)

/-- ITS FALSE NEIGHBOUR: 'it returns false'. Refute it at one input. -/
def tokenMakesWrong : ChangeSpec := { name := "tokenMakes", fn := fun _ => fun
  | [d1, d2, d3] => { results := [.lit (.bool false)], args := [d1, d2, d3] }
  | _ => none }
def TokenMakesWrongFalsely : Prop := tokenMakesRow.holds Tryz.pinned (OpenSpec.ofChange tokenMakesWrong)

/-- 'castellanlaw15.TokenReads': WHATEVER THE INPUT: true; the input reads as it did. -/
def tokenReadsSpec : ChangeSpec := { name := "tokenReads", fn := fun _ => fun
  | [d1, d2] => { results := [.lit (.bool true)], args := [d1, d2] }
  | _ => none }
def tokenReadsRow : OpenClaim := { program := "ytfailpbjhlhhiaagreat", sum := "1a9ac2ee277076cc7d9d3cc1de6396ca8490450aac1046171c3775262cfaa3cc", func := "castellan/castellanlaw15.TokenReads", spec := "tokenReads", inPlace := ["slices.overlaps[castellan/api.Hold]"], unfollowed := true, recurses := true, apart := false }
def TokenReadsSaid : Prop := tokenReadsRow.holds Tryz.pinned (OpenSpec.ofChange tokenReadsSpec)

/-- ITS FALSE NEIGHBOUR: 'it returns false'. Refute it at one input. -/
def tokenReadsWrong : ChangeSpec := { name := "tokenReads", fn := fun _ => fun
  | [d1, d2] => { results := [.lit (.bool false)], args := [d1, d2] }
  | _ => none }
def TokenReadsWrongFalsely : Prop := tokenReadsRow.holds Tryz.pinned (OpenSpec.ofChange tokenReadsWrong)

/-- 'castellanlaw15.TokenBytes': WHATEVER THE INPUT: true; the input reads as it did. -/
def tokenBytesSpec : ChangeSpec := { name := "tokenBytes", fn := fun _ => fun
  | [d1, d2, d3] => { results := [.lit (.bool true)], args := [d1, d2, d3] }
  | _ => none }
def tokenBytesRow : OpenClaim := { program := "ytfailpbjhlhhiaagreat", sum := "1a9ac2ee277076cc7d9d3cc1de6396ca8490450aac1046171c3775262cfaa3cc", func := "castellan/castellanlaw15.TokenBytes", spec := "tokenBytes", inPlace := ["slices.overlaps[castellan/api.Hold]"], unfollowed := true, recurses := true, apart := false }
def TokenBytesSaid : Prop := tokenBytesRow.holds Tryz.pinned (OpenSpec.ofChange tokenBytesSpec)

/-- ITS FALSE NEIGHBOUR: 'it returns false'. Refute it at one input. -/
def tokenBytesWrong : ChangeSpec := { name := "tokenBytes", fn := fun _ => fun
  | [d1, d2, d3] => { results := [.lit (.bool false)], args := [d1, d2, d3] }
  | _ => none }
def TokenBytesWrongFalsely : Prop := tokenBytesRow.holds Tryz.pinned (OpenSpec.ofChange tokenBytesWrong)

/- THE SECOND FORM. 'bulk': how many values and letters a reading holds, each counted each time it is reached (what is shared counts as often as it is met; a slice's spare places count too). A statement '..UptoSaid' is the law's where the arguments, and the package variables that the reading takes, are together of bulk at most 1048576: NARROWER than '..Said'. Prove '..Said' where nothing that the law and all that it calls make is longer than what came in: it says more and counts as full. Else prove '..UptoSaid'. A law counts once. -/
mutual
def uptoBulk {H : Type} : DataW H → Nat
  | .lit (.string bytes) => bytes.length + 1
  | .lit _ => 1
  | .nil => 1
  | .ptr d => uptoBulk d + 1
  | .slice elems spare => uptoBulkAll elems + uptoBulkAll spare + 1
  | .agg parts => uptoBulkAll parts + 1
  | .iface _ d => uptoBulk d + 1
  | .map entries => uptoBulkEntries entries + 1
  | .held _ => 1
def uptoBulkAll {H : Type} : List (DataW H) → Nat
  | [] => 0
  | d :: r => uptoBulk d + uptoBulkAll r
def uptoBulkEntries {H : Type} : List (Lit × DataW H) → Nat
  | [] => 0
  | x :: r => uptoBulkEntry x + uptoBulkEntries r
def uptoBulkEntry {H : Type} : Lit × DataW H → Nat
  | (.string bytes, d) => bytes.length + uptoBulk d + 1
  | (_, d) => uptoBulk d + 1
 end
def uptoSmall : (H : Type) → List (DataW H) → Bool := fun _ ds => decide (uptoBulkAll ds ≤ 1048576)
def OpenSpec.upto (s : _root_.Go.ChangeSpec) : _root_.Go.OpenSpec := { _root_.Go.OpenSpec.ofChange s with cond := some uptoSmall }

/-- 'castellanlaw15.TokenLearns', WHERE WHAT IT READS IS OF BULK AT MOST 1048576: true; the input reads as it did. -/
def tokenLearnsUptoRow : OpenClaim := { program := "ytfailpbjhlhhiaagreat", sum := "1a9ac2ee277076cc7d9d3cc1de6396ca8490450aac1046171c3775262cfaa3cc", func := "castellan/castellanlaw15.TokenLearns", spec := "tokenLearns", inPlace := ["slices.overlaps[castellan/api.Hold]"], unfollowed := true, recurses := true, apart := false, narrowed := true }
def TokenLearnsUptoSaid : Prop := tokenLearnsUptoRow.holds Tryz.pinned (OpenSpec.upto tokenLearnsSpec)

/-- 'castellanlaw15.TokenChanges', WHERE WHAT IT READS IS OF BULK AT MOST 1048576: true; the input reads as it did. -/
def tokenChangesUptoRow : OpenClaim := { program := "ytfailpbjhlhhiaagreat", sum := "1a9ac2ee277076cc7d9d3cc1de6396ca8490450aac1046171c3775262cfaa3cc", func := "castellan/castellanlaw15.TokenChanges", spec := "tokenChanges", inPlace := ["slices.overlaps[castellan/api.Hold]"], unfollowed := true, recurses := true, apart := false, narrowed := true }
def TokenChangesUptoSaid : Prop := tokenChangesUptoRow.holds Tryz.pinned (OpenSpec.upto tokenChangesSpec)

/-- 'castellanlaw15.TokenMakes', WHERE WHAT IT READS IS OF BULK AT MOST 1048576: true; the input reads as it did. -/
def tokenMakesUptoRow : OpenClaim := { program := "ytfailpbjhlhhiaagreat", sum := "1a9ac2ee277076cc7d9d3cc1de6396ca8490450aac1046171c3775262cfaa3cc", func := "castellan/castellanlaw15.TokenMakes", spec := "tokenMakes", inPlace := ["slices.overlaps[castellan/api.Hold]"], unfollowed := true, recurses := true, apart := false, narrowed := true }
def TokenMakesUptoSaid : Prop := tokenMakesUptoRow.holds Tryz.pinned (OpenSpec.upto tokenMakesSpec)

/-- 'castellanlaw15.TokenReads', WHERE WHAT IT READS IS OF BULK AT MOST 1048576: true; the input reads as it did. -/
def tokenReadsUptoRow : OpenClaim := { program := "ytfailpbjhlhhiaagreat", sum := "1a9ac2ee277076cc7d9d3cc1de6396ca8490450aac1046171c3775262cfaa3cc", func := "castellan/castellanlaw15.TokenReads", spec := "tokenReads", inPlace := ["slices.overlaps[castellan/api.Hold]"], unfollowed := true, recurses := true, apart := false, narrowed := true }
def TokenReadsUptoSaid : Prop := tokenReadsUptoRow.holds Tryz.pinned (OpenSpec.upto tokenReadsSpec)

/-- 'castellanlaw15.TokenBytes', WHERE WHAT IT READS IS OF BULK AT MOST 1048576: true; the input reads as it did. -/
def tokenBytesUptoRow : OpenClaim := { program := "ytfailpbjhlhhiaagreat", sum := "1a9ac2ee277076cc7d9d3cc1de6396ca8490450aac1046171c3775262cfaa3cc", func := "castellan/castellanlaw15.TokenBytes", spec := "tokenBytes", inPlace := ["slices.overlaps[castellan/api.Hold]"], unfollowed := true, recurses := true, apart := false, narrowed := true }
def TokenBytesUptoSaid : Prop := tokenBytesUptoRow.holds Tryz.pinned (OpenSpec.upto tokenBytesSpec)

end Rows
end Go.Proofs.YtfailpbjhlhhiaaGreat
