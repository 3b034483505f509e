/-
  No cell of these rows narrows 'for every input' (looked for: loops, veiled, ifaces, maps, wideKeys, modest, calm, conditions, laid).
  DERIVED. THE GIVEN ROWS OF THIS SEAT. 3 by the template 'for every input the law returns true; each argument reads behind the call as it read before'; 0 by the template 'total and deterministic' (their statements: YtobmggabgicpgaaGreatTotals.lean).
  GIVEN WITH THE SEED: the statements are not yours to turn. If you find one false, say at which input.
  Laid BY PROGRAM, IN A SANDBOX (cutbox-rows.mjs): the forced cells as the released guide's own fill.sh prints them over the translation 9481a28ba1fb4559… (all of the seat's roots in one cut). By AI agents, Wed Nov 11 2026. No macro, syntax, notation, axiom, sorry.
-/
import Derived.Test.YtobmggabgicpgaaGreatChecked
import GoSem.Claim
import GoSem.ClaimJoined
import GoSem.ClaimMapViews
import Derived.JoinedTies
import Derived.KernelRfl
namespace Go.Proofs.YtobmggabgicpgaaGreat
/- THE CELL 'sum', in the pinned program and in every row, IS THE sha256 OF THE DUMP (.gsa) THAT YtobmggabgicpgaaGreatProg.lean LOADS. Nothing in Lean hashes anything: it is a label: what it is worth is what the hold of that sum in a sandbox is worth. -/
noncomputable def Tryz.pinned : Pinned := { name := "ytobmggabgicpgaagreat", sum := "9481a28ba1fb4559f51a0b6bd9050275d6695a878036bfcce59dc18a06036128", checked := Tryz.checked }
namespace Rows
def none {H : Type} : Left H := { results := [], args := [] }

/-- 'castellanlaw21.SlotAcquires': WHATEVER THE INPUT: true; the input reads as it did. -/
def slotAcquiresSpec : ChangeSpec := { name := "slotAcquires", fn := fun _ => fun
  | [d1, d2, d3] => { results := [.lit (.bool true)], args := [d1, d2, d3] }
  | _ => none }
def slotAcquiresRow : OpenClaim := { program := "ytobmggabgicpgaagreat", sum := "9481a28ba1fb4559f51a0b6bd9050275d6695a878036bfcce59dc18a06036128", func := "castellan/castellanlaw21.SlotAcquires", spec := "slotAcquires", inPlace := ["maps.clone"], unfollowed := true, recurses := true, apart := false }
def SlotAcquiresSaid : Prop := slotAcquiresRow.holds Tryz.pinned (OpenSpec.ofChange slotAcquiresSpec)

/-- ITS FALSE NEIGHBOUR: 'it returns false'. Refute it at one input. -/
def slotAcquiresWrong : ChangeSpec := { name := "slotAcquires", fn := fun _ => fun
  | [d1, d2, d3] => { results := [.lit (.bool false)], args := [d1, d2, d3] }
  | _ => none }
def SlotAcquiresWrongFalsely : Prop := slotAcquiresRow.holds Tryz.pinned (OpenSpec.ofChange slotAcquiresWrong)

/-- 'castellanlaw21.SlotLates': WHATEVER THE INPUT: true; the input reads as it did. -/
def slotLatesSpec : ChangeSpec := { name := "slotLates", fn := fun _ => fun
  | [d1, d2, d3] => { results := [.lit (.bool true)], args := [d1, d2, d3] }
  | _ => none }
def slotLatesRow : OpenClaim := { program := "ytobmggabgicpgaagreat", sum := "9481a28ba1fb4559f51a0b6bd9050275d6695a878036bfcce59dc18a06036128", func := "castellan/castellanlaw21.SlotLates", spec := "slotLates", inPlace := ["maps.clone"], unfollowed := true, recurses := true, apart := false }
def SlotLatesSaid : Prop := slotLatesRow.holds Tryz.pinned (OpenSpec.ofChange slotLatesSpec)

/-- ITS FALSE NEIGHBOUR: 'it returns false'. Refute it at one input. -/
def slotLatesWrong : ChangeSpec := { name := "slotLates", fn := fun _ => fun
  | [d1, d2, d3] => { results := [.lit (.bool false)], args := [d1, d2, d3] }
  | _ => none }
def SlotLatesWrongFalsely : Prop := slotLatesRow.holds Tryz.pinned (OpenSpec.ofChange slotLatesWrong)

/-- 'castellanlaw21.SlotHolds': WHATEVER THE INPUT: true; the input reads as it did. -/
def slotHoldsSpec : ChangeSpec := { name := "slotHolds", fn := fun _ => fun
  | [d1, d2] => { results := [.lit (.bool true)], args := [d1, d2] }
  | _ => none }
def slotHoldsRow : OpenClaim := { program := "ytobmggabgicpgaagreat", sum := "9481a28ba1fb4559f51a0b6bd9050275d6695a878036bfcce59dc18a06036128", func := "castellan/castellanlaw21.SlotHolds", spec := "slotHolds", inPlace := ["maps.clone"], unfollowed := true, recurses := true, apart := false }
def SlotHoldsSaid : Prop := slotHoldsRow.holds Tryz.pinned (OpenSpec.ofChange slotHoldsSpec)

/-- ITS FALSE NEIGHBOUR: 'it returns false'. Refute it at one input. -/
def slotHoldsWrong : ChangeSpec := { name := "slotHolds", fn := fun _ => fun
  | [d1, d2] => { results := [.lit (.bool false)], args := [d1, d2] }
  | _ => none }
def SlotHoldsWrongFalsely : Prop := slotHoldsRow.holds Tryz.pinned (OpenSpec.ofChange slotHoldsWrong)

/- THE SECOND FORM. 'bulk': how many values and letters a reading holds, each counted each time it is reached (what is shared counts as often as it is met; a slice's spare places count too). A statement '..UptoSaid' is the law's where the arguments, and the package variables that the reading takes, are together of bulk at most 1048576: NARROWER than '..Said'. Prove '..Said' where nothing that the law and all that it calls make is longer than what came in: it says more and counts as full. Else prove '..UptoSaid'. A law counts once. -/
mutual
def uptoBulk {H : Type} : DataW H → Nat
  | .lit (.string bytes) => bytes.length + 1
  | .lit _ => 1
  | .nil => 1
  | .ptr d => uptoBulk d + 1
  | .slice elems spare => uptoBulkAll elems + uptoBulkAll spare + 1
  | .agg parts => uptoBulkAll parts + 1
  | .iface _ d => uptoBulk d + 1
  | .map entries => uptoBulkEntries entries + 1
  | .held _ => 1
def uptoBulkAll {H : Type} : List (DataW H) → Nat
  | [] => 0
  | d :: r => uptoBulk d + uptoBulkAll r
def uptoBulkEntries {H : Type} : List (Lit × DataW H) → Nat
  | [] => 0
  | x :: r => uptoBulkEntry x + uptoBulkEntries r
def uptoBulkEntry {H : Type} : Lit × DataW H → Nat
  | (.string bytes, d) => bytes.length + uptoBulk d + 1
  | (_, d) => uptoBulk d + 1
 end
def uptoSmall : (H : Type) → List (DataW H) → Bool := fun _ ds => decide (uptoBulkAll ds ≤ 1048576)
def OpenSpec.upto (s : _root_.Go.ChangeSpec) : _root_.Go.OpenSpec := { _root_.Go.OpenSpec.ofChange s with cond := some uptoSmall }

/-- 'castellanlaw21.SlotAcquires', WHERE WHAT IT READS IS OF BULK AT MOST 1048576: true; the input reads as it did. -/
def slotAcquiresUptoRow : OpenClaim := { program := "ytobmggabgicpgaagreat", sum := "9481a28ba1fb4559f51a0b6bd9050275d6695a878036bfcce59dc18a06036128", func := "castellan/castellanlaw21.SlotAcquires", spec := "slotAcquires", inPlace := ["maps.clone"], unfollowed := true, recurses := true, apart := false, narrowed := true }
def SlotAcquiresUptoSaid : Prop := slotAcquiresUptoRow.holds Tryz.pinned (OpenSpec.upto slotAcquiresSpec)

/-- 'castellanlaw21.SlotLates', WHERE WHAT IT READS IS OF BULK AT MOST 1048576: true; the input reads as it did. -/
def slotLatesUptoRow : OpenClaim := { program := "ytobmggabgicpgaagreat", sum := "9481a28ba1fb4559f51a0b6bd9050275d6695a878036bfcce59dc18a06036128", func := "castellan/castellanlaw21.SlotLates", spec := "slotLates", inPlace := ["maps.clone"], unfollowed := true, recurses := true, apart := false, narrowed := true }
def SlotLatesUptoSaid : Prop := slotLatesUptoRow.holds Tryz.pinned (OpenSpec.upto slotLatesSpec)

/-- 'castellanlaw21.SlotHolds', WHERE WHAT IT READS IS OF BULK AT MOST 1048576: true; the input reads as it did. -/
def slotHoldsUptoRow : OpenClaim := { program := "ytobmggabgicpgaagreat", sum := "9481a28ba1fb4559f51a0b6bd9050275d6695a878036bfcce59dc18a06036128", func := "castellan/castellanlaw21.SlotHolds", spec := "slotHolds", inPlace := ["maps.clone"], unfollowed := true, recurses := true, apart := false, narrowed := true }
def SlotHoldsUptoSaid : Prop := slotHoldsUptoRow.holds Tryz.pinned (OpenSpec.upto slotHoldsSpec)

end Rows
end Go.Proofs.YtobmggabgicpgaaGreat
