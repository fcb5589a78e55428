/-
  No cell of these rows narrows 'for every input' (looked for: loops, veiled, ifaces, maps, wideKeys, modest, calm, conditions, laid).
  DERIVED. THE GIVEN ROWS OF THIS SEAT. 8 by the template 'for every input the law returns true; each argument reads behind the call as it read before'; 0 by the template 'total and deterministic' (their statements: YtjeopncbnlfplaaTotals.lean).
  GIVEN WITH THE SEED: the statements are not yours to turn. If you find one false, say at which input.
  Laid BY PROGRAM, IN A SANDBOX (cutbox-rows.mjs): the forced cells as the released guide's own fill.sh prints them over the translation 533fec2484934ec4… (all of the seat's roots in one cut). By AI agents, Wed Nov 11 2026. No macro, syntax, notation, axiom, sorry.
-/
import Derived.Test.YtjeopncbnlfplaaChecked
import GoSem.Claim
import GoSem.ClaimJoined
import GoSem.ClaimMapViews
import Derived.JoinedTies
import Derived.KernelRfl
namespace Go.Proofs.Ytjeopncbnlfplaa
/- THE CELL 'sum', in the pinned program and in every row, IS THE sha256 OF THE DUMP (.gsa) THAT YtjeopncbnlfplaaProg.lean LOADS. Nothing in Lean hashes anything: it is a label: what it is worth is what the hold of that sum in a sandbox is worth. -/
noncomputable def Try.pinned : Pinned := { name := "ytjeopncbnlfplaa", sum := "533fec2484934ec40933a3ba78bacefc6b92389fde88590f29a5f3146bde58a3", checked := Try.checked }
namespace Rows
def none {H : Type} : Left H := { results := [], args := [] }

/-- 'nadirlaw12.PointingMatchesReference': WHATEVER THE INPUT: true; the input reads as it did. -/
def pointingMatchesReferenceSpec : ChangeSpec := { name := "pointingMatchesReference", fn := fun _ => fun
  | [d1, d2, d3, d4, d5, d6, d7] => { results := [.lit (.bool true)], args := [d1, d2, d3, d4, d5, d6, d7] }
  | _ => none }
def pointingMatchesReferenceRow : OpenClaim := { program := "ytjeopncbnlfplaa", sum := "533fec2484934ec40933a3ba78bacefc6b92389fde88590f29a5f3146bde58a3", func := "nadir/nadirlaw12.PointingMatchesReference", spec := "pointingMatchesReference", unfollowed := true, recurses := true, apart := false }
def PointingMatchesReferenceSaid : Prop := pointingMatchesReferenceRow.holds Try.pinned (OpenSpec.ofChange pointingMatchesReferenceSpec)

/-- ITS FALSE NEIGHBOUR: 'it returns false'. Refute it at one input. -/
def pointingMatchesReferenceWrong : ChangeSpec := { name := "pointingMatchesReference", fn := fun _ => fun
  | [d1, d2, d3, d4, d5, d6, d7] => { results := [.lit (.bool false)], args := [d1, d2, d3, d4, d5, d6, d7] }
  | _ => none }
def PointingMatchesReferenceWrongFalsely : Prop := pointingMatchesReferenceRow.holds Try.pinned (OpenSpec.ofChange pointingMatchesReferenceWrong)

/-- 'nadirlaw12.PointingWindows': WHATEVER THE INPUT: true; the input reads as it did. -/
def pointingWindowsSpec : ChangeSpec := { name := "pointingWindows", fn := fun _ => fun
  | [d1, d2] => { results := [.lit (.bool true)], args := [d1, d2] }
  | _ => none }
def pointingWindowsRow : OpenClaim := { program := "ytjeopncbnlfplaa", sum := "533fec2484934ec40933a3ba78bacefc6b92389fde88590f29a5f3146bde58a3", func := "nadir/nadirlaw12.PointingWindows", spec := "pointingWindows", unfollowed := true, recurses := true, apart := false }
def PointingWindowsSaid : Prop := pointingWindowsRow.holds Try.pinned (OpenSpec.ofChange pointingWindowsSpec)

/-- ITS FALSE NEIGHBOUR: 'it returns false'. Refute it at one input. -/
def pointingWindowsWrong : ChangeSpec := { name := "pointingWindows", fn := fun _ => fun
  | [d1, d2] => { results := [.lit (.bool false)], args := [d1, d2] }
  | _ => none }
def PointingWindowsWrongFalsely : Prop := pointingWindowsRow.holds Try.pinned (OpenSpec.ofChange pointingWindowsWrong)

/-- 'nadirlaw12.PointingWorst': WHATEVER THE INPUT: true; the input reads as it did. -/
def pointingWorstSpec : ChangeSpec := { name := "pointingWorst", fn := fun _ => fun
  | [d1, d2, d3] => { results := [.lit (.bool true)], args := [d1, d2, d3] }
  | _ => none }
def pointingWorstRow : OpenClaim := { program := "ytjeopncbnlfplaa", sum := "533fec2484934ec40933a3ba78bacefc6b92389fde88590f29a5f3146bde58a3", func := "nadir/nadirlaw12.PointingWorst", spec := "pointingWorst", unfollowed := true, recurses := true, apart := false }
def PointingWorstSaid : Prop := pointingWorstRow.holds Try.pinned (OpenSpec.ofChange pointingWorstSpec)

/-- ITS FALSE NEIGHBOUR: 'it returns false'. Refute it at one input. -/
def pointingWorstWrong : ChangeSpec := { name := "pointingWorst", fn := fun _ => fun
  | [d1, d2, d3] => { results := [.lit (.bool false)], args := [d1, d2, d3] }
  | _ => none }
def PointingWorstWrongFalsely : Prop := pointingWorstRow.holds Try.pinned (OpenSpec.ofChange pointingWorstWrong)

/-- 'nadirlaw12.PointingPairs': WHATEVER THE INPUT: true; the input reads as it did. -/
def pointingPairsSpec : ChangeSpec := { name := "pointingPairs", fn := fun _ => fun
  | [d] => { results := [.lit (.bool true)], args := [d] }
  | _ => none }
def pointingPairsRow : OpenClaim := { program := "ytjeopncbnlfplaa", sum := "533fec2484934ec40933a3ba78bacefc6b92389fde88590f29a5f3146bde58a3", func := "nadir/nadirlaw12.PointingPairs", spec := "pointingPairs", unfollowed := true, recurses := true, apart := false }
def PointingPairsSaid : Prop := pointingPairsRow.holds Try.pinned (OpenSpec.ofChange pointingPairsSpec)

/-- ITS FALSE NEIGHBOUR: 'it returns false'. Refute it at one input. -/
def pointingPairsWrong : ChangeSpec := { name := "pointingPairs", fn := fun _ => fun
  | [d] => { results := [.lit (.bool false)], args := [d] }
  | _ => none }
def PointingPairsWrongFalsely : Prop := pointingPairsRow.holds Try.pinned (OpenSpec.ofChange pointingPairsWrong)

/-- 'nadirlaw12.PointingFewer': WHATEVER THE INPUT: true; the input reads as it did. -/
def pointingFewerSpec : ChangeSpec := { name := "pointingFewer", fn := fun _ => fun
  | [d1, d2, d3, d4] => { results := [.lit (.bool true)], args := [d1, d2, d3, d4] }
  | _ => none }
def pointingFewerRow : OpenClaim := { program := "ytjeopncbnlfplaa", sum := "533fec2484934ec40933a3ba78bacefc6b92389fde88590f29a5f3146bde58a3", func := "nadir/nadirlaw12.PointingFewer", spec := "pointingFewer", unfollowed := true, recurses := true, apart := false }
def PointingFewerSaid : Prop := pointingFewerRow.holds Try.pinned (OpenSpec.ofChange pointingFewerSpec)

/-- ITS FALSE NEIGHBOUR: 'it returns false'. Refute it at one input. -/
def pointingFewerWrong : ChangeSpec := { name := "pointingFewer", fn := fun _ => fun
  | [d1, d2, d3, d4] => { results := [.lit (.bool false)], args := [d1, d2, d3, d4] }
  | _ => none }
def PointingFewerWrongFalsely : Prop := pointingFewerRow.holds Try.pinned (OpenSpec.ofChange pointingFewerWrong)

/-- 'nadirlaw12.PointingFree': WHATEVER THE INPUT: true; the input reads as it did. -/
def pointingFreeSpec : ChangeSpec := { name := "pointingFree", fn := fun _ => fun
  | [d1, d2, d3, d4] => { results := [.lit (.bool true)], args := [d1, d2, d3, d4] }
  | _ => none }
def pointingFreeRow : OpenClaim := { program := "ytjeopncbnlfplaa", sum := "533fec2484934ec40933a3ba78bacefc6b92389fde88590f29a5f3146bde58a3", func := "nadir/nadirlaw12.PointingFree", spec := "pointingFree", unfollowed := true, recurses := true, apart := false }
def PointingFreeSaid : Prop := pointingFreeRow.holds Try.pinned (OpenSpec.ofChange pointingFreeSpec)

/-- ITS FALSE NEIGHBOUR: 'it returns false'. Refute it at one input. -/
def pointingFreeWrong : ChangeSpec := { name := "pointingFree", fn := fun _ => fun
  | [d1, d2, d3, d4] => { results := [.lit (.bool false)], args := [d1, d2, d3, d4] }
  | _ => none }
def PointingFreeWrongFalsely : Prop := pointingFreeRow.holds Try.pinned (OpenSpec.ofChange pointingFreeWrong)

/-- 'nadirlaw12.PointingOrder': WHATEVER THE INPUT: true; the input reads as it did. -/
def pointingOrderSpec : ChangeSpec := { name := "pointingOrder", fn := fun _ => fun
  | [d1, d2, d3, d4] => { results := [.lit (.bool true)], args := [d1, d2, d3, d4] }
  | _ => none }
def pointingOrderRow : OpenClaim := { program := "ytjeopncbnlfplaa", sum := "533fec2484934ec40933a3ba78bacefc6b92389fde88590f29a5f3146bde58a3", func := "nadir/nadirlaw12.PointingOrder", spec := "pointingOrder", unfollowed := true, recurses := true, apart := false }
def PointingOrderSaid : Prop := pointingOrderRow.holds Try.pinned (OpenSpec.ofChange pointingOrderSpec)

/-- ITS FALSE NEIGHBOUR: 'it returns false'. Refute it at one input. -/
def pointingOrderWrong : ChangeSpec := { name := "pointingOrder", fn := fun _ => fun
  | [d1, d2, d3, d4] => { results := [.lit (.bool false)], args := [d1, d2, d3, d4] }
  | _ => none }
def PointingOrderWrongFalsely : Prop := pointingOrderRow.holds Try.pinned (OpenSpec.ofChange pointingOrderWrong)

/-- 'nadirlaw12.PointingParts': WHATEVER THE INPUT: true; the input reads as it did. -/
def pointingPartsSpec : ChangeSpec := { name := "pointingParts", fn := fun _ => fun
  | [d1, d2, d3] => { results := [.lit (.bool true)], args := [d1, d2, d3] }
  | _ => none }
def pointingPartsRow : OpenClaim := { program := "ytjeopncbnlfplaa", sum := "533fec2484934ec40933a3ba78bacefc6b92389fde88590f29a5f3146bde58a3", func := "nadir/nadirlaw12.PointingParts", spec := "pointingParts", unfollowed := true, recurses := true, apart := false }
def PointingPartsSaid : Prop := pointingPartsRow.holds Try.pinned (OpenSpec.ofChange pointingPartsSpec)

/-- ITS FALSE NEIGHBOUR: 'it returns false'. Refute it at one input. -/
def pointingPartsWrong : ChangeSpec := { name := "pointingParts", fn := fun _ => fun
  | [d1, d2, d3] => { results := [.lit (.bool false)], args := [d1, d2, d3] }
  | _ => none }
def PointingPartsWrongFalsely : Prop := pointingPartsRow.holds Try.pinned (OpenSpec.ofChange pointingPartsWrong)

/- THE SECOND FORM. 'bulk': how many values and letters a reading holds, each counted each time it is reached (what is shared counts as often as it is met; a slice's spare places count too). A statement '..UptoSaid' is the law's where the arguments, and the package variables that the reading takes, are together of bulk at most 1048576: NARROWER than '..Said'. Prove '..Said' where nothing that the law and all that it calls make is longer than what came in: it says more and counts as full. Else prove '..UptoSaid'. A law counts once. -/
mutual
def uptoBulk {H : Type} : DataW H → Nat
  | .lit (.string bytes) => bytes.length + 1
  | .lit _ => 1
  | .nil => 1
  | .ptr d => uptoBulk d + 1
  | .slice elems spare => uptoBulkAll elems + uptoBulkAll spare + 1
  | .agg parts => uptoBulkAll parts + 1
  | .iface _ d => uptoBulk d + 1
  | .map entries => uptoBulkEntries entries + 1
  | .held _ => 1
def uptoBulkAll {H : Type} : List (DataW H) → Nat
  | [] => 0
  | d :: r => uptoBulk d + uptoBulkAll r
def uptoBulkEntries {H : Type} : List (Lit × DataW H) → Nat
  | [] => 0
  | x :: r => uptoBulkEntry x + uptoBulkEntries r
def uptoBulkEntry {H : Type} : Lit × DataW H → Nat
  | (.string bytes, d) => bytes.length + uptoBulk d + 1
  | (_, d) => uptoBulk d + 1
 end
def uptoSmall : (H : Type) → List (DataW H) → Bool := fun _ ds => decide (uptoBulkAll ds ≤ 1048576)
def OpenSpec.upto (s : _root_.Go.ChangeSpec) : _root_.Go.OpenSpec := { _root_.Go.OpenSpec.ofChange s with cond := some uptoSmall }

/-- 'nadirlaw12.PointingMatchesReference', WHERE WHAT IT READS IS OF BULK AT MOST 1048576: true; the input reads as it did. -/
def pointingMatchesReferenceUptoRow : OpenClaim := { program := "ytjeopncbnlfplaa", sum := "533fec2484934ec40933a3ba78bacefc6b92389fde88590f29a5f3146bde58a3", func := "nadir/nadirlaw12.PointingMatchesReference", spec := "pointingMatchesReference", unfollowed := true, recurses := true, apart := false, narrowed := true }
def PointingMatchesReferenceUptoSaid : Prop := pointingMatchesReferenceUptoRow.holds Try.pinned (OpenSpec.upto pointingMatchesReferenceSpec)

/-- 'nadirlaw12.PointingWindows', WHERE WHAT IT READS IS OF BULK AT MOST 1048576: true; the input reads as it did. -/
def pointingWindowsUptoRow : OpenClaim := { program := "ytjeopncbnlfplaa", sum := "533fec2484934ec40933a3ba78bacefc6b92389fde88590f29a5f3146bde58a3", func := "nadir/nadirlaw12.PointingWindows", spec := "pointingWindows", unfollowed := true, recurses := true, apart := false, narrowed := true }
def PointingWindowsUptoSaid : Prop := pointingWindowsUptoRow.holds Try.pinned (OpenSpec.upto pointingWindowsSpec)

/-- 'nadirlaw12.PointingWorst', WHERE WHAT IT READS IS OF BULK AT MOST 1048576: true; the input reads as it did. -/
def pointingWorstUptoRow : OpenClaim := { program := "ytjeopncbnlfplaa", sum := "533fec2484934ec40933a3ba78bacefc6b92389fde88590f29a5f3146bde58a3", func := "nadir/nadirlaw12.PointingWorst", spec := "pointingWorst", unfollowed := true, recurses := true, apart := false, narrowed := true }
def PointingWorstUptoSaid : Prop := pointingWorstUptoRow.holds Try.pinned (OpenSpec.upto pointingWorstSpec)

/-- 'nadirlaw12.PointingPairs', WHERE WHAT IT READS IS OF BULK AT MOST 1048576: true; the input reads as it did. -/
def pointingPairsUptoRow : OpenClaim := { program := "ytjeopncbnlfplaa", sum := "533fec2484934ec40933a3ba78bacefc6b92389fde88590f29a5f3146bde58a3", func := "nadir/nadirlaw12.PointingPairs", spec := "pointingPairs", unfollowed := true, recurses := true, apart := false, narrowed := true }
def PointingPairsUptoSaid : Prop := pointingPairsUptoRow.holds Try.pinned (OpenSpec.upto pointingPairsSpec)

/-- 'nadirlaw12.PointingFewer', WHERE WHAT IT READS IS OF BULK AT MOST 1048576: true; the input reads as it did. -/
def pointingFewerUptoRow : OpenClaim := { program := "ytjeopncbnlfplaa", sum := "533fec2484934ec40933a3ba78bacefc6b92389fde88590f29a5f3146bde58a3", func := "nadir/nadirlaw12.PointingFewer", spec := "pointingFewer", unfollowed := true, recurses := true, apart := false, narrowed := true }
def PointingFewerUptoSaid : Prop := pointingFewerUptoRow.holds Try.pinned (OpenSpec.upto pointingFewerSpec)

/-- 'nadirlaw12.PointingFree', WHERE WHAT IT READS IS OF BULK AT MOST 1048576: true; the input reads as it did. -/
def pointingFreeUptoRow : OpenClaim := { program := "ytjeopncbnlfplaa", sum := "533fec2484934ec40933a3ba78bacefc6b92389fde88590f29a5f3146bde58a3", func := "nadir/nadirlaw12.PointingFree", spec := "pointingFree", unfollowed := true, recurses := true, apart := false, narrowed := true }
def PointingFreeUptoSaid : Prop := pointingFreeUptoRow.holds Try.pinned (OpenSpec.upto pointingFreeSpec)

/-- 'nadirlaw12.PointingOrder', WHERE WHAT IT READS IS OF BULK AT MOST 1048576: true; the input reads as it did. -/
def pointingOrderUptoRow : OpenClaim := { program := "ytjeopncbnlfplaa", sum := "533fec2484934ec40933a3ba78bacefc6b92389fde88590f29a5f3146bde58a3", func := "nadir/nadirlaw12.PointingOrder", spec := "pointingOrder", unfollowed := true, recurses := true, apart := false, narrowed := true }
def PointingOrderUptoSaid : Prop := pointingOrderUptoRow.holds Try.pinned (OpenSpec.upto pointingOrderSpec)

/-- 'nadirlaw12.PointingParts', WHERE WHAT IT READS IS OF BULK AT MOST 1048576: true; the input reads as it did. -/
def pointingPartsUptoRow : OpenClaim := { program := "ytjeopncbnlfplaa", sum := "533fec2484934ec40933a3ba78bacefc6b92389fde88590f29a5f3146bde58a3", func := "nadir/nadirlaw12.PointingParts", spec := "pointingParts", unfollowed := true, recurses := true, apart := false, narrowed := true }
def PointingPartsUptoSaid : Prop := pointingPartsUptoRow.holds Try.pinned (OpenSpec.upto pointingPartsSpec)

end Rows
end Go.Proofs.Ytjeopncbnlfplaa
