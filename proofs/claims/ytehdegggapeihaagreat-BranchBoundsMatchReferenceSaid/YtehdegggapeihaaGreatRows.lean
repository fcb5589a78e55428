/-
  No cell of these rows narrows 'for every input' (looked for: loops, veiled, ifaces, maps, wideKeys, modest, calm, conditions, laid).
  DERIVED. THE GIVEN ROWS OF THIS SEAT. 14 by the template 'for every input the law returns true; each argument reads behind the call as it read before'; 0 by the template 'total and deterministic' (their statements: YtehdegggapeihaaGreatTotals.lean).
  GIVEN WITH THE SEED: the statements are not yours to turn. If you find one false, say at which input.
  Laid BY PROGRAM, IN A SANDBOX (cutbox-rows.mjs): the forced cells as the released guide's own fill.sh prints them over the translation 70af25230b53ac1a… (all of the seat's roots in one cut). By AI agents, Wed Nov 11 2026. No macro, syntax, notation, axiom, sorry.
-/
import Derived.Test.YtehdegggapeihaaGreatChecked
import GoSem.Claim
import GoSem.ClaimJoined
import GoSem.ClaimMapViews
import Derived.JoinedTies
import Derived.KernelRfl
namespace Go.Proofs.YtehdegggapeihaaGreat
/- THE CELL 'sum', in the pinned program and in every row, IS THE sha256 OF THE DUMP (.gsa) THAT YtehdegggapeihaaGreatProg.lean LOADS. Nothing in Lean hashes anything: it is a label: what it is worth is what the hold of that sum in a sandbox is worth. -/
noncomputable def Tryz.pinned : Pinned := { name := "ytehdegggapeihaagreat", sum := "70af25230b53ac1a39e6022d468afa49f86a45d44b13a7893f1452db820b59b9", checked := Tryz.checked }
namespace Rows
def none {H : Type} : Left H := { results := [], args := [] }

/-- 'nadirlaw19.TrackMatchesReference': WHATEVER THE INPUT: true; the input reads as it did. -/
def trackMatchesReferenceSpec : ChangeSpec := { name := "trackMatchesReference", fn := fun _ => fun
  | [d1, d2, d3, d4, d5, d6, d7] => { results := [.lit (.bool true)], args := [d1, d2, d3, d4, d5, d6, d7] }
  | _ => none }
def trackMatchesReferenceRow : OpenClaim := { program := "ytehdegggapeihaagreat", sum := "70af25230b53ac1a39e6022d468afa49f86a45d44b13a7893f1452db820b59b9", func := "nadir/nadirlaw19.TrackMatchesReference", spec := "trackMatchesReference", unfollowed := true, recurses := true, plainKeys := false, apart := false }
def TrackMatchesReferenceSaid : Prop := trackMatchesReferenceRow.holds Tryz.pinned (OpenSpec.ofChange trackMatchesReferenceSpec)

/-- ITS FALSE NEIGHBOUR: 'it returns false'. Refute it at one input. -/
def trackMatchesReferenceWrong : ChangeSpec := { name := "trackMatchesReference", fn := fun _ => fun
  | [d1, d2, d3, d4, d5, d6, d7] => { results := [.lit (.bool false)], args := [d1, d2, d3, d4, d5, d6, d7] }
  | _ => none }
def TrackMatchesReferenceWrongFalsely : Prop := trackMatchesReferenceRow.holds Tryz.pinned (OpenSpec.ofChange trackMatchesReferenceWrong)

/-- 'nadirlaw19.TrackPairs': WHATEVER THE INPUT: true; the input reads as it did. -/
def trackPairsSpec : ChangeSpec := { name := "trackPairs", fn := fun _ => fun
  | [d] => { results := [.lit (.bool true)], args := [d] }
  | _ => none }
def trackPairsRow : OpenClaim := { program := "ytehdegggapeihaagreat", sum := "70af25230b53ac1a39e6022d468afa49f86a45d44b13a7893f1452db820b59b9", func := "nadir/nadirlaw19.TrackPairs", spec := "trackPairs", unfollowed := true, recurses := true, plainKeys := false, apart := false }
def TrackPairsSaid : Prop := trackPairsRow.holds Tryz.pinned (OpenSpec.ofChange trackPairsSpec)

/-- ITS FALSE NEIGHBOUR: 'it returns false'. Refute it at one input. -/
def trackPairsWrong : ChangeSpec := { name := "trackPairs", fn := fun _ => fun
  | [d] => { results := [.lit (.bool false)], args := [d] }
  | _ => none }
def TrackPairsWrongFalsely : Prop := trackPairsRow.holds Tryz.pinned (OpenSpec.ofChange trackPairsWrong)

/-- 'nadirlaw19.TrackFewer': WHATEVER THE INPUT: true; the input reads as it did. -/
def trackFewerSpec : ChangeSpec := { name := "trackFewer", fn := fun _ => fun
  | [d1, d2] => { results := [.lit (.bool true)], args := [d1, d2] }
  | _ => none }
def trackFewerRow : OpenClaim := { program := "ytehdegggapeihaagreat", sum := "70af25230b53ac1a39e6022d468afa49f86a45d44b13a7893f1452db820b59b9", func := "nadir/nadirlaw19.TrackFewer", spec := "trackFewer", unfollowed := true, recurses := true, plainKeys := false, apart := false }
def TrackFewerSaid : Prop := trackFewerRow.holds Tryz.pinned (OpenSpec.ofChange trackFewerSpec)

/-- ITS FALSE NEIGHBOUR: 'it returns false'. Refute it at one input. -/
def trackFewerWrong : ChangeSpec := { name := "trackFewer", fn := fun _ => fun
  | [d1, d2] => { results := [.lit (.bool false)], args := [d1, d2] }
  | _ => none }
def TrackFewerWrongFalsely : Prop := trackFewerRow.holds Tryz.pinned (OpenSpec.ofChange trackFewerWrong)

/-- 'nadirlaw19.TrackOrder': WHATEVER THE INPUT: true; the input reads as it did. -/
def trackOrderSpec : ChangeSpec := { name := "trackOrder", fn := fun _ => fun
  | [d1, d2] => { results := [.lit (.bool true)], args := [d1, d2] }
  | _ => none }
def trackOrderRow : OpenClaim := { program := "ytehdegggapeihaagreat", sum := "70af25230b53ac1a39e6022d468afa49f86a45d44b13a7893f1452db820b59b9", func := "nadir/nadirlaw19.TrackOrder", spec := "trackOrder", unfollowed := true, recurses := true, plainKeys := false, apart := false }
def TrackOrderSaid : Prop := trackOrderRow.holds Tryz.pinned (OpenSpec.ofChange trackOrderSpec)

/-- ITS FALSE NEIGHBOUR: 'it returns false'. Refute it at one input. -/
def trackOrderWrong : ChangeSpec := { name := "trackOrder", fn := fun _ => fun
  | [d1, d2] => { results := [.lit (.bool false)], args := [d1, d2] }
  | _ => none }
def TrackOrderWrongFalsely : Prop := trackOrderRow.holds Tryz.pinned (OpenSpec.ofChange trackOrderWrong)

/-- 'nadirlaw19.TrackLoads': WHATEVER THE INPUT: true; the input reads as it did. -/
def trackLoadsSpec : ChangeSpec := { name := "trackLoads", fn := fun _ => fun
  | [d1, d2] => { results := [.lit (.bool true)], args := [d1, d2] }
  | _ => none }
def trackLoadsRow : OpenClaim := { program := "ytehdegggapeihaagreat", sum := "70af25230b53ac1a39e6022d468afa49f86a45d44b13a7893f1452db820b59b9", func := "nadir/nadirlaw19.TrackLoads", spec := "trackLoads", unfollowed := true, recurses := true, plainKeys := false, apart := false }
def TrackLoadsSaid : Prop := trackLoadsRow.holds Tryz.pinned (OpenSpec.ofChange trackLoadsSpec)

/-- ITS FALSE NEIGHBOUR: 'it returns false'. Refute it at one input. -/
def trackLoadsWrong : ChangeSpec := { name := "trackLoads", fn := fun _ => fun
  | [d1, d2] => { results := [.lit (.bool false)], args := [d1, d2] }
  | _ => none }
def TrackLoadsWrongFalsely : Prop := trackLoadsRow.holds Tryz.pinned (OpenSpec.ofChange trackLoadsWrong)

/-- 'nadirlaw19.TrackMeans': WHATEVER THE INPUT: true; the input reads as it did. -/
def trackMeansSpec : ChangeSpec := { name := "trackMeans", fn := fun _ => fun
  | [d1, d2, d3] => { results := [.lit (.bool true)], args := [d1, d2, d3] }
  | _ => none }
def trackMeansRow : OpenClaim := { program := "ytehdegggapeihaagreat", sum := "70af25230b53ac1a39e6022d468afa49f86a45d44b13a7893f1452db820b59b9", func := "nadir/nadirlaw19.TrackMeans", spec := "trackMeans", unfollowed := true, recurses := true, plainKeys := false, apart := false }
def TrackMeansSaid : Prop := trackMeansRow.holds Tryz.pinned (OpenSpec.ofChange trackMeansSpec)

/-- ITS FALSE NEIGHBOUR: 'it returns false'. Refute it at one input. -/
def trackMeansWrong : ChangeSpec := { name := "trackMeans", fn := fun _ => fun
  | [d1, d2, d3] => { results := [.lit (.bool false)], args := [d1, d2, d3] }
  | _ => none }
def TrackMeansWrongFalsely : Prop := trackMeansRow.holds Tryz.pinned (OpenSpec.ofChange trackMeansWrong)

/-- 'nadirlaw19.TrackWhatever': WHATEVER THE INPUT: true; the input reads as it did. -/
def trackWhateverSpec : ChangeSpec := { name := "trackWhatever", fn := fun _ => fun
  | [d1, d2, d3] => { results := [.lit (.bool true)], args := [d1, d2, d3] }
  | _ => none }
def trackWhateverRow : OpenClaim := { program := "ytehdegggapeihaagreat", sum := "70af25230b53ac1a39e6022d468afa49f86a45d44b13a7893f1452db820b59b9", func := "nadir/nadirlaw19.TrackWhatever", spec := "trackWhatever", unfollowed := true, recurses := true, plainKeys := false, apart := false }
def TrackWhateverSaid : Prop := trackWhateverRow.holds Tryz.pinned (OpenSpec.ofChange trackWhateverSpec)

/-- ITS FALSE NEIGHBOUR: 'it returns false'. Refute it at one input. -/
def trackWhateverWrong : ChangeSpec := { name := "trackWhatever", fn := fun _ => fun
  | [d1, d2, d3] => { results := [.lit (.bool false)], args := [d1, d2, d3] }
  | _ => none }
def TrackWhateverWrongFalsely : Prop := trackWhateverRow.holds Tryz.pinned (OpenSpec.ofChange trackWhateverWrong)

/-- 'nadirlaw21.BranchMatchesReference': WHATEVER THE INPUT: true; the input reads as it did. -/
def branchMatchesReferenceSpec : ChangeSpec := { name := "branchMatchesReference", fn := fun _ => fun
  | [d1, d2, d3, d4, d5, d6, d7, d8] => { results := [.lit (.bool true)], args := [d1, d2, d3, d4, d5, d6, d7, d8] }
  | _ => none }
def branchMatchesReferenceRow : OpenClaim := { program := "ytehdegggapeihaagreat", sum := "70af25230b53ac1a39e6022d468afa49f86a45d44b13a7893f1452db820b59b9", func := "nadir/nadirlaw21.BranchMatchesReference", spec := "branchMatchesReference", unfollowed := true, recurses := true, plainKeys := false, apart := false }
def BranchMatchesReferenceSaid : Prop := branchMatchesReferenceRow.holds Tryz.pinned (OpenSpec.ofChange branchMatchesReferenceSpec)

/-- ITS FALSE NEIGHBOUR: 'it returns false'. Refute it at one input. -/
def branchMatchesReferenceWrong : ChangeSpec := { name := "branchMatchesReference", fn := fun _ => fun
  | [d1, d2, d3, d4, d5, d6, d7, d8] => { results := [.lit (.bool false)], args := [d1, d2, d3, d4, d5, d6, d7, d8] }
  | _ => none }
def BranchMatchesReferenceWrongFalsely : Prop := branchMatchesReferenceRow.holds Tryz.pinned (OpenSpec.ofChange branchMatchesReferenceWrong)

/-- 'nadirlaw21.BranchBoundsMatchReference': WHATEVER THE INPUT: true; the input reads as it did. -/
def branchBoundsMatchReferenceSpec : ChangeSpec := { name := "branchBoundsMatchReference", fn := fun _ => fun
  | [d1, d2, d3, d4] => { results := [.lit (.bool true)], args := [d1, d2, d3, d4] }
  | _ => none }
def branchBoundsMatchReferenceRow : OpenClaim := { program := "ytehdegggapeihaagreat", sum := "70af25230b53ac1a39e6022d468afa49f86a45d44b13a7893f1452db820b59b9", func := "nadir/nadirlaw21.BranchBoundsMatchReference", spec := "branchBoundsMatchReference", unfollowed := true, recurses := true, plainKeys := false, apart := false }
def BranchBoundsMatchReferenceSaid : Prop := branchBoundsMatchReferenceRow.holds Tryz.pinned (OpenSpec.ofChange branchBoundsMatchReferenceSpec)

/-- ITS FALSE NEIGHBOUR: 'it returns false'. Refute it at one input. -/
def branchBoundsMatchReferenceWrong : ChangeSpec := { name := "branchBoundsMatchReference", fn := fun _ => fun
  | [d1, d2, d3, d4] => { results := [.lit (.bool false)], args := [d1, d2, d3, d4] }
  | _ => none }
def BranchBoundsMatchReferenceWrongFalsely : Prop := branchBoundsMatchReferenceRow.holds Tryz.pinned (OpenSpec.ofChange branchBoundsMatchReferenceWrong)

/-- 'nadirlaw21.BranchMore': WHATEVER THE INPUT: true; the input reads as it did. -/
def branchMoreSpec : ChangeSpec := { name := "branchMore", fn := fun _ => fun
  | [d1, d2] => { results := [.lit (.bool true)], args := [d1, d2] }
  | _ => none }
def branchMoreRow : OpenClaim := { program := "ytehdegggapeihaagreat", sum := "70af25230b53ac1a39e6022d468afa49f86a45d44b13a7893f1452db820b59b9", func := "nadir/nadirlaw21.BranchMore", spec := "branchMore", unfollowed := true, recurses := true, plainKeys := false, apart := false }
def BranchMoreSaid : Prop := branchMoreRow.holds Tryz.pinned (OpenSpec.ofChange branchMoreSpec)

/-- ITS FALSE NEIGHBOUR: 'it returns false'. Refute it at one input. -/
def branchMoreWrong : ChangeSpec := { name := "branchMore", fn := fun _ => fun
  | [d1, d2] => { results := [.lit (.bool false)], args := [d1, d2] }
  | _ => none }
def BranchMoreWrongFalsely : Prop := branchMoreRow.holds Tryz.pinned (OpenSpec.ofChange branchMoreWrong)

/-- 'nadirlaw21.BranchFewer': WHATEVER THE INPUT: true; the input reads as it did. -/
def branchFewerSpec : ChangeSpec := { name := "branchFewer", fn := fun _ => fun
  | [d1, d2, d3] => { results := [.lit (.bool true)], args := [d1, d2, d3] }
  | _ => none }
def branchFewerRow : OpenClaim := { program := "ytehdegggapeihaagreat", sum := "70af25230b53ac1a39e6022d468afa49f86a45d44b13a7893f1452db820b59b9", func := "nadir/nadirlaw21.BranchFewer", spec := "branchFewer", unfollowed := true, recurses := true, plainKeys := false, apart := false }
def BranchFewerSaid : Prop := branchFewerRow.holds Tryz.pinned (OpenSpec.ofChange branchFewerSpec)

/-- ITS FALSE NEIGHBOUR: 'it returns false'. Refute it at one input. -/
def branchFewerWrong : ChangeSpec := { name := "branchFewer", fn := fun _ => fun
  | [d1, d2, d3] => { results := [.lit (.bool false)], args := [d1, d2, d3] }
  | _ => none }
def BranchFewerWrongFalsely : Prop := branchFewerRow.holds Tryz.pinned (OpenSpec.ofChange branchFewerWrong)

/-- 'nadirlaw21.BranchBounds': WHATEVER THE INPUT: true; the input reads as it did. -/
def branchBoundsSpec : ChangeSpec := { name := "branchBounds", fn := fun _ => fun
  | [d1, d2, d3] => { results := [.lit (.bool true)], args := [d1, d2, d3] }
  | _ => none }
def branchBoundsRow : OpenClaim := { program := "ytehdegggapeihaagreat", sum := "70af25230b53ac1a39e6022d468afa49f86a45d44b13a7893f1452db820b59b9", func := "nadir/nadirlaw21.BranchBounds", spec := "branchBounds", unfollowed := true, recurses := true, plainKeys := false, apart := false }
def BranchBoundsSaid : Prop := branchBoundsRow.holds Tryz.pinned (OpenSpec.ofChange branchBoundsSpec)

/-- ITS FALSE NEIGHBOUR: 'it returns false'. Refute it at one input. -/
def branchBoundsWrong : ChangeSpec := { name := "branchBounds", fn := fun _ => fun
  | [d1, d2, d3] => { results := [.lit (.bool false)], args := [d1, d2, d3] }
  | _ => none }
def BranchBoundsWrongFalsely : Prop := branchBoundsRow.holds Tryz.pinned (OpenSpec.ofChange branchBoundsWrong)

/-- 'nadirlaw21.BranchWorst': WHATEVER THE INPUT: true; the input reads as it did. -/
def branchWorstSpec : ChangeSpec := { name := "branchWorst", fn := fun _ => fun
  | [d1, d2] => { results := [.lit (.bool true)], args := [d1, d2] }
  | _ => none }
def branchWorstRow : OpenClaim := { program := "ytehdegggapeihaagreat", sum := "70af25230b53ac1a39e6022d468afa49f86a45d44b13a7893f1452db820b59b9", func := "nadir/nadirlaw21.BranchWorst", spec := "branchWorst", unfollowed := true, recurses := true, plainKeys := false, apart := false }
def BranchWorstSaid : Prop := branchWorstRow.holds Tryz.pinned (OpenSpec.ofChange branchWorstSpec)

/-- ITS FALSE NEIGHBOUR: 'it returns false'. Refute it at one input. -/
def branchWorstWrong : ChangeSpec := { name := "branchWorst", fn := fun _ => fun
  | [d1, d2] => { results := [.lit (.bool false)], args := [d1, d2] }
  | _ => none }
def BranchWorstWrongFalsely : Prop := branchWorstRow.holds Tryz.pinned (OpenSpec.ofChange branchWorstWrong)

/-- 'nadirlaw21.BranchTree': WHATEVER THE INPUT: true; the input reads as it did. -/
def branchTreeSpec : ChangeSpec := { name := "branchTree", fn := fun _ => fun
  | [d1, d2] => { results := [.lit (.bool true)], args := [d1, d2] }
  | _ => none }
def branchTreeRow : OpenClaim := { program := "ytehdegggapeihaagreat", sum := "70af25230b53ac1a39e6022d468afa49f86a45d44b13a7893f1452db820b59b9", func := "nadir/nadirlaw21.BranchTree", spec := "branchTree", unfollowed := true, recurses := true, plainKeys := false, apart := false }
def BranchTreeSaid : Prop := branchTreeRow.holds Tryz.pinned (OpenSpec.ofChange branchTreeSpec)

/-- ITS FALSE NEIGHBOUR: 'it returns false'. Refute it at one input. -/
def branchTreeWrong : ChangeSpec := { name := "branchTree", fn := fun _ => fun
  | [d1, d2] => { results := [.lit (.bool false)], args := [d1, d2] }
  | _ => none }
def BranchTreeWrongFalsely : Prop := branchTreeRow.holds Tryz.pinned (OpenSpec.ofChange branchTreeWrong)

/- THE SECOND FORM. 'bulk': how many values and letters a reading holds, each counted each time it is reached (what is shared counts as often as it is met; a slice's spare places count too). A statement '..UptoSaid' is the law's where the arguments, and the package variables that the reading takes, are together of bulk at most 1048576: NARROWER than '..Said'. Prove '..Said' where nothing that the law and all that it calls make is longer than what came in: it says more and counts as full. Else prove '..UptoSaid'. A law counts once. -/
mutual
def uptoBulk {H : Type} : DataW H → Nat
  | .lit (.string bytes) => bytes.length + 1
  | .lit _ => 1
  | .nil => 1
  | .ptr d => uptoBulk d + 1
  | .slice elems spare => uptoBulkAll elems + uptoBulkAll spare + 1
  | .agg parts => uptoBulkAll parts + 1
  | .iface _ d => uptoBulk d + 1
  | .map entries => uptoBulkEntries entries + 1
  | .held _ => 1
def uptoBulkAll {H : Type} : List (DataW H) → Nat
  | [] => 0
  | d :: r => uptoBulk d + uptoBulkAll r
def uptoBulkEntries {H : Type} : List (Lit × DataW H) → Nat
  | [] => 0
  | x :: r => uptoBulkEntry x + uptoBulkEntries r
def uptoBulkEntry {H : Type} : Lit × DataW H → Nat
  | (.string bytes, d) => bytes.length + uptoBulk d + 1
  | (_, d) => uptoBulk d + 1
 end
def uptoSmall : (H : Type) → List (DataW H) → Bool := fun _ ds => decide (uptoBulkAll ds ≤ 1048576)
def OpenSpec.upto (s : _root_.Go.ChangeSpec) : _root_.Go.OpenSpec := { _root_.Go.OpenSpec.ofChange s with cond := some uptoSmall }

/-- 'nadirlaw19.TrackMatchesReference', WHERE WHAT IT READS IS OF BULK AT MOST 1048576: true; the input reads as it did. -/
def trackMatchesReferenceUptoRow : OpenClaim := { program := "ytehdegggapeihaagreat", sum := "70af25230b53ac1a39e6022d468afa49f86a45d44b13a7893f1452db820b59b9", func := "nadir/nadirlaw19.TrackMatchesReference", spec := "trackMatchesReference", unfollowed := true, recurses := true, plainKeys := false, apart := false, narrowed := true }
def TrackMatchesReferenceUptoSaid : Prop := trackMatchesReferenceUptoRow.holds Tryz.pinned (OpenSpec.upto trackMatchesReferenceSpec)

/-- 'nadirlaw19.TrackPairs', WHERE WHAT IT READS IS OF BULK AT MOST 1048576: true; the input reads as it did. -/
def trackPairsUptoRow : OpenClaim := { program := "ytehdegggapeihaagreat", sum := "70af25230b53ac1a39e6022d468afa49f86a45d44b13a7893f1452db820b59b9", func := "nadir/nadirlaw19.TrackPairs", spec := "trackPairs", unfollowed := true, recurses := true, plainKeys := false, apart := false, narrowed := true }
def TrackPairsUptoSaid : Prop := trackPairsUptoRow.holds Tryz.pinned (OpenSpec.upto trackPairsSpec)

/-- 'nadirlaw19.TrackFewer', WHERE WHAT IT READS IS OF BULK AT MOST 1048576: true; the input reads as it did. -/
def trackFewerUptoRow : OpenClaim := { program := "ytehdegggapeihaagreat", sum := "70af25230b53ac1a39e6022d468afa49f86a45d44b13a7893f1452db820b59b9", func := "nadir/nadirlaw19.TrackFewer", spec := "trackFewer", unfollowed := true, recurses := true, plainKeys := false, apart := false, narrowed := true }
def TrackFewerUptoSaid : Prop := trackFewerUptoRow.holds Tryz.pinned (OpenSpec.upto trackFewerSpec)

/-- 'nadirlaw19.TrackOrder', WHERE WHAT IT READS IS OF BULK AT MOST 1048576: true; the input reads as it did. -/
def trackOrderUptoRow : OpenClaim := { program := "ytehdegggapeihaagreat", sum := "70af25230b53ac1a39e6022d468afa49f86a45d44b13a7893f1452db820b59b9", func := "nadir/nadirlaw19.TrackOrder", spec := "trackOrder", unfollowed := true, recurses := true, plainKeys := false, apart := false, narrowed := true }
def TrackOrderUptoSaid : Prop := trackOrderUptoRow.holds Tryz.pinned (OpenSpec.upto trackOrderSpec)

/-- 'nadirlaw19.TrackLoads', WHERE WHAT IT READS IS OF BULK AT MOST 1048576: true; the input reads as it did. -/
def trackLoadsUptoRow : OpenClaim := { program := "ytehdegggapeihaagreat", sum := "70af25230b53ac1a39e6022d468afa49f86a45d44b13a7893f1452db820b59b9", func := "nadir/nadirlaw19.TrackLoads", spec := "trackLoads", unfollowed := true, recurses := true, plainKeys := false, apart := false, narrowed := true }
def TrackLoadsUptoSaid : Prop := trackLoadsUptoRow.holds Tryz.pinned (OpenSpec.upto trackLoadsSpec)

/-- 'nadirlaw19.TrackMeans', WHERE WHAT IT READS IS OF BULK AT MOST 1048576: true; the input reads as it did. -/
def trackMeansUptoRow : OpenClaim := { program := "ytehdegggapeihaagreat", sum := "70af25230b53ac1a39e6022d468afa49f86a45d44b13a7893f1452db820b59b9", func := "nadir/nadirlaw19.TrackMeans", spec := "trackMeans", unfollowed := true, recurses := true, plainKeys := false, apart := false, narrowed := true }
def TrackMeansUptoSaid : Prop := trackMeansUptoRow.holds Tryz.pinned (OpenSpec.upto trackMeansSpec)

/-- 'nadirlaw19.TrackWhatever', WHERE WHAT IT READS IS OF BULK AT MOST 1048576: true; the input reads as it did. -/
def trackWhateverUptoRow : OpenClaim := { program := "ytehdegggapeihaagreat", sum := "70af25230b53ac1a39e6022d468afa49f86a45d44b13a7893f1452db820b59b9", func := "nadir/nadirlaw19.TrackWhatever", spec := "trackWhatever", unfollowed := true, recurses := true, plainKeys := false, apart := false, narrowed := true }
def TrackWhateverUptoSaid : Prop := trackWhateverUptoRow.holds Tryz.pinned (OpenSpec.upto trackWhateverSpec)

/-- 'nadirlaw21.BranchMatchesReference', WHERE WHAT IT READS IS OF BULK AT MOST 1048576: true; the input reads as it did. -/
def branchMatchesReferenceUptoRow : OpenClaim := { program := "ytehdegggapeihaagreat", sum := "70af25230b53ac1a39e6022d468afa49f86a45d44b13a7893f1452db820b59b9", func := "nadir/nadirlaw21.BranchMatchesReference", spec := "branchMatchesReference", unfollowed := true, recurses := true, plainKeys := false, apart := false, narrowed := true }
def BranchMatchesReferenceUptoSaid : Prop := branchMatchesReferenceUptoRow.holds Tryz.pinned (OpenSpec.upto branchMatchesReferenceSpec)

/-- 'nadirlaw21.BranchBoundsMatchReference', WHERE WHAT IT READS IS OF BULK AT MOST 1048576: true; the input reads as it did. -/
def branchBoundsMatchReferenceUptoRow : OpenClaim := { program := "ytehdegggapeihaagreat", sum := "70af25230b53ac1a39e6022d468afa49f86a45d44b13a7893f1452db820b59b9", func := "nadir/nadirlaw21.BranchBoundsMatchReference", spec := "branchBoundsMatchReference", unfollowed := true, recurses := true, plainKeys := false, apart := false, narrowed := true }
def BranchBoundsMatchReferenceUptoSaid : Prop := branchBoundsMatchReferenceUptoRow.holds Tryz.pinned (OpenSpec.upto branchBoundsMatchReferenceSpec)

/-- 'nadirlaw21.BranchMore', WHERE WHAT IT READS IS OF BULK AT MOST 1048576: true; the input reads as it did. -/
def branchMoreUptoRow : OpenClaim := { program := "ytehdegggapeihaagreat", sum := "70af25230b53ac1a39e6022d468afa49f86a45d44b13a7893f1452db820b59b9", func := "nadir/nadirlaw21.BranchMore", spec := "branchMore", unfollowed := true, recurses := true, plainKeys := false, apart := false, narrowed := true }
def BranchMoreUptoSaid : Prop := branchMoreUptoRow.holds Tryz.pinned (OpenSpec.upto branchMoreSpec)

/-- 'nadirlaw21.BranchFewer', WHERE WHAT IT READS IS OF BULK AT MOST 1048576: true; the input reads as it did. -/
def branchFewerUptoRow : OpenClaim := { program := "ytehdegggapeihaagreat", sum := "70af25230b53ac1a39e6022d468afa49f86a45d44b13a7893f1452db820b59b9", func := "nadir/nadirlaw21.BranchFewer", spec := "branchFewer", unfollowed := true, recurses := true, plainKeys := false, apart := false, narrowed := true }
def BranchFewerUptoSaid : Prop := branchFewerUptoRow.holds Tryz.pinned (OpenSpec.upto branchFewerSpec)

/-- 'nadirlaw21.BranchBounds', WHERE WHAT IT READS IS OF BULK AT MOST 1048576: true; the input reads as it did. -/
def branchBoundsUptoRow : OpenClaim := { program := "ytehdegggapeihaagreat", sum := "70af25230b53ac1a39e6022d468afa49f86a45d44b13a7893f1452db820b59b9", func := "nadir/nadirlaw21.BranchBounds", spec := "branchBounds", unfollowed := true, recurses := true, plainKeys := false, apart := false, narrowed := true }
def BranchBoundsUptoSaid : Prop := branchBoundsUptoRow.holds Tryz.pinned (OpenSpec.upto branchBoundsSpec)

/-- 'nadirlaw21.BranchWorst', WHERE WHAT IT READS IS OF BULK AT MOST 1048576: true; the input reads as it did. -/
def branchWorstUptoRow : OpenClaim := { program := "ytehdegggapeihaagreat", sum := "70af25230b53ac1a39e6022d468afa49f86a45d44b13a7893f1452db820b59b9", func := "nadir/nadirlaw21.BranchWorst", spec := "branchWorst", unfollowed := true, recurses := true, plainKeys := false, apart := false, narrowed := true }
def BranchWorstUptoSaid : Prop := branchWorstUptoRow.holds Tryz.pinned (OpenSpec.upto branchWorstSpec)

/-- 'nadirlaw21.BranchTree', WHERE WHAT IT READS IS OF BULK AT MOST 1048576: true; the input reads as it did. -/
def branchTreeUptoRow : OpenClaim := { program := "ytehdegggapeihaagreat", sum := "70af25230b53ac1a39e6022d468afa49f86a45d44b13a7893f1452db820b59b9", func := "nadir/nadirlaw21.BranchTree", spec := "branchTree", unfollowed := true, recurses := true, plainKeys := false, apart := false, narrowed := true }
def BranchTreeUptoSaid : Prop := branchTreeUptoRow.holds Tryz.pinned (OpenSpec.upto branchTreeSpec)

end Rows
end Go.Proofs.YtehdegggapeihaaGreat
