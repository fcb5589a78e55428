/-
  No cell of these rows narrows 'for every input' (looked for: loops, veiled, ifaces, maps, wideKeys, modest, calm, conditions, laid).
  DERIVED. THE GIVEN ROWS OF THIS SEAT. 8 by the template 'for every input the law returns true; each argument reads behind the call as it read before'; 0 by the template 'total and deterministic' (their statements: YtoccmkmnkoldmaaGreatTotals.lean).
  GIVEN WITH THE SEED: the statements are not yours to turn. If you find one false, say at which input.
  Laid BY PROGRAM, IN A SANDBOX (cutbox-rows.mjs): the forced cells as the released guide's own fill.sh prints them over the translation 960752fcd3ef4c81… (all of the seat's roots in one cut). By AI agents, Wed Nov 11 2026. No macro, syntax, notation, axiom, sorry.
-/
import Derived.Test.YtoccmkmnkoldmaaGreatChecked
import GoSem.Claim
import GoSem.ClaimJoined
import GoSem.ClaimMapViews
import Derived.JoinedTies
import Derived.KernelRfl
namespace Go.Proofs.YtoccmkmnkoldmaaGreat
/- THE CELL 'sum', in the pinned program and in every row, IS THE sha256 OF THE DUMP (.gsa) THAT YtoccmkmnkoldmaaGreatProg.lean LOADS. Nothing in Lean hashes anything: it is a label: what it is worth is what the hold of that sum in a sandbox is worth. -/
noncomputable def Tryz.pinned : Pinned := { name := "ytoccmkmnkoldmaagreat", sum := "960752fcd3ef4c81e9d83db65f1d8b7d8d667b63511b5c1b56222ead15f7ab2f", checked := Tryz.checked }
namespace Rows
def none {H : Type} : Left H := { results := [], args := [] }

/-- 'nadirlaw10.BatteryMatchesReference': WHATEVER THE INPUT: true; the input reads as it did. -/
def batteryMatchesReferenceSpec : ChangeSpec := { name := "batteryMatchesReference", fn := fun _ => fun
  | [d1, d2, d3, d4, d5, d6, d7, d8, d9, d10] => { results := [.lit (.bool true)], args := [d1, d2, d3, d4, d5, d6, d7, d8, d9, d10] }
  | _ => none }
def batteryMatchesReferenceRow : OpenClaim := { program := "ytoccmkmnkoldmaagreat", sum := "960752fcd3ef4c81e9d83db65f1d8b7d8d667b63511b5c1b56222ead15f7ab2f", func := "nadir/nadirlaw10.BatteryMatchesReference", spec := "batteryMatchesReference", unfollowed := true, recurses := true, plainKeys := false, apart := false }
def BatteryMatchesReferenceSaid : Prop := batteryMatchesReferenceRow.holds Tryz.pinned (OpenSpec.ofChange batteryMatchesReferenceSpec)

/-- ITS FALSE NEIGHBOUR: 'it returns false'. Refute it at one input. -/
def batteryMatchesReferenceWrong : ChangeSpec := { name := "batteryMatchesReference", fn := fun _ => fun
  | [d1, d2, d3, d4, d5, d6, d7, d8, d9, d10] => { results := [.lit (.bool false)], args := [d1, d2, d3, d4, d5, d6, d7, d8, d9, d10] }
  | _ => none }
def BatteryMatchesReferenceWrongFalsely : Prop := batteryMatchesReferenceRow.holds Tryz.pinned (OpenSpec.ofChange batteryMatchesReferenceWrong)

/-- 'nadirlaw19.TrackMatchesReference': WHATEVER THE INPUT: true; the input reads as it did. -/
def trackMatchesReferenceSpec : ChangeSpec := { name := "trackMatchesReference", fn := fun _ => fun
  | [d1, d2, d3, d4, d5, d6, d7] => { results := [.lit (.bool true)], args := [d1, d2, d3, d4, d5, d6, d7] }
  | _ => none }
def trackMatchesReferenceRow : OpenClaim := { program := "ytoccmkmnkoldmaagreat", sum := "960752fcd3ef4c81e9d83db65f1d8b7d8d667b63511b5c1b56222ead15f7ab2f", func := "nadir/nadirlaw19.TrackMatchesReference", spec := "trackMatchesReference", unfollowed := true, recurses := true, plainKeys := false, apart := false }
def TrackMatchesReferenceSaid : Prop := trackMatchesReferenceRow.holds Tryz.pinned (OpenSpec.ofChange trackMatchesReferenceSpec)

/-- ITS FALSE NEIGHBOUR: 'it returns false'. Refute it at one input. -/
def trackMatchesReferenceWrong : ChangeSpec := { name := "trackMatchesReference", fn := fun _ => fun
  | [d1, d2, d3, d4, d5, d6, d7] => { results := [.lit (.bool false)], args := [d1, d2, d3, d4, d5, d6, d7] }
  | _ => none }
def TrackMatchesReferenceWrongFalsely : Prop := trackMatchesReferenceRow.holds Tryz.pinned (OpenSpec.ofChange trackMatchesReferenceWrong)

/-- 'nadirlaw19.TrackPairs': WHATEVER THE INPUT: true; the input reads as it did. -/
def trackPairsSpec : ChangeSpec := { name := "trackPairs", fn := fun _ => fun
  | [d] => { results := [.lit (.bool true)], args := [d] }
  | _ => none }
def trackPairsRow : OpenClaim := { program := "ytoccmkmnkoldmaagreat", sum := "960752fcd3ef4c81e9d83db65f1d8b7d8d667b63511b5c1b56222ead15f7ab2f", func := "nadir/nadirlaw19.TrackPairs", spec := "trackPairs", unfollowed := true, recurses := true, plainKeys := false, apart := false }
def TrackPairsSaid : Prop := trackPairsRow.holds Tryz.pinned (OpenSpec.ofChange trackPairsSpec)

/-- ITS FALSE NEIGHBOUR: 'it returns false'. Refute it at one input. -/
def trackPairsWrong : ChangeSpec := { name := "trackPairs", fn := fun _ => fun
  | [d] => { results := [.lit (.bool false)], args := [d] }
  | _ => none }
def TrackPairsWrongFalsely : Prop := trackPairsRow.holds Tryz.pinned (OpenSpec.ofChange trackPairsWrong)

/-- 'nadirlaw19.TrackFewer': WHATEVER THE INPUT: true; the input reads as it did. -/
def trackFewerSpec : ChangeSpec := { name := "trackFewer", fn := fun _ => fun
  | [d1, d2] => { results := [.lit (.bool true)], args := [d1, d2] }
  | _ => none }
def trackFewerRow : OpenClaim := { program := "ytoccmkmnkoldmaagreat", sum := "960752fcd3ef4c81e9d83db65f1d8b7d8d667b63511b5c1b56222ead15f7ab2f", func := "nadir/nadirlaw19.TrackFewer", spec := "trackFewer", unfollowed := true, recurses := true, plainKeys := false, apart := false }
def TrackFewerSaid : Prop := trackFewerRow.holds Tryz.pinned (OpenSpec.ofChange trackFewerSpec)

/-- ITS FALSE NEIGHBOUR: 'it returns false'. Refute it at one input. -/
def trackFewerWrong : ChangeSpec := { name := "trackFewer", fn := fun _ => fun
  | [d1, d2] => { results := [.lit (.bool false)], args := [d1, d2] }
  | _ => none }
def TrackFewerWrongFalsely : Prop := trackFewerRow.holds Tryz.pinned (OpenSpec.ofChange trackFewerWrong)

/-- 'nadirlaw19.TrackOrder': WHATEVER THE INPUT: true; the input reads as it did. -/
def trackOrderSpec : ChangeSpec := { name := "trackOrder", fn := fun _ => fun
  | [d1, d2] => { results := [.lit (.bool true)], args := [d1, d2] }
  | _ => none }
def trackOrderRow : OpenClaim := { program := "ytoccmkmnkoldmaagreat", sum := "960752fcd3ef4c81e9d83db65f1d8b7d8d667b63511b5c1b56222ead15f7ab2f", func := "nadir/nadirlaw19.TrackOrder", spec := "trackOrder", unfollowed := true, recurses := true, plainKeys := false, apart := false }
def TrackOrderSaid : Prop := trackOrderRow.holds Tryz.pinned (OpenSpec.ofChange trackOrderSpec)

/-- ITS FALSE NEIGHBOUR: 'it returns false'. Refute it at one input. -/
def trackOrderWrong : ChangeSpec := { name := "trackOrder", fn := fun _ => fun
  | [d1, d2] => { results := [.lit (.bool false)], args := [d1, d2] }
  | _ => none }
def TrackOrderWrongFalsely : Prop := trackOrderRow.holds Tryz.pinned (OpenSpec.ofChange trackOrderWrong)

/-- 'nadirlaw19.TrackLoads': WHATEVER THE INPUT: true; the input reads as it did. -/
def trackLoadsSpec : ChangeSpec := { name := "trackLoads", fn := fun _ => fun
  | [d1, d2] => { results := [.lit (.bool true)], args := [d1, d2] }
  | _ => none }
def trackLoadsRow : OpenClaim := { program := "ytoccmkmnkoldmaagreat", sum := "960752fcd3ef4c81e9d83db65f1d8b7d8d667b63511b5c1b56222ead15f7ab2f", func := "nadir/nadirlaw19.TrackLoads", spec := "trackLoads", unfollowed := true, recurses := true, plainKeys := false, apart := false }
def TrackLoadsSaid : Prop := trackLoadsRow.holds Tryz.pinned (OpenSpec.ofChange trackLoadsSpec)

/-- ITS FALSE NEIGHBOUR: 'it returns false'. Refute it at one input. -/
def trackLoadsWrong : ChangeSpec := { name := "trackLoads", fn := fun _ => fun
  | [d1, d2] => { results := [.lit (.bool false)], args := [d1, d2] }
  | _ => none }
def TrackLoadsWrongFalsely : Prop := trackLoadsRow.holds Tryz.pinned (OpenSpec.ofChange trackLoadsWrong)

/-- 'nadirlaw19.TrackMeans': WHATEVER THE INPUT: true; the input reads as it did. -/
def trackMeansSpec : ChangeSpec := { name := "trackMeans", fn := fun _ => fun
  | [d1, d2, d3] => { results := [.lit (.bool true)], args := [d1, d2, d3] }
  | _ => none }
def trackMeansRow : OpenClaim := { program := "ytoccmkmnkoldmaagreat", sum := "960752fcd3ef4c81e9d83db65f1d8b7d8d667b63511b5c1b56222ead15f7ab2f", func := "nadir/nadirlaw19.TrackMeans", spec := "trackMeans", unfollowed := true, recurses := true, plainKeys := false, apart := false }
def TrackMeansSaid : Prop := trackMeansRow.holds Tryz.pinned (OpenSpec.ofChange trackMeansSpec)

/-- ITS FALSE NEIGHBOUR: 'it returns false'. Refute it at one input. -/
def trackMeansWrong : ChangeSpec := { name := "trackMeans", fn := fun _ => fun
  | [d1, d2, d3] => { results := [.lit (.bool false)], args := [d1, d2, d3] }
  | _ => none }
def TrackMeansWrongFalsely : Prop := trackMeansRow.holds Tryz.pinned (OpenSpec.ofChange trackMeansWrong)

/-- 'nadirlaw19.TrackWhatever': WHATEVER THE INPUT: true; the input reads as it did. -/
def trackWhateverSpec : ChangeSpec := { name := "trackWhatever", fn := fun _ => fun
  | [d1, d2, d3] => { results := [.lit (.bool true)], args := [d1, d2, d3] }
  | _ => none }
def trackWhateverRow : OpenClaim := { program := "ytoccmkmnkoldmaagreat", sum := "960752fcd3ef4c81e9d83db65f1d8b7d8d667b63511b5c1b56222ead15f7ab2f", func := "nadir/nadirlaw19.TrackWhatever", spec := "trackWhatever", unfollowed := true, recurses := true, plainKeys := false, apart := false }
def TrackWhateverSaid : Prop := trackWhateverRow.holds Tryz.pinned (OpenSpec.ofChange trackWhateverSpec)

/-- ITS FALSE NEIGHBOUR: 'it returns false'. Refute it at one input. -/
def trackWhateverWrong : ChangeSpec := { name := "trackWhatever", fn := fun _ => fun
  | [d1, d2, d3] => { results := [.lit (.bool false)], args := [d1, d2, d3] }
  | _ => none }
def TrackWhateverWrongFalsely : Prop := trackWhateverRow.holds Tryz.pinned (OpenSpec.ofChange trackWhateverWrong)

/- THE SECOND FORM. 'bulk': how many values and letters a reading holds, each counted each time it is reached (what is shared counts as often as it is met; a slice's spare places count too). A statement '..UptoSaid' is the law's where the arguments, and the package variables that the reading takes, are together of bulk at most 1048576: NARROWER than '..Said'. Prove '..Said' where nothing that the law and all that it calls make is longer than what came in: it says more and counts as full. Else prove '..UptoSaid'. A law counts once. -/
mutual
def uptoBulk {H : Type} : DataW H → Nat
  | .lit (.string bytes) => bytes.length + 1
  | .lit _ => 1
  | .nil => 1
  | .ptr d => uptoBulk d + 1
  | .slice elems spare => uptoBulkAll elems + uptoBulkAll spare + 1
  | .agg parts => uptoBulkAll parts + 1
  | .iface _ d => uptoBulk d + 1
  | .map entries => uptoBulkEntries entries + 1
  | .held _ => 1
def uptoBulkAll {H : Type} : List (DataW H) → Nat
  | [] => 0
  | d :: r => uptoBulk d + uptoBulkAll r
def uptoBulkEntries {H : Type} : List (Lit × DataW H) → Nat
  | [] => 0
  | x :: r => uptoBulkEntry x + uptoBulkEntries r
def uptoBulkEntry {H : Type} : Lit × DataW H → Nat
  | (.string bytes, d) => bytes.length + uptoBulk d + 1
  | (_, d) => uptoBulk d + 1
 end
def uptoSmall : (H : Type) → List (DataW H) → Bool := fun _ ds => decide (uptoBulkAll ds ≤ 1048576)
def OpenSpec.upto (s : _root_.Go.ChangeSpec) : _root_.Go.OpenSpec := { _root_.Go.OpenSpec.ofChange s with cond := some uptoSmall }

/-- 'nadirlaw10.BatteryMatchesReference', WHERE WHAT IT READS IS OF BULK AT MOST 1048576: true; the input reads as it did. -/
def batteryMatchesReferenceUptoRow : OpenClaim := { program := "ytoccmkmnkoldmaagreat", sum := "960752fcd3ef4c81e9d83db65f1d8b7d8d667b63511b5c1b56222ead15f7ab2f", func := "nadir/nadirlaw10.BatteryMatchesReference", spec := "batteryMatchesReference", unfollowed := true, recurses := true, plainKeys := false, apart := false, narrowed := true }
def BatteryMatchesReferenceUptoSaid : Prop := batteryMatchesReferenceUptoRow.holds Tryz.pinned (OpenSpec.upto batteryMatchesReferenceSpec)

/-- 'nadirlaw19.TrackMatchesReference', WHERE WHAT IT READS IS OF BULK AT MOST 1048576: true; the input reads as it did. -/
def trackMatchesReferenceUptoRow : OpenClaim := { program := "ytoccmkmnkoldmaagreat", sum := "960752fcd3ef4c81e9d83db65f1d8b7d8d667b63511b5c1b56222ead15f7ab2f", func := "nadir/nadirlaw19.TrackMatchesReference", spec := "trackMatchesReference", unfollowed := true, recurses := true, plainKeys := false, apart := false, narrowed := true }
def TrackMatchesReferenceUptoSaid : Prop := trackMatchesReferenceUptoRow.holds Tryz.pinned (OpenSpec.upto trackMatchesReferenceSpec)

/-- 'nadirlaw19.TrackPairs', WHERE WHAT IT READS IS OF BULK AT MOST 1048576: true; the input reads as it did. -/
def trackPairsUptoRow : OpenClaim := { program := "ytoccmkmnkoldmaagreat", sum := "960752fcd3ef4c81e9d83db65f1d8b7d8d667b63511b5c1b56222ead15f7ab2f", func := "nadir/nadirlaw19.TrackPairs", spec := "trackPairs", unfollowed := true, recurses := true, plainKeys := false, apart := false, narrowed := true }
def TrackPairsUptoSaid : Prop := trackPairsUptoRow.holds Tryz.pinned (OpenSpec.upto trackPairsSpec)

/-- 'nadirlaw19.TrackFewer', WHERE WHAT IT READS IS OF BULK AT MOST 1048576: true; the input reads as it did. -/
def trackFewerUptoRow : OpenClaim := { program := "ytoccmkmnkoldmaagreat", sum := "960752fcd3ef4c81e9d83db65f1d8b7d8d667b63511b5c1b56222ead15f7ab2f", func := "nadir/nadirlaw19.TrackFewer", spec := "trackFewer", unfollowed := true, recurses := true, plainKeys := false, apart := false, narrowed := true }
def TrackFewerUptoSaid : Prop := trackFewerUptoRow.holds Tryz.pinned (OpenSpec.upto trackFewerSpec)

/-- 'nadirlaw19.TrackOrder', WHERE WHAT IT READS IS OF BULK AT MOST 1048576: true; the input reads as it did. -/
def trackOrderUptoRow : OpenClaim := { program := "ytoccmkmnkoldmaagreat", sum := "960752fcd3ef4c81e9d83db65f1d8b7d8d667b63511b5c1b56222ead15f7ab2f", func := "nadir/nadirlaw19.TrackOrder", spec := "trackOrder", unfollowed := true, recurses := true, plainKeys := false, apart := false, narrowed := true }
def TrackOrderUptoSaid : Prop := trackOrderUptoRow.holds Tryz.pinned (OpenSpec.upto trackOrderSpec)

/-- 'nadirlaw19.TrackLoads', WHERE WHAT IT READS IS OF BULK AT MOST 1048576: true; the input reads as it did. -/
def trackLoadsUptoRow : OpenClaim := { program := "ytoccmkmnkoldmaagreat", sum := "960752fcd3ef4c81e9d83db65f1d8b7d8d667b63511b5c1b56222ead15f7ab2f", func := "nadir/nadirlaw19.TrackLoads", spec := "trackLoads", unfollowed := true, recurses := true, plainKeys := false, apart := false, narrowed := true }
def TrackLoadsUptoSaid : Prop := trackLoadsUptoRow.holds Tryz.pinned (OpenSpec.upto trackLoadsSpec)

/-- 'nadirlaw19.TrackMeans', WHERE WHAT IT READS IS OF BULK AT MOST 1048576: true; the input reads as it did. -/
def trackMeansUptoRow : OpenClaim := { program := "ytoccmkmnkoldmaagreat", sum := "960752fcd3ef4c81e9d83db65f1d8b7d8d667b63511b5c1b56222ead15f7ab2f", func := "nadir/nadirlaw19.TrackMeans", spec := "trackMeans", unfollowed := true, recurses := true, plainKeys := false, apart := false, narrowed := true }
def TrackMeansUptoSaid : Prop := trackMeansUptoRow.holds Tryz.pinned (OpenSpec.upto trackMeansSpec)

/-- 'nadirlaw19.TrackWhatever', WHERE WHAT IT READS IS OF BULK AT MOST 1048576: true; the input reads as it did. -/
def trackWhateverUptoRow : OpenClaim := { program := "ytoccmkmnkoldmaagreat", sum := "960752fcd3ef4c81e9d83db65f1d8b7d8d667b63511b5c1b56222ead15f7ab2f", func := "nadir/nadirlaw19.TrackWhatever", spec := "trackWhatever", unfollowed := true, recurses := true, plainKeys := false, apart := false, narrowed := true }
def TrackWhateverUptoSaid : Prop := trackWhateverUptoRow.holds Tryz.pinned (OpenSpec.upto trackWhateverSpec)

end Rows
end Go.Proofs.YtoccmkmnkoldmaaGreat
