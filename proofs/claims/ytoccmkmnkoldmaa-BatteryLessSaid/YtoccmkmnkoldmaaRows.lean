/-
  No cell of these rows narrows 'for every input' (looked for: loops, veiled, ifaces, maps, wideKeys, modest, calm, conditions, laid).
  DERIVED. THE GIVEN ROWS OF THIS SEAT. 12 by the template 'for every input the law returns true; each argument reads behind the call as it read before'; 0 by the template 'total and deterministic' (their statements: YtoccmkmnkoldmaaTotals.lean).
  GIVEN WITH THE SEED: the statements are not yours to turn. If you find one false, say at which input.
  Laid BY PROGRAM, IN A SANDBOX (cutbox-rows.mjs): the forced cells as the released guide's own fill.sh prints them over the translation d33ccc28b5bcb1aa… (all of the seat's roots in one cut). By AI agents, Wed Nov 11 2026. No macro, syntax, notation, axiom, sorry.
-/
import Derived.Test.YtoccmkmnkoldmaaChecked
import GoSem.Claim
import GoSem.ClaimJoined
import GoSem.ClaimMapViews
import Derived.JoinedTies
import Derived.KernelRfl
namespace Go.Proofs.Ytoccmkmnkoldmaa
/- THE CELL 'sum', in the pinned program and in every row, IS THE sha256 OF THE DUMP (.gsa) THAT YtoccmkmnkoldmaaProg.lean LOADS. Nothing in Lean hashes anything: it is a label: what it is worth is what the hold of that sum in a sandbox is worth. -/
noncomputable def Try.pinned : Pinned := { name := "ytoccmkmnkoldmaa", sum := "d33ccc28b5bcb1aaf42044833de3a666cbe4051d30bd1ac08f5ec0bb4b6d4893", checked := Try.checked }
namespace Rows
def none {H : Type} : Left H := { results := [], args := [] }

/-- 'nadirlaw07.OrbitMatchesReference': WHATEVER THE INPUT: true; the input reads as it did. -/
def orbitMatchesReferenceSpec : ChangeSpec := { name := "orbitMatchesReference", fn := fun _ => fun
  | [d1, d2, d3, d4, d5, d6] => { results := [.lit (.bool true)], args := [d1, d2, d3, d4, d5, d6] }
  | _ => none }
def orbitMatchesReferenceRow : OpenClaim := { program := "ytoccmkmnkoldmaa", sum := "d33ccc28b5bcb1aaf42044833de3a666cbe4051d30bd1ac08f5ec0bb4b6d4893", func := "nadir/nadirlaw07.OrbitMatchesReference", spec := "orbitMatchesReference", unfollowed := true, recurses := true, plainKeys := false, apart := false }
def OrbitMatchesReferenceSaid : Prop := orbitMatchesReferenceRow.holds Try.pinned (OpenSpec.ofChange orbitMatchesReferenceSpec)

/-- ITS FALSE NEIGHBOUR: 'it returns false'. Refute it at one input. -/
def orbitMatchesReferenceWrong : ChangeSpec := { name := "orbitMatchesReference", fn := fun _ => fun
  | [d1, d2, d3, d4, d5, d6] => { results := [.lit (.bool false)], args := [d1, d2, d3, d4, d5, d6] }
  | _ => none }
def OrbitMatchesReferenceWrongFalsely : Prop := orbitMatchesReferenceRow.holds Try.pinned (OpenSpec.ofChange orbitMatchesReferenceWrong)

/-- 'nadirlaw07.OrbitDelays': WHATEVER THE INPUT: true; the input reads as it did. -/
def orbitDelaysSpec : ChangeSpec := { name := "orbitDelays", fn := fun _ => fun
  | [d1, d2, d3] => { results := [.lit (.bool true)], args := [d1, d2, d3] }
  | _ => none }
def orbitDelaysRow : OpenClaim := { program := "ytoccmkmnkoldmaa", sum := "d33ccc28b5bcb1aaf42044833de3a666cbe4051d30bd1ac08f5ec0bb4b6d4893", func := "nadir/nadirlaw07.OrbitDelays", spec := "orbitDelays", unfollowed := true, recurses := true, plainKeys := false, apart := false }
def OrbitDelaysSaid : Prop := orbitDelaysRow.holds Try.pinned (OpenSpec.ofChange orbitDelaysSpec)

/-- ITS FALSE NEIGHBOUR: 'it returns false'. Refute it at one input. -/
def orbitDelaysWrong : ChangeSpec := { name := "orbitDelays", fn := fun _ => fun
  | [d1, d2, d3] => { results := [.lit (.bool false)], args := [d1, d2, d3] }
  | _ => none }
def OrbitDelaysWrongFalsely : Prop := orbitDelaysRow.holds Try.pinned (OpenSpec.ofChange orbitDelaysWrong)

/-- 'nadirlaw07.OrbitReturns': WHATEVER THE INPUT: true; the input reads as it did. -/
def orbitReturnsSpec : ChangeSpec := { name := "orbitReturns", fn := fun _ => fun
  | [d1, d2] => { results := [.lit (.bool true)], args := [d1, d2] }
  | _ => none }
def orbitReturnsRow : OpenClaim := { program := "ytoccmkmnkoldmaa", sum := "d33ccc28b5bcb1aaf42044833de3a666cbe4051d30bd1ac08f5ec0bb4b6d4893", func := "nadir/nadirlaw07.OrbitReturns", spec := "orbitReturns", unfollowed := true, recurses := true, plainKeys := false, apart := false }
def OrbitReturnsSaid : Prop := orbitReturnsRow.holds Try.pinned (OpenSpec.ofChange orbitReturnsSpec)

/-- ITS FALSE NEIGHBOUR: 'it returns false'. Refute it at one input. -/
def orbitReturnsWrong : ChangeSpec := { name := "orbitReturns", fn := fun _ => fun
  | [d1, d2] => { results := [.lit (.bool false)], args := [d1, d2] }
  | _ => none }
def OrbitReturnsWrongFalsely : Prop := orbitReturnsRow.holds Try.pinned (OpenSpec.ofChange orbitReturnsWrong)

/-- 'nadirlaw07.OrbitCertain': WHATEVER THE INPUT: true; the input reads as it did. -/
def orbitCertainSpec : ChangeSpec := { name := "orbitCertain", fn := fun _ => fun
  | [d1, d2] => { results := [.lit (.bool true)], args := [d1, d2] }
  | _ => none }
def orbitCertainRow : OpenClaim := { program := "ytoccmkmnkoldmaa", sum := "d33ccc28b5bcb1aaf42044833de3a666cbe4051d30bd1ac08f5ec0bb4b6d4893", func := "nadir/nadirlaw07.OrbitCertain", spec := "orbitCertain", unfollowed := true, recurses := true, plainKeys := false, apart := false }
def OrbitCertainSaid : Prop := orbitCertainRow.holds Try.pinned (OpenSpec.ofChange orbitCertainSpec)

/-- ITS FALSE NEIGHBOUR: 'it returns false'. Refute it at one input. -/
def orbitCertainWrong : ChangeSpec := { name := "orbitCertain", fn := fun _ => fun
  | [d1, d2] => { results := [.lit (.bool false)], args := [d1, d2] }
  | _ => none }
def OrbitCertainWrongFalsely : Prop := orbitCertainRow.holds Try.pinned (OpenSpec.ofChange orbitCertainWrong)

/-- 'nadirlaw07.OrbitDoubt': WHATEVER THE INPUT: true; the input reads as it did. -/
def orbitDoubtSpec : ChangeSpec := { name := "orbitDoubt", fn := fun _ => fun
  | [d1, d2, d3] => { results := [.lit (.bool true)], args := [d1, d2, d3] }
  | _ => none }
def orbitDoubtRow : OpenClaim := { program := "ytoccmkmnkoldmaa", sum := "d33ccc28b5bcb1aaf42044833de3a666cbe4051d30bd1ac08f5ec0bb4b6d4893", func := "nadir/nadirlaw07.OrbitDoubt", spec := "orbitDoubt", unfollowed := true, recurses := true, plainKeys := false, apart := false }
def OrbitDoubtSaid : Prop := orbitDoubtRow.holds Try.pinned (OpenSpec.ofChange orbitDoubtSpec)

/-- ITS FALSE NEIGHBOUR: 'it returns false'. Refute it at one input. -/
def orbitDoubtWrong : ChangeSpec := { name := "orbitDoubt", fn := fun _ => fun
  | [d1, d2, d3] => { results := [.lit (.bool false)], args := [d1, d2, d3] }
  | _ => none }
def OrbitDoubtWrongFalsely : Prop := orbitDoubtRow.holds Try.pinned (OpenSpec.ofChange orbitDoubtWrong)

/-- 'nadirlaw07.OrbitTracks': WHATEVER THE INPUT: true; the input reads as it did. -/
def orbitTracksSpec : ChangeSpec := { name := "orbitTracks", fn := fun _ => fun
  | [d1, d2, d3, d4, d5] => { results := [.lit (.bool true)], args := [d1, d2, d3, d4, d5] }
  | _ => none }
def orbitTracksRow : OpenClaim := { program := "ytoccmkmnkoldmaa", sum := "d33ccc28b5bcb1aaf42044833de3a666cbe4051d30bd1ac08f5ec0bb4b6d4893", func := "nadir/nadirlaw07.OrbitTracks", spec := "orbitTracks", unfollowed := true, recurses := true, plainKeys := false, apart := false }
def OrbitTracksSaid : Prop := orbitTracksRow.holds Try.pinned (OpenSpec.ofChange orbitTracksSpec)

/-- ITS FALSE NEIGHBOUR: 'it returns false'. Refute it at one input. -/
def orbitTracksWrong : ChangeSpec := { name := "orbitTracks", fn := fun _ => fun
  | [d1, d2, d3, d4, d5] => { results := [.lit (.bool false)], args := [d1, d2, d3, d4, d5] }
  | _ => none }
def OrbitTracksWrongFalsely : Prop := orbitTracksRow.holds Try.pinned (OpenSpec.ofChange orbitTracksWrong)

/-- 'nadirlaw07.OrbitSmooth': WHATEVER THE INPUT: true; the input reads as it did. -/
def orbitSmoothSpec : ChangeSpec := { name := "orbitSmooth", fn := fun _ => fun
  | [d1, d2] => { results := [.lit (.bool true)], args := [d1, d2] }
  | _ => none }
def orbitSmoothRow : OpenClaim := { program := "ytoccmkmnkoldmaa", sum := "d33ccc28b5bcb1aaf42044833de3a666cbe4051d30bd1ac08f5ec0bb4b6d4893", func := "nadir/nadirlaw07.OrbitSmooth", spec := "orbitSmooth", unfollowed := true, recurses := true, plainKeys := false, apart := false }
def OrbitSmoothSaid : Prop := orbitSmoothRow.holds Try.pinned (OpenSpec.ofChange orbitSmoothSpec)

/-- ITS FALSE NEIGHBOUR: 'it returns false'. Refute it at one input. -/
def orbitSmoothWrong : ChangeSpec := { name := "orbitSmooth", fn := fun _ => fun
  | [d1, d2] => { results := [.lit (.bool false)], args := [d1, d2] }
  | _ => none }
def OrbitSmoothWrongFalsely : Prop := orbitSmoothRow.holds Try.pinned (OpenSpec.ofChange orbitSmoothWrong)

/-- 'nadirlaw10.BatteryWindows': WHATEVER THE INPUT: true; the input reads as it did. -/
def batteryWindowsSpec : ChangeSpec := { name := "batteryWindows", fn := fun _ => fun
  | [d1, d2, d3, d4, d5, d6, d7] => { results := [.lit (.bool true)], args := [d1, d2, d3, d4, d5, d6, d7] }
  | _ => none }
def batteryWindowsRow : OpenClaim := { program := "ytoccmkmnkoldmaa", sum := "d33ccc28b5bcb1aaf42044833de3a666cbe4051d30bd1ac08f5ec0bb4b6d4893", func := "nadir/nadirlaw10.BatteryWindows", spec := "batteryWindows", unfollowed := true, recurses := true, plainKeys := false, apart := false }
def BatteryWindowsSaid : Prop := batteryWindowsRow.holds Try.pinned (OpenSpec.ofChange batteryWindowsSpec)

/-- ITS FALSE NEIGHBOUR: 'it returns false'. Refute it at one input. -/
def batteryWindowsWrong : ChangeSpec := { name := "batteryWindows", fn := fun _ => fun
  | [d1, d2, d3, d4, d5, d6, d7] => { results := [.lit (.bool false)], args := [d1, d2, d3, d4, d5, d6, d7] }
  | _ => none }
def BatteryWindowsWrongFalsely : Prop := batteryWindowsRow.holds Try.pinned (OpenSpec.ofChange batteryWindowsWrong)

/-- 'nadirlaw10.BatterySums': WHATEVER THE INPUT: true; the input reads as it did. -/
def batterySumsSpec : ChangeSpec := { name := "batterySums", fn := fun _ => fun
  | [d1, d2, d3, d4, d5] => { results := [.lit (.bool true)], args := [d1, d2, d3, d4, d5] }
  | _ => none }
def batterySumsRow : OpenClaim := { program := "ytoccmkmnkoldmaa", sum := "d33ccc28b5bcb1aaf42044833de3a666cbe4051d30bd1ac08f5ec0bb4b6d4893", func := "nadir/nadirlaw10.BatterySums", spec := "batterySums", unfollowed := true, recurses := true, plainKeys := false, apart := false }
def BatterySumsSaid : Prop := batterySumsRow.holds Try.pinned (OpenSpec.ofChange batterySumsSpec)

/-- ITS FALSE NEIGHBOUR: 'it returns false'. Refute it at one input. -/
def batterySumsWrong : ChangeSpec := { name := "batterySums", fn := fun _ => fun
  | [d1, d2, d3, d4, d5] => { results := [.lit (.bool false)], args := [d1, d2, d3, d4, d5] }
  | _ => none }
def BatterySumsWrongFalsely : Prop := batterySumsRow.holds Try.pinned (OpenSpec.ofChange batterySumsWrong)

/-- 'nadirlaw10.BatteryLess': WHATEVER THE INPUT: true; the input reads as it did. -/
def batteryLessSpec : ChangeSpec := { name := "batteryLess", fn := fun _ => fun
  | [d1, d2, d3, d4, d5, d6, d7] => { results := [.lit (.bool true)], args := [d1, d2, d3, d4, d5, d6, d7] }
  | _ => none }
def batteryLessRow : OpenClaim := { program := "ytoccmkmnkoldmaa", sum := "d33ccc28b5bcb1aaf42044833de3a666cbe4051d30bd1ac08f5ec0bb4b6d4893", func := "nadir/nadirlaw10.BatteryLess", spec := "batteryLess", unfollowed := true, recurses := true, plainKeys := false, apart := false }
def BatteryLessSaid : Prop := batteryLessRow.holds Try.pinned (OpenSpec.ofChange batteryLessSpec)

/-- ITS FALSE NEIGHBOUR: 'it returns false'. Refute it at one input. -/
def batteryLessWrong : ChangeSpec := { name := "batteryLess", fn := fun _ => fun
  | [d1, d2, d3, d4, d5, d6, d7] => { results := [.lit (.bool false)], args := [d1, d2, d3, d4, d5, d6, d7] }
  | _ => none }
def BatteryLessWrongFalsely : Prop := batteryLessRow.holds Try.pinned (OpenSpec.ofChange batteryLessWrong)

/-- 'nadirlaw10.BatteryParts': WHATEVER THE INPUT: true; the input reads as it did. -/
def batteryPartsSpec : ChangeSpec := { name := "batteryParts", fn := fun _ => fun
  | [d1, d2, d3, d4, d5, d6] => { results := [.lit (.bool true)], args := [d1, d2, d3, d4, d5, d6] }
  | _ => none }
def batteryPartsRow : OpenClaim := { program := "ytoccmkmnkoldmaa", sum := "d33ccc28b5bcb1aaf42044833de3a666cbe4051d30bd1ac08f5ec0bb4b6d4893", func := "nadir/nadirlaw10.BatteryParts", spec := "batteryParts", unfollowed := true, recurses := true, plainKeys := false, apart := false }
def BatteryPartsSaid : Prop := batteryPartsRow.holds Try.pinned (OpenSpec.ofChange batteryPartsSpec)

/-- ITS FALSE NEIGHBOUR: 'it returns false'. Refute it at one input. -/
def batteryPartsWrong : ChangeSpec := { name := "batteryParts", fn := fun _ => fun
  | [d1, d2, d3, d4, d5, d6] => { results := [.lit (.bool false)], args := [d1, d2, d3, d4, d5, d6] }
  | _ => none }
def BatteryPartsWrongFalsely : Prop := batteryPartsRow.holds Try.pinned (OpenSpec.ofChange batteryPartsWrong)

/-- 'nadirlaw10.BatteryDelays': WHATEVER THE INPUT: true; the input reads as it did. -/
def batteryDelaysSpec : ChangeSpec := { name := "batteryDelays", fn := fun _ => fun
  | [d1, d2, d3, d4, d5, d6] => { results := [.lit (.bool true)], args := [d1, d2, d3, d4, d5, d6] }
  | _ => none }
def batteryDelaysRow : OpenClaim := { program := "ytoccmkmnkoldmaa", sum := "d33ccc28b5bcb1aaf42044833de3a666cbe4051d30bd1ac08f5ec0bb4b6d4893", func := "nadir/nadirlaw10.BatteryDelays", spec := "batteryDelays", unfollowed := true, recurses := true, plainKeys := false, apart := false }
def BatteryDelaysSaid : Prop := batteryDelaysRow.holds Try.pinned (OpenSpec.ofChange batteryDelaysSpec)

/-- ITS FALSE NEIGHBOUR: 'it returns false'. Refute it at one input. -/
def batteryDelaysWrong : ChangeSpec := { name := "batteryDelays", fn := fun _ => fun
  | [d1, d2, d3, d4, d5, d6] => { results := [.lit (.bool false)], args := [d1, d2, d3, d4, d5, d6] }
  | _ => none }
def BatteryDelaysWrongFalsely : Prop := batteryDelaysRow.holds Try.pinned (OpenSpec.ofChange batteryDelaysWrong)

/- THE SECOND FORM. 'bulk': how many values and letters a reading holds, each counted each time it is reached (what is shared counts as often as it is met; a slice's spare places count too). A statement '..UptoSaid' is the law's where the arguments, and the package variables that the reading takes, are together of bulk at most 1048576: NARROWER than '..Said'. Prove '..Said' where nothing that the law and all that it calls make is longer than what came in: it says more and counts as full. Else prove '..UptoSaid'. A law counts once. -/
mutual
def uptoBulk {H : Type} : DataW H → Nat
  | .lit (.string bytes) => bytes.length + 1
  | .lit _ => 1
  | .nil => 1
  | .ptr d => uptoBulk d + 1
  | .slice elems spare => uptoBulkAll elems + uptoBulkAll spare + 1
  | .agg parts => uptoBulkAll parts + 1
  | .iface _ d => uptoBulk d + 1
  | .map entries => uptoBulkEntries entries + 1
  | .held _ => 1
def uptoBulkAll {H : Type} : List (DataW H) → Nat
  | [] => 0
  | d :: r => uptoBulk d + uptoBulkAll r
def uptoBulkEntries {H : Type} : List (Lit × DataW H) → Nat
  | [] => 0
  | x :: r => uptoBulkEntry x + uptoBulkEntries r
def uptoBulkEntry {H : Type} : Lit × DataW H → Nat
  | (.string bytes, d) => bytes.length + uptoBulk d + 1
  | (_, d) => uptoBulk d + 1
 end
def uptoSmall : (H : Type) → List (DataW H) → Bool := fun _ ds => decide (uptoBulkAll ds ≤ 1048576)
def OpenSpec.upto (s : _root_.Go.ChangeSpec) : _root_.Go.OpenSpec := { _root_.Go.OpenSpec.ofChange s with cond := some uptoSmall }

/-- 'nadirlaw07.OrbitMatchesReference', WHERE WHAT IT READS IS OF BULK AT MOST 1048576: true; the input reads as it did. -/
def orbitMatchesReferenceUptoRow : OpenClaim := { program := "ytoccmkmnkoldmaa", sum := "d33ccc28b5bcb1aaf42044833de3a666cbe4051d30bd1ac08f5ec0bb4b6d4893", func := "nadir/nadirlaw07.OrbitMatchesReference", spec := "orbitMatchesReference", unfollowed := true, recurses := true, plainKeys := false, apart := false, narrowed := true }
def OrbitMatchesReferenceUptoSaid : Prop := orbitMatchesReferenceUptoRow.holds Try.pinned (OpenSpec.upto orbitMatchesReferenceSpec)

/-- 'nadirlaw07.OrbitDelays', WHERE WHAT IT READS IS OF BULK AT MOST 1048576: true; the input reads as it did. -/
def orbitDelaysUptoRow : OpenClaim := { program := "ytoccmkmnkoldmaa", sum := "d33ccc28b5bcb1aaf42044833de3a666cbe4051d30bd1ac08f5ec0bb4b6d4893", func := "nadir/nadirlaw07.OrbitDelays", spec := "orbitDelays", unfollowed := true, recurses := true, plainKeys := false, apart := false, narrowed := true }
def OrbitDelaysUptoSaid : Prop := orbitDelaysUptoRow.holds Try.pinned (OpenSpec.upto orbitDelaysSpec)

/-- 'nadirlaw07.OrbitReturns', WHERE WHAT IT READS IS OF BULK AT MOST 1048576: true; the input reads as it did. -/
def orbitReturnsUptoRow : OpenClaim := { program := "ytoccmkmnkoldmaa", sum := "d33ccc28b5bcb1aaf42044833de3a666cbe4051d30bd1ac08f5ec0bb4b6d4893", func := "nadir/nadirlaw07.OrbitReturns", spec := "orbitReturns", unfollowed := true, recurses := true, plainKeys := false, apart := false, narrowed := true }
def OrbitReturnsUptoSaid : Prop := orbitReturnsUptoRow.holds Try.pinned (OpenSpec.upto orbitReturnsSpec)

/-- 'nadirlaw07.OrbitCertain', WHERE WHAT IT READS IS OF BULK AT MOST 1048576: true; the input reads as it did. -/
def orbitCertainUptoRow : OpenClaim := { program := "ytoccmkmnkoldmaa", sum := "d33ccc28b5bcb1aaf42044833de3a666cbe4051d30bd1ac08f5ec0bb4b6d4893", func := "nadir/nadirlaw07.OrbitCertain", spec := "orbitCertain", unfollowed := true, recurses := true, plainKeys := false, apart := false, narrowed := true }
def OrbitCertainUptoSaid : Prop := orbitCertainUptoRow.holds Try.pinned (OpenSpec.upto orbitCertainSpec)

/-- 'nadirlaw07.OrbitDoubt', WHERE WHAT IT READS IS OF BULK AT MOST 1048576: true; the input reads as it did. -/
def orbitDoubtUptoRow : OpenClaim := { program := "ytoccmkmnkoldmaa", sum := "d33ccc28b5bcb1aaf42044833de3a666cbe4051d30bd1ac08f5ec0bb4b6d4893", func := "nadir/nadirlaw07.OrbitDoubt", spec := "orbitDoubt", unfollowed := true, recurses := true, plainKeys := false, apart := false, narrowed := true }
def OrbitDoubtUptoSaid : Prop := orbitDoubtUptoRow.holds Try.pinned (OpenSpec.upto orbitDoubtSpec)

/-- 'nadirlaw07.OrbitTracks', WHERE WHAT IT READS IS OF BULK AT MOST 1048576: true; the input reads as it did. -/
def orbitTracksUptoRow : OpenClaim := { program := "ytoccmkmnkoldmaa", sum := "d33ccc28b5bcb1aaf42044833de3a666cbe4051d30bd1ac08f5ec0bb4b6d4893", func := "nadir/nadirlaw07.OrbitTracks", spec := "orbitTracks", unfollowed := true, recurses := true, plainKeys := false, apart := false, narrowed := true }
def OrbitTracksUptoSaid : Prop := orbitTracksUptoRow.holds Try.pinned (OpenSpec.upto orbitTracksSpec)

/-- 'nadirlaw07.OrbitSmooth', WHERE WHAT IT READS IS OF BULK AT MOST 1048576: true; the input reads as it did. -/
def orbitSmoothUptoRow : OpenClaim := { program := "ytoccmkmnkoldmaa", sum := "d33ccc28b5bcb1aaf42044833de3a666cbe4051d30bd1ac08f5ec0bb4b6d4893", func := "nadir/nadirlaw07.OrbitSmooth", spec := "orbitSmooth", unfollowed := true, recurses := true, plainKeys := false, apart := false, narrowed := true }
def OrbitSmoothUptoSaid : Prop := orbitSmoothUptoRow.holds Try.pinned (OpenSpec.upto orbitSmoothSpec)

/-- 'nadirlaw10.BatteryWindows', WHERE WHAT IT READS IS OF BULK AT MOST 1048576: true; the input reads as it did. -/
def batteryWindowsUptoRow : OpenClaim := { program := "ytoccmkmnkoldmaa", sum := "d33ccc28b5bcb1aaf42044833de3a666cbe4051d30bd1ac08f5ec0bb4b6d4893", func := "nadir/nadirlaw10.BatteryWindows", spec := "batteryWindows", unfollowed := true, recurses := true, plainKeys := false, apart := false, narrowed := true }
def BatteryWindowsUptoSaid : Prop := batteryWindowsUptoRow.holds Try.pinned (OpenSpec.upto batteryWindowsSpec)

/-- 'nadirlaw10.BatterySums', WHERE WHAT IT READS IS OF BULK AT MOST 1048576: true; the input reads as it did. -/
def batterySumsUptoRow : OpenClaim := { program := "ytoccmkmnkoldmaa", sum := "d33ccc28b5bcb1aaf42044833de3a666cbe4051d30bd1ac08f5ec0bb4b6d4893", func := "nadir/nadirlaw10.BatterySums", spec := "batterySums", unfollowed := true, recurses := true, plainKeys := false, apart := false, narrowed := true }
def BatterySumsUptoSaid : Prop := batterySumsUptoRow.holds Try.pinned (OpenSpec.upto batterySumsSpec)

/-- 'nadirlaw10.BatteryLess', WHERE WHAT IT READS IS OF BULK AT MOST 1048576: true; the input reads as it did. -/
def batteryLessUptoRow : OpenClaim := { program := "ytoccmkmnkoldmaa", sum := "d33ccc28b5bcb1aaf42044833de3a666cbe4051d30bd1ac08f5ec0bb4b6d4893", func := "nadir/nadirlaw10.BatteryLess", spec := "batteryLess", unfollowed := true, recurses := true, plainKeys := false, apart := false, narrowed := true }
def BatteryLessUptoSaid : Prop := batteryLessUptoRow.holds Try.pinned (OpenSpec.upto batteryLessSpec)

/-- 'nadirlaw10.BatteryParts', WHERE WHAT IT READS IS OF BULK AT MOST 1048576: true; the input reads as it did. -/
def batteryPartsUptoRow : OpenClaim := { program := "ytoccmkmnkoldmaa", sum := "d33ccc28b5bcb1aaf42044833de3a666cbe4051d30bd1ac08f5ec0bb4b6d4893", func := "nadir/nadirlaw10.BatteryParts", spec := "batteryParts", unfollowed := true, recurses := true, plainKeys := false, apart := false, narrowed := true }
def BatteryPartsUptoSaid : Prop := batteryPartsUptoRow.holds Try.pinned (OpenSpec.upto batteryPartsSpec)

/-- 'nadirlaw10.BatteryDelays', WHERE WHAT IT READS IS OF BULK AT MOST 1048576: true; the input reads as it did. -/
def batteryDelaysUptoRow : OpenClaim := { program := "ytoccmkmnkoldmaa", sum := "d33ccc28b5bcb1aaf42044833de3a666cbe4051d30bd1ac08f5ec0bb4b6d4893", func := "nadir/nadirlaw10.BatteryDelays", spec := "batteryDelays", unfollowed := true, recurses := true, plainKeys := false, apart := false, narrowed := true }
def BatteryDelaysUptoSaid : Prop := batteryDelaysUptoRow.holds Try.pinned (OpenSpec.upto batteryDelaysSpec)

end Rows
end Go.Proofs.Ytoccmkmnkoldmaa
