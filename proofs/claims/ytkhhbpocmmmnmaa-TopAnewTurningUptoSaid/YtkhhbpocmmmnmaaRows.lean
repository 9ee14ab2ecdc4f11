/-
  No cell of these rows narrows 'for every input' (looked for: loops, veiled, ifaces, maps, wideKeys, modest, calm, conditions, laid).
  DERIVED. THE GIVEN ROWS OF THIS SEAT. 16 by the template 'for every input the law returns true; each argument reads behind the call as it read before'; 0 by the template 'total and deterministic' (their statements: YtkhhbpocmmmnmaaTotals.lean).
  GIVEN WITH THE SEED: the statements are not yours to turn. If you find one false, say at which input.
  Laid BY PROGRAM, IN A SANDBOX (cutbox-rows.mjs): the forced cells as the released guide's own fill.sh prints them over the translation 8bbf3d03445987cd… (all of the seat's roots in one cut). By AI agents, Wed Nov 11 2026. No macro, syntax, notation, axiom, sorry.
-/
import Derived.Test.YtkhhbpocmmmnmaaChecked
import GoSem.Claim
import GoSem.ClaimJoined
import GoSem.ClaimMapViews
import Derived.JoinedTies
import Derived.KernelRfl
namespace Go.Proofs.Ytkhhbpocmmmnmaa
/- THE CELL 'sum', in the pinned program and in every row, IS THE sha256 OF THE DUMP (.gsa) THAT YtkhhbpocmmmnmaaProg.lean LOADS. Nothing in Lean hashes anything: it is a label: what it is worth is what the hold of that sum in a sandbox is worth. -/
noncomputable def Try.pinned : Pinned := { name := "ytkhhbpocmmmnmaa", sum := "8bbf3d03445987cdb3117217c2ee25ae7e6273b6b0ec140f8a42442bfea3a5c3", checked := Try.checked }
namespace Rows
def none {H : Type} : Left H := { results := [], args := [] }

/-- 'helioscopelaw03.TurningRates': WHATEVER THE INPUT: true; the input reads as it did. -/
def turningRatesSpec : ChangeSpec := { name := "turningRates", fn := fun _ => fun
  | [d1, d2] => { results := [.lit (.bool true)], args := [d1, d2] }
  | _ => none }
def turningRatesRow : OpenClaim := { program := "ytkhhbpocmmmnmaa", sum := "8bbf3d03445987cdb3117217c2ee25ae7e6273b6b0ec140f8a42442bfea3a5c3", func := "helioscope/helioscopelaw03.TurningRates", spec := "turningRates", unfollowed := true, recurses := true, plainKeys := false, apart := false }
def TurningRatesSaid : Prop := turningRatesRow.holds Try.pinned (OpenSpec.ofChange turningRatesSpec)

/-- ITS FALSE NEIGHBOUR: 'it returns false'. Refute it at one input. -/
def turningRatesWrong : ChangeSpec := { name := "turningRates", fn := fun _ => fun
  | [d1, d2] => { results := [.lit (.bool false)], args := [d1, d2] }
  | _ => none }
def TurningRatesWrongFalsely : Prop := turningRatesRow.holds Try.pinned (OpenSpec.ofChange turningRatesWrong)

/-- 'helioscopelaw03.TurningGroups': WHATEVER THE INPUT: true; the input reads as it did. -/
def turningGroupsSpec : ChangeSpec := { name := "turningGroups", fn := fun _ => fun
  | [d] => { results := [.lit (.bool true)], args := [d] }
  | _ => none }
def turningGroupsRow : OpenClaim := { program := "ytkhhbpocmmmnmaa", sum := "8bbf3d03445987cdb3117217c2ee25ae7e6273b6b0ec140f8a42442bfea3a5c3", func := "helioscope/helioscopelaw03.TurningGroups", spec := "turningGroups", unfollowed := true, recurses := true, plainKeys := false, apart := false }
def TurningGroupsSaid : Prop := turningGroupsRow.holds Try.pinned (OpenSpec.ofChange turningGroupsSpec)

/-- ITS FALSE NEIGHBOUR: 'it returns false'. Refute it at one input. -/
def turningGroupsWrong : ChangeSpec := { name := "turningGroups", fn := fun _ => fun
  | [d] => { results := [.lit (.bool false)], args := [d] }
  | _ => none }
def TurningGroupsWrongFalsely : Prop := turningGroupsRow.holds Try.pinned (OpenSpec.ofChange turningGroupsWrong)

/-- 'helioscopelaw03.TurningPlaces': WHATEVER THE INPUT: true; the input reads as it did. -/
def turningPlacesSpec : ChangeSpec := { name := "turningPlaces", fn := fun _ => fun
  | [d1, d2] => { results := [.lit (.bool true)], args := [d1, d2] }
  | _ => none }
def turningPlacesRow : OpenClaim := { program := "ytkhhbpocmmmnmaa", sum := "8bbf3d03445987cdb3117217c2ee25ae7e6273b6b0ec140f8a42442bfea3a5c3", func := "helioscope/helioscopelaw03.TurningPlaces", spec := "turningPlaces", unfollowed := true, recurses := true, plainKeys := false, apart := false }
def TurningPlacesSaid : Prop := turningPlacesRow.holds Try.pinned (OpenSpec.ofChange turningPlacesSpec)

/-- ITS FALSE NEIGHBOUR: 'it returns false'. Refute it at one input. -/
def turningPlacesWrong : ChangeSpec := { name := "turningPlaces", fn := fun _ => fun
  | [d1, d2] => { results := [.lit (.bool false)], args := [d1, d2] }
  | _ => none }
def TurningPlacesWrongFalsely : Prop := turningPlacesRow.holds Try.pinned (OpenSpec.ofChange turningPlacesWrong)

/-- 'helioscopelaw03.TurningWrongs': WHATEVER THE INPUT: true; the input reads as it did. -/
def turningWrongsSpec : ChangeSpec := { name := "turningWrongs", fn := fun _ => fun
  | [d] => { results := [.lit (.bool true)], args := [d] }
  | _ => none }
def turningWrongsRow : OpenClaim := { program := "ytkhhbpocmmmnmaa", sum := "8bbf3d03445987cdb3117217c2ee25ae7e6273b6b0ec140f8a42442bfea3a5c3", func := "helioscope/helioscopelaw03.TurningWrongs", spec := "turningWrongs", unfollowed := true, recurses := true, plainKeys := false, apart := false }
def TurningWrongsSaid : Prop := turningWrongsRow.holds Try.pinned (OpenSpec.ofChange turningWrongsSpec)

/-- ITS FALSE NEIGHBOUR: 'it returns false'. Refute it at one input. -/
def turningWrongsWrong : ChangeSpec := { name := "turningWrongs", fn := fun _ => fun
  | [d] => { results := [.lit (.bool false)], args := [d] }
  | _ => none }
def TurningWrongsWrongFalsely : Prop := turningWrongsRow.holds Try.pinned (OpenSpec.ofChange turningWrongsWrong)

/-- 'helioscopelaw03.TurningKnown': WHATEVER THE INPUT: true; the input reads as it did. -/
def turningKnownSpec : ChangeSpec := { name := "turningKnown", fn := fun _ => fun
  | [] => { results := [.lit (.bool true)], args := [] }
  | _ => none }
def turningKnownRow : OpenClaim := { program := "ytkhhbpocmmmnmaa", sum := "8bbf3d03445987cdb3117217c2ee25ae7e6273b6b0ec140f8a42442bfea3a5c3", func := "helioscope/helioscopelaw03.TurningKnown", spec := "turningKnown", unfollowed := true, recurses := true, plainKeys := false, apart := false }
def TurningKnownSaid : Prop := turningKnownRow.holds Try.pinned (OpenSpec.ofChange turningKnownSpec)

/-- ITS FALSE NEIGHBOUR: 'it returns false'. Refute it at one input. -/
def turningKnownWrong : ChangeSpec := { name := "turningKnown", fn := fun _ => fun
  | [] => { results := [.lit (.bool false)], args := [] }
  | _ => none }
def TurningKnownWrongFalsely : Prop := turningKnownRow.holds Try.pinned (OpenSpec.ofChange turningKnownWrong)

/-- 'helioscopelaw03.TurningTrue': WHATEVER THE INPUT: true; the input reads as it did. -/
def turningTrueSpec : ChangeSpec := { name := "turningTrue", fn := fun _ => fun
  | [d1, d2, d3] => { results := [.lit (.bool true)], args := [d1, d2, d3] }
  | _ => none }
def turningTrueRow : OpenClaim := { program := "ytkhhbpocmmmnmaa", sum := "8bbf3d03445987cdb3117217c2ee25ae7e6273b6b0ec140f8a42442bfea3a5c3", func := "helioscope/helioscopelaw03.TurningTrue", spec := "turningTrue", unfollowed := true, recurses := true, plainKeys := false, apart := false }
def TurningTrueSaid : Prop := turningTrueRow.holds Try.pinned (OpenSpec.ofChange turningTrueSpec)

/-- ITS FALSE NEIGHBOUR: 'it returns false'. Refute it at one input. -/
def turningTrueWrong : ChangeSpec := { name := "turningTrue", fn := fun _ => fun
  | [d1, d2, d3] => { results := [.lit (.bool false)], args := [d1, d2, d3] }
  | _ => none }
def TurningTrueWrongFalsely : Prop := turningTrueRow.holds Try.pinned (OpenSpec.ofChange turningTrueWrong)

/-- 'helioscopelaw03.TurningFewest': WHATEVER THE INPUT: true; the input reads as it did. -/
def turningFewestSpec : ChangeSpec := { name := "turningFewest", fn := fun _ => fun
  | [d1, d2] => { results := [.lit (.bool true)], args := [d1, d2] }
  | _ => none }
def turningFewestRow : OpenClaim := { program := "ytkhhbpocmmmnmaa", sum := "8bbf3d03445987cdb3117217c2ee25ae7e6273b6b0ec140f8a42442bfea3a5c3", func := "helioscope/helioscopelaw03.TurningFewest", spec := "turningFewest", unfollowed := true, recurses := true, plainKeys := false, apart := false }
def TurningFewestSaid : Prop := turningFewestRow.holds Try.pinned (OpenSpec.ofChange turningFewestSpec)

/-- ITS FALSE NEIGHBOUR: 'it returns false'. Refute it at one input. -/
def turningFewestWrong : ChangeSpec := { name := "turningFewest", fn := fun _ => fun
  | [d1, d2] => { results := [.lit (.bool false)], args := [d1, d2] }
  | _ => none }
def TurningFewestWrongFalsely : Prop := turningFewestRow.holds Try.pinned (OpenSpec.ofChange turningFewestWrong)

/-- 'helioscopelaw03.TurningHanded': WHATEVER THE INPUT: true; the input reads as it did. -/
def turningHandedSpec : ChangeSpec := { name := "turningHanded", fn := fun _ => fun
  | [d1, d2] => { results := [.lit (.bool true)], args := [d1, d2] }
  | _ => none }
def turningHandedRow : OpenClaim := { program := "ytkhhbpocmmmnmaa", sum := "8bbf3d03445987cdb3117217c2ee25ae7e6273b6b0ec140f8a42442bfea3a5c3", func := "helioscope/helioscopelaw03.TurningHanded", spec := "turningHanded", unfollowed := true, recurses := true, plainKeys := false, apart := false }
def TurningHandedSaid : Prop := turningHandedRow.holds Try.pinned (OpenSpec.ofChange turningHandedSpec)

/-- ITS FALSE NEIGHBOUR: 'it returns false'. Refute it at one input. -/
def turningHandedWrong : ChangeSpec := { name := "turningHanded", fn := fun _ => fun
  | [d1, d2] => { results := [.lit (.bool false)], args := [d1, d2] }
  | _ => none }
def TurningHandedWrongFalsely : Prop := turningHandedRow.holds Try.pinned (OpenSpec.ofChange turningHandedWrong)

/-- 'helioscopelaw03.TurningWrong': WHATEVER THE INPUT: true; the input reads as it did. -/
def turningWrongSpec : ChangeSpec := { name := "turningWrong", fn := fun _ => fun
  | [d1, d2] => { results := [.lit (.bool true)], args := [d1, d2] }
  | _ => none }
def turningWrongRow : OpenClaim := { program := "ytkhhbpocmmmnmaa", sum := "8bbf3d03445987cdb3117217c2ee25ae7e6273b6b0ec140f8a42442bfea3a5c3", func := "helioscope/helioscopelaw03.TurningWrong", spec := "turningWrong", unfollowed := true, recurses := true, plainKeys := false, apart := false }
def TurningWrongSaid : Prop := turningWrongRow.holds Try.pinned (OpenSpec.ofChange turningWrongSpec)

/-- ITS FALSE NEIGHBOUR: 'it returns false'. Refute it at one input. -/
def turningWrongWrong : ChangeSpec := { name := "turningWrong", fn := fun _ => fun
  | [d1, d2] => { results := [.lit (.bool false)], args := [d1, d2] }
  | _ => none }
def TurningWrongWrongFalsely : Prop := turningWrongRow.holds Try.pinned (OpenSpec.ofChange turningWrongWrong)

/-- 'helioscopelaw03.TurningMore': WHATEVER THE INPUT: true; the input reads as it did. -/
def turningMoreSpec : ChangeSpec := { name := "turningMore", fn := fun _ => fun
  | [d1, d2, d3] => { results := [.lit (.bool true)], args := [d1, d2, d3] }
  | _ => none }
def turningMoreRow : OpenClaim := { program := "ytkhhbpocmmmnmaa", sum := "8bbf3d03445987cdb3117217c2ee25ae7e6273b6b0ec140f8a42442bfea3a5c3", func := "helioscope/helioscopelaw03.TurningMore", spec := "turningMore", unfollowed := true, recurses := true, plainKeys := false, apart := false }
def TurningMoreSaid : Prop := turningMoreRow.holds Try.pinned (OpenSpec.ofChange turningMoreSpec)

/-- ITS FALSE NEIGHBOUR: 'it returns false'. Refute it at one input. -/
def turningMoreWrong : ChangeSpec := { name := "turningMore", fn := fun _ => fun
  | [d1, d2, d3] => { results := [.lit (.bool false)], args := [d1, d2, d3] }
  | _ => none }
def TurningMoreWrongFalsely : Prop := turningMoreRow.holds Try.pinned (OpenSpec.ofChange turningMoreWrong)

/-- 'helioscopelaw03.TurningFaster': WHATEVER THE INPUT: true; the input reads as it did. -/
def turningFasterSpec : ChangeSpec := { name := "turningFaster", fn := fun _ => fun
  | [d] => { results := [.lit (.bool true)], args := [d] }
  | _ => none }
def turningFasterRow : OpenClaim := { program := "ytkhhbpocmmmnmaa", sum := "8bbf3d03445987cdb3117217c2ee25ae7e6273b6b0ec140f8a42442bfea3a5c3", func := "helioscope/helioscopelaw03.TurningFaster", spec := "turningFaster", unfollowed := true, recurses := true, plainKeys := false, apart := false }
def TurningFasterSaid : Prop := turningFasterRow.holds Try.pinned (OpenSpec.ofChange turningFasterSpec)

/-- ITS FALSE NEIGHBOUR: 'it returns false'. Refute it at one input. -/
def turningFasterWrong : ChangeSpec := { name := "turningFaster", fn := fun _ => fun
  | [d] => { results := [.lit (.bool false)], args := [d] }
  | _ => none }
def TurningFasterWrongFalsely : Prop := turningFasterRow.holds Try.pinned (OpenSpec.ofChange turningFasterWrong)

/-- 'helioscopelaw03.TurningLater': WHATEVER THE INPUT: true; the input reads as it did. -/
def turningLaterSpec : ChangeSpec := { name := "turningLater", fn := fun _ => fun
  | [d1, d2] => { results := [.lit (.bool true)], args := [d1, d2] }
  | _ => none }
def turningLaterRow : OpenClaim := { program := "ytkhhbpocmmmnmaa", sum := "8bbf3d03445987cdb3117217c2ee25ae7e6273b6b0ec140f8a42442bfea3a5c3", func := "helioscope/helioscopelaw03.TurningLater", spec := "turningLater", unfollowed := true, recurses := true, plainKeys := false, apart := false }
def TurningLaterSaid : Prop := turningLaterRow.holds Try.pinned (OpenSpec.ofChange turningLaterSpec)

/-- ITS FALSE NEIGHBOUR: 'it returns false'. Refute it at one input. -/
def turningLaterWrong : ChangeSpec := { name := "turningLater", fn := fun _ => fun
  | [d1, d2] => { results := [.lit (.bool false)], args := [d1, d2] }
  | _ => none }
def TurningLaterWrongFalsely : Prop := turningLaterRow.holds Try.pinned (OpenSpec.ofChange turningLaterWrong)

/-- 'helioscopelaw03.TurningLoose': WHATEVER THE INPUT: true; the input reads as it did. -/
def turningLooseSpec : ChangeSpec := { name := "turningLoose", fn := fun _ => fun
  | [d1, d2] => { results := [.lit (.bool true)], args := [d1, d2] }
  | _ => none }
def turningLooseRow : OpenClaim := { program := "ytkhhbpocmmmnmaa", sum := "8bbf3d03445987cdb3117217c2ee25ae7e6273b6b0ec140f8a42442bfea3a5c3", func := "helioscope/helioscopelaw03.TurningLoose", spec := "turningLoose", unfollowed := true, recurses := true, plainKeys := false, apart := false }
def TurningLooseSaid : Prop := turningLooseRow.holds Try.pinned (OpenSpec.ofChange turningLooseSpec)

/-- ITS FALSE NEIGHBOUR: 'it returns false'. Refute it at one input. -/
def turningLooseWrong : ChangeSpec := { name := "turningLoose", fn := fun _ => fun
  | [d1, d2] => { results := [.lit (.bool false)], args := [d1, d2] }
  | _ => none }
def TurningLooseWrongFalsely : Prop := turningLooseRow.holds Try.pinned (OpenSpec.ofChange turningLooseWrong)

/-- 'helioscopelaw03.TurningAnother': WHATEVER THE INPUT: true; the input reads as it did. -/
def turningAnotherSpec : ChangeSpec := { name := "turningAnother", fn := fun _ => fun
  | [d1, d2] => { results := [.lit (.bool true)], args := [d1, d2] }
  | _ => none }
def turningAnotherRow : OpenClaim := { program := "ytkhhbpocmmmnmaa", sum := "8bbf3d03445987cdb3117217c2ee25ae7e6273b6b0ec140f8a42442bfea3a5c3", func := "helioscope/helioscopelaw03.TurningAnother", spec := "turningAnother", unfollowed := true, recurses := true, plainKeys := false, apart := false }
def TurningAnotherSaid : Prop := turningAnotherRow.holds Try.pinned (OpenSpec.ofChange turningAnotherSpec)

/-- ITS FALSE NEIGHBOUR: 'it returns false'. Refute it at one input. -/
def turningAnotherWrong : ChangeSpec := { name := "turningAnother", fn := fun _ => fun
  | [d1, d2] => { results := [.lit (.bool false)], args := [d1, d2] }
  | _ => none }
def TurningAnotherWrongFalsely : Prop := turningAnotherRow.holds Try.pinned (OpenSpec.ofChange turningAnotherWrong)

/-- 'helioscopelaw03.TurningOwn': WHATEVER THE INPUT: true; the input reads as it did. -/
def turningOwnSpec : ChangeSpec := { name := "turningOwn", fn := fun _ => fun
  | [d1, d2] => { results := [.lit (.bool true)], args := [d1, d2] }
  | _ => none }
def turningOwnRow : OpenClaim := { program := "ytkhhbpocmmmnmaa", sum := "8bbf3d03445987cdb3117217c2ee25ae7e6273b6b0ec140f8a42442bfea3a5c3", func := "helioscope/helioscopelaw03.TurningOwn", spec := "turningOwn", unfollowed := true, recurses := true, plainKeys := false, apart := false }
def TurningOwnSaid : Prop := turningOwnRow.holds Try.pinned (OpenSpec.ofChange turningOwnSpec)

/-- ITS FALSE NEIGHBOUR: 'it returns false'. Refute it at one input. -/
def turningOwnWrong : ChangeSpec := { name := "turningOwn", fn := fun _ => fun
  | [d1, d2] => { results := [.lit (.bool false)], args := [d1, d2] }
  | _ => none }
def TurningOwnWrongFalsely : Prop := turningOwnRow.holds Try.pinned (OpenSpec.ofChange turningOwnWrong)

/-- 'helioscopetop.TopAnewTurning': WHATEVER THE INPUT: true; the input reads as it did. -/
def topAnewTurningSpec : ChangeSpec := { name := "topAnewTurning", fn := fun _ => fun
  | [d] => { results := [.lit (.bool true)], args := [d] }
  | _ => none }
def topAnewTurningRow : OpenClaim := { program := "ytkhhbpocmmmnmaa", sum := "8bbf3d03445987cdb3117217c2ee25ae7e6273b6b0ec140f8a42442bfea3a5c3", func := "helioscope/helioscopetop.TopAnewTurning", spec := "topAnewTurning", unfollowed := true, recurses := true, plainKeys := false, apart := false }
def TopAnewTurningSaid : Prop := topAnewTurningRow.holds Try.pinned (OpenSpec.ofChange topAnewTurningSpec)

/-- ITS FALSE NEIGHBOUR: 'it returns false'. Refute it at one input. -/
def topAnewTurningWrong : ChangeSpec := { name := "topAnewTurning", fn := fun _ => fun
  | [d] => { results := [.lit (.bool false)], args := [d] }
  | _ => none }
def TopAnewTurningWrongFalsely : Prop := topAnewTurningRow.holds Try.pinned (OpenSpec.ofChange topAnewTurningWrong)

/- THE SECOND FORM. 'bulk': how many values and letters a reading holds, each counted each time it is reached (what is shared counts as often as it is met; a slice's spare places count too). A statement '..UptoSaid' is the law's where the arguments, and the package variables that the reading takes, are together of bulk at most 1048576: NARROWER than '..Said'. Prove '..Said' where nothing that the law and all that it calls make is longer than what came in: it says more and counts as full. Else prove '..UptoSaid'. A law counts once. -/
mutual
def uptoBulk {H : Type} : DataW H → Nat
  | .lit (.string bytes) => bytes.length + 1
  | .lit _ => 1
  | .nil => 1
  | .ptr d => uptoBulk d + 1
  | .slice elems spare => uptoBulkAll elems + uptoBulkAll spare + 1
  | .agg parts => uptoBulkAll parts + 1
  | .iface _ d => uptoBulk d + 1
  | .map entries => uptoBulkEntries entries + 1
  | .held _ => 1
def uptoBulkAll {H : Type} : List (DataW H) → Nat
  | [] => 0
  | d :: r => uptoBulk d + uptoBulkAll r
def uptoBulkEntries {H : Type} : List (Lit × DataW H) → Nat
  | [] => 0
  | x :: r => uptoBulkEntry x + uptoBulkEntries r
def uptoBulkEntry {H : Type} : Lit × DataW H → Nat
  | (.string bytes, d) => bytes.length + uptoBulk d + 1
  | (_, d) => uptoBulk d + 1
 end
def uptoSmall : (H : Type) → List (DataW H) → Bool := fun _ ds => decide (uptoBulkAll ds ≤ 1048576)
def OpenSpec.upto (s : _root_.Go.ChangeSpec) : _root_.Go.OpenSpec := { _root_.Go.OpenSpec.ofChange s with cond := some uptoSmall }

/-- 'helioscopelaw03.TurningRates', WHERE WHAT IT READS IS OF BULK AT MOST 1048576: true; the input reads as it did. -/
def turningRatesUptoRow : OpenClaim := { program := "ytkhhbpocmmmnmaa", sum := "8bbf3d03445987cdb3117217c2ee25ae7e6273b6b0ec140f8a42442bfea3a5c3", func := "helioscope/helioscopelaw03.TurningRates", spec := "turningRates", unfollowed := true, recurses := true, plainKeys := false, apart := false, narrowed := true }
def TurningRatesUptoSaid : Prop := turningRatesUptoRow.holds Try.pinned (OpenSpec.upto turningRatesSpec)

/-- 'helioscopelaw03.TurningGroups', WHERE WHAT IT READS IS OF BULK AT MOST 1048576: true; the input reads as it did. -/
def turningGroupsUptoRow : OpenClaim := { program := "ytkhhbpocmmmnmaa", sum := "8bbf3d03445987cdb3117217c2ee25ae7e6273b6b0ec140f8a42442bfea3a5c3", func := "helioscope/helioscopelaw03.TurningGroups", spec := "turningGroups", unfollowed := true, recurses := true, plainKeys := false, apart := false, narrowed := true }
def TurningGroupsUptoSaid : Prop := turningGroupsUptoRow.holds Try.pinned (OpenSpec.upto turningGroupsSpec)

/-- 'helioscopelaw03.TurningPlaces', WHERE WHAT IT READS IS OF BULK AT MOST 1048576: true; the input reads as it did. -/
def turningPlacesUptoRow : OpenClaim := { program := "ytkhhbpocmmmnmaa", sum := "8bbf3d03445987cdb3117217c2ee25ae7e6273b6b0ec140f8a42442bfea3a5c3", func := "helioscope/helioscopelaw03.TurningPlaces", spec := "turningPlaces", unfollowed := true, recurses := true, plainKeys := false, apart := false, narrowed := true }
def TurningPlacesUptoSaid : Prop := turningPlacesUptoRow.holds Try.pinned (OpenSpec.upto turningPlacesSpec)

/-- 'helioscopelaw03.TurningWrongs', WHERE WHAT IT READS IS OF BULK AT MOST 1048576: true; the input reads as it did. -/
def turningWrongsUptoRow : OpenClaim := { program := "ytkhhbpocmmmnmaa", sum := "8bbf3d03445987cdb3117217c2ee25ae7e6273b6b0ec140f8a42442bfea3a5c3", func := "helioscope/helioscopelaw03.TurningWrongs", spec := "turningWrongs", unfollowed := true, recurses := true, plainKeys := false, apart := false, narrowed := true }
def TurningWrongsUptoSaid : Prop := turningWrongsUptoRow.holds Try.pinned (OpenSpec.upto turningWrongsSpec)

/-- 'helioscopelaw03.TurningKnown', WHERE WHAT IT READS IS OF BULK AT MOST 1048576: true; the input reads as it did. -/
def turningKnownUptoRow : OpenClaim := { program := "ytkhhbpocmmmnmaa", sum := "8bbf3d03445987cdb3117217c2ee25ae7e6273b6b0ec140f8a42442bfea3a5c3", func := "helioscope/helioscopelaw03.TurningKnown", spec := "turningKnown", unfollowed := true, recurses := true, plainKeys := false, apart := false, narrowed := true }
def TurningKnownUptoSaid : Prop := turningKnownUptoRow.holds Try.pinned (OpenSpec.upto turningKnownSpec)

/-- 'helioscopelaw03.TurningTrue', WHERE WHAT IT READS IS OF BULK AT MOST 1048576: true; the input reads as it did. -/
def turningTrueUptoRow : OpenClaim := { program := "ytkhhbpocmmmnmaa", sum := "8bbf3d03445987cdb3117217c2ee25ae7e6273b6b0ec140f8a42442bfea3a5c3", func := "helioscope/helioscopelaw03.TurningTrue", spec := "turningTrue", unfollowed := true, recurses := true, plainKeys := false, apart := false, narrowed := true }
def TurningTrueUptoSaid : Prop := turningTrueUptoRow.holds Try.pinned (OpenSpec.upto turningTrueSpec)

/-- 'helioscopelaw03.TurningFewest', WHERE WHAT IT READS IS OF BULK AT MOST 1048576: true; the input reads as it did. -/
def turningFewestUptoRow : OpenClaim := { program := "ytkhhbpocmmmnmaa", sum := "8bbf3d03445987cdb3117217c2ee25ae7e6273b6b0ec140f8a42442bfea3a5c3", func := "helioscope/helioscopelaw03.TurningFewest", spec := "turningFewest", unfollowed := true, recurses := true, plainKeys := false, apart := false, narrowed := true }
def TurningFewestUptoSaid : Prop := turningFewestUptoRow.holds Try.pinned (OpenSpec.upto turningFewestSpec)

/-- 'helioscopelaw03.TurningHanded', WHERE WHAT IT READS IS OF BULK AT MOST 1048576: true; the input reads as it did. -/
def turningHandedUptoRow : OpenClaim := { program := "ytkhhbpocmmmnmaa", sum := "8bbf3d03445987cdb3117217c2ee25ae7e6273b6b0ec140f8a42442bfea3a5c3", func := "helioscope/helioscopelaw03.TurningHanded", spec := "turningHanded", unfollowed := true, recurses := true, plainKeys := false, apart := false, narrowed := true }
def TurningHandedUptoSaid : Prop := turningHandedUptoRow.holds Try.pinned (OpenSpec.upto turningHandedSpec)

/-- 'helioscopelaw03.TurningWrong', WHERE WHAT IT READS IS OF BULK AT MOST 1048576: true; the input reads as it did. -/
def turningWrongUptoRow : OpenClaim := { program := "ytkhhbpocmmmnmaa", sum := "8bbf3d03445987cdb3117217c2ee25ae7e6273b6b0ec140f8a42442bfea3a5c3", func := "helioscope/helioscopelaw03.TurningWrong", spec := "turningWrong", unfollowed := true, recurses := true, plainKeys := false, apart := false, narrowed := true }
def TurningWrongUptoSaid : Prop := turningWrongUptoRow.holds Try.pinned (OpenSpec.upto turningWrongSpec)

/-- 'helioscopelaw03.TurningMore', WHERE WHAT IT READS IS OF BULK AT MOST 1048576: true; the input reads as it did. -/
def turningMoreUptoRow : OpenClaim := { program := "ytkhhbpocmmmnmaa", sum := "8bbf3d03445987cdb3117217c2ee25ae7e6273b6b0ec140f8a42442bfea3a5c3", func := "helioscope/helioscopelaw03.TurningMore", spec := "turningMore", unfollowed := true, recurses := true, plainKeys := false, apart := false, narrowed := true }
def TurningMoreUptoSaid : Prop := turningMoreUptoRow.holds Try.pinned (OpenSpec.upto turningMoreSpec)

/-- 'helioscopelaw03.TurningFaster', WHERE WHAT IT READS IS OF BULK AT MOST 1048576: true; the input reads as it did. -/
def turningFasterUptoRow : OpenClaim := { program := "ytkhhbpocmmmnmaa", sum := "8bbf3d03445987cdb3117217c2ee25ae7e6273b6b0ec140f8a42442bfea3a5c3", func := "helioscope/helioscopelaw03.TurningFaster", spec := "turningFaster", unfollowed := true, recurses := true, plainKeys := false, apart := false, narrowed := true }
def TurningFasterUptoSaid : Prop := turningFasterUptoRow.holds Try.pinned (OpenSpec.upto turningFasterSpec)

/-- 'helioscopelaw03.TurningLater', WHERE WHAT IT READS IS OF BULK AT MOST 1048576: true; the input reads as it did. -/
def turningLaterUptoRow : OpenClaim := { program := "ytkhhbpocmmmnmaa", sum := "8bbf3d03445987cdb3117217c2ee25ae7e6273b6b0ec140f8a42442bfea3a5c3", func := "helioscope/helioscopelaw03.TurningLater", spec := "turningLater", unfollowed := true, recurses := true, plainKeys := false, apart := false, narrowed := true }
def TurningLaterUptoSaid : Prop := turningLaterUptoRow.holds Try.pinned (OpenSpec.upto turningLaterSpec)

/-- 'helioscopelaw03.TurningLoose', WHERE WHAT IT READS IS OF BULK AT MOST 1048576: true; the input reads as it did. -/
def turningLooseUptoRow : OpenClaim := { program := "ytkhhbpocmmmnmaa", sum := "8bbf3d03445987cdb3117217c2ee25ae7e6273b6b0ec140f8a42442bfea3a5c3", func := "helioscope/helioscopelaw03.TurningLoose", spec := "turningLoose", unfollowed := true, recurses := true, plainKeys := false, apart := false, narrowed := true }
def TurningLooseUptoSaid : Prop := turningLooseUptoRow.holds Try.pinned (OpenSpec.upto turningLooseSpec)

/-- 'helioscopelaw03.TurningAnother', WHERE WHAT IT READS IS OF BULK AT MOST 1048576: true; the input reads as it did. -/
def turningAnotherUptoRow : OpenClaim := { program := "ytkhhbpocmmmnmaa", sum := "8bbf3d03445987cdb3117217c2ee25ae7e6273b6b0ec140f8a42442bfea3a5c3", func := "helioscope/helioscopelaw03.TurningAnother", spec := "turningAnother", unfollowed := true, recurses := true, plainKeys := false, apart := false, narrowed := true }
def TurningAnotherUptoSaid : Prop := turningAnotherUptoRow.holds Try.pinned (OpenSpec.upto turningAnotherSpec)

/-- 'helioscopelaw03.TurningOwn', WHERE WHAT IT READS IS OF BULK AT MOST 1048576: true; the input reads as it did. -/
def turningOwnUptoRow : OpenClaim := { program := "ytkhhbpocmmmnmaa", sum := "8bbf3d03445987cdb3117217c2ee25ae7e6273b6b0ec140f8a42442bfea3a5c3", func := "helioscope/helioscopelaw03.TurningOwn", spec := "turningOwn", unfollowed := true, recurses := true, plainKeys := false, apart := false, narrowed := true }
def TurningOwnUptoSaid : Prop := turningOwnUptoRow.holds Try.pinned (OpenSpec.upto turningOwnSpec)

/-- 'helioscopetop.TopAnewTurning', WHERE WHAT IT READS IS OF BULK AT MOST 1048576: true; the input reads as it did. -/
def topAnewTurningUptoRow : OpenClaim := { program := "ytkhhbpocmmmnmaa", sum := "8bbf3d03445987cdb3117217c2ee25ae7e6273b6b0ec140f8a42442bfea3a5c3", func := "helioscope/helioscopetop.TopAnewTurning", spec := "topAnewTurning", unfollowed := true, recurses := true, plainKeys := false, apart := false, narrowed := true }
def TopAnewTurningUptoSaid : Prop := topAnewTurningUptoRow.holds Try.pinned (OpenSpec.upto topAnewTurningSpec)

end Rows
end Go.Proofs.Ytkhhbpocmmmnmaa
