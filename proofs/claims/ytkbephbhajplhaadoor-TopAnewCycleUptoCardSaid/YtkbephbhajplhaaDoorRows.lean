/-
  NARROWER THAN 'FOR EVERY INPUT', by the rows' own cells (each row's printed sentence says how): CycleNumbers: laid · CycleTurns: laid · CycleWrecks: laid · CycleWrongs: laid · CycleKnown: laid · CycleTrue: laid · CycleEnds: laid · CycleFewest: laid · CycleMore: laid · CycleApart: laid · CycleBack: laid · CycleWider: laid · CycleMeans: laid · TopAnewCycle: laid.
  DERIVED. THE GIVEN ROWS OF THIS SEAT. 14 by the template 'for every input the law returns true; each argument reads behind the call as it read before'; 0 by the template 'total and deterministic' (their statements: YtkbephbhajplhaaDoorTotals.lean).
  GIVEN WITH THE SEED: the statements are not yours to turn. If you find one false, say at which input.
  Laid BY PROGRAM, IN A SANDBOX (cutbox-rows.mjs): the forced cells as the released guide's own fill.sh prints them over the translation 9e37bf0cbc1eafd4… (all of the seat's roots in one cut). By AI agents, Wed Nov 11 2026. No macro, syntax, notation, axiom, sorry.
-/
import Derived.Test.YtkbephbhajplhaaDoorChecked
import GoSem.Claim
import GoSem.ClaimJoined
import GoSem.ClaimMapViews
import Derived.JoinedTies
import Derived.KernelRfl
namespace Go.Proofs.YtkbephbhajplhaaDoor
/- THE CELL 'sum', in the pinned program and in every row, IS THE sha256 OF THE DUMP (.gsa) THAT YtkbephbhajplhaaDoorProg.lean LOADS. Nothing in Lean hashes anything: it is a label: what it is worth is what the hold of that sum in a sandbox is worth. -/
noncomputable def Tryd.pinned : Pinned := { name := "ytkbephbhajplhaadoor", sum := "9e37bf0cbc1eafd43aed8121c211e90ab1ccc749f6bf2837450a4c49030e89d3", checked := Tryd.checked }
namespace Rows
def none {H : Type} : Left H := { results := [], args := [] }

/- WHAT THE LISTED PACKAGE-LEVEL VARIABLES READ AS WHEN THE CALL BEGINS. Each datum BY PROGRAM (the guide's laid-datum.mjs) off the statement by which the dump's own 'gosem.cut.vars' lays the variable. In a bare row this is a premise. The card (YtkbephbhajplhaaDoorCards.lean) ties it to the program's text. -/
def laid_helioscope_cycle_none {H : Type} : DataW H := .agg [.lit (.int .i64 1099511627776), .lit (.int .i64 (-1))]

/-- 'helioscopelaw10.CycleNumbers': WHATEVER THE INPUT: true; the input reads as it did. -/
def cycleNumbersSpec : ChangeSpec := { name := "cycleNumbers", fn := fun _ => fun
  | [d1, d2] => { results := [.lit (.bool true)], args := [d1, d2] }
  | _ => none }
def cycleNumbersRow : OpenClaim := { program := "ytkbephbhajplhaadoor", sum := "9e37bf0cbc1eafd43aed8121c211e90ab1ccc749f6bf2837450a4c49030e89d3", func := "helioscope/helioscopelaw10.CycleNumbers", spec := "cycleNumbers", unfollowed := true, recurses := true, named := ["helioscope/cycle.none"], plainKeys := false, apart := false, laid := [("helioscope/cycle.none", laid_helioscope_cycle_none)] }
def CycleNumbersSaid : Prop := cycleNumbersRow.holds Tryd.pinned (OpenSpec.ofChange cycleNumbersSpec)

/-- ITS FALSE NEIGHBOUR: 'it returns false'. Refute it at one input. -/
def cycleNumbersWrong : ChangeSpec := { name := "cycleNumbers", fn := fun _ => fun
  | [d1, d2] => { results := [.lit (.bool false)], args := [d1, d2] }
  | _ => none }
def CycleNumbersWrongFalsely : Prop := cycleNumbersRow.holds Tryd.pinned (OpenSpec.ofChange cycleNumbersWrong)

/-- 'helioscopelaw10.CycleTurns': WHATEVER THE INPUT: true; the input reads as it did. -/
def cycleTurnsSpec : ChangeSpec := { name := "cycleTurns", fn := fun _ => fun
  | [d1, d2] => { results := [.lit (.bool true)], args := [d1, d2] }
  | _ => none }
def cycleTurnsRow : OpenClaim := { program := "ytkbephbhajplhaadoor", sum := "9e37bf0cbc1eafd43aed8121c211e90ab1ccc749f6bf2837450a4c49030e89d3", func := "helioscope/helioscopelaw10.CycleTurns", spec := "cycleTurns", unfollowed := true, recurses := true, named := ["helioscope/cycle.none"], plainKeys := false, apart := false, laid := [("helioscope/cycle.none", laid_helioscope_cycle_none)] }
def CycleTurnsSaid : Prop := cycleTurnsRow.holds Tryd.pinned (OpenSpec.ofChange cycleTurnsSpec)

/-- ITS FALSE NEIGHBOUR: 'it returns false'. Refute it at one input. -/
def cycleTurnsWrong : ChangeSpec := { name := "cycleTurns", fn := fun _ => fun
  | [d1, d2] => { results := [.lit (.bool false)], args := [d1, d2] }
  | _ => none }
def CycleTurnsWrongFalsely : Prop := cycleTurnsRow.holds Tryd.pinned (OpenSpec.ofChange cycleTurnsWrong)

/-- 'helioscopelaw10.CycleWrecks': WHATEVER THE INPUT: true; the input reads as it did. -/
def cycleWrecksSpec : ChangeSpec := { name := "cycleWrecks", fn := fun _ => fun
  | [d1, d2, d3] => { results := [.lit (.bool true)], args := [d1, d2, d3] }
  | _ => none }
def cycleWrecksRow : OpenClaim := { program := "ytkbephbhajplhaadoor", sum := "9e37bf0cbc1eafd43aed8121c211e90ab1ccc749f6bf2837450a4c49030e89d3", func := "helioscope/helioscopelaw10.CycleWrecks", spec := "cycleWrecks", unfollowed := true, recurses := true, named := ["helioscope/cycle.none"], plainKeys := false, apart := false, laid := [("helioscope/cycle.none", laid_helioscope_cycle_none)] }
def CycleWrecksSaid : Prop := cycleWrecksRow.holds Tryd.pinned (OpenSpec.ofChange cycleWrecksSpec)

/-- ITS FALSE NEIGHBOUR: 'it returns false'. Refute it at one input. -/
def cycleWrecksWrong : ChangeSpec := { name := "cycleWrecks", fn := fun _ => fun
  | [d1, d2, d3] => { results := [.lit (.bool false)], args := [d1, d2, d3] }
  | _ => none }
def CycleWrecksWrongFalsely : Prop := cycleWrecksRow.holds Tryd.pinned (OpenSpec.ofChange cycleWrecksWrong)

/-- 'helioscopelaw10.CycleWrongs': WHATEVER THE INPUT: true; the input reads as it did. -/
def cycleWrongsSpec : ChangeSpec := { name := "cycleWrongs", fn := fun _ => fun
  | [d] => { results := [.lit (.bool true)], args := [d] }
  | _ => none }
def cycleWrongsRow : OpenClaim := { program := "ytkbephbhajplhaadoor", sum := "9e37bf0cbc1eafd43aed8121c211e90ab1ccc749f6bf2837450a4c49030e89d3", func := "helioscope/helioscopelaw10.CycleWrongs", spec := "cycleWrongs", unfollowed := true, recurses := true, named := ["helioscope/cycle.none"], plainKeys := false, apart := false, laid := [("helioscope/cycle.none", laid_helioscope_cycle_none)] }
def CycleWrongsSaid : Prop := cycleWrongsRow.holds Tryd.pinned (OpenSpec.ofChange cycleWrongsSpec)

/-- ITS FALSE NEIGHBOUR: 'it returns false'. Refute it at one input. -/
def cycleWrongsWrong : ChangeSpec := { name := "cycleWrongs", fn := fun _ => fun
  | [d] => { results := [.lit (.bool false)], args := [d] }
  | _ => none }
def CycleWrongsWrongFalsely : Prop := cycleWrongsRow.holds Tryd.pinned (OpenSpec.ofChange cycleWrongsWrong)

/-- 'helioscopelaw10.CycleKnown': WHATEVER THE INPUT: true; the input reads as it did. -/
def cycleKnownSpec : ChangeSpec := { name := "cycleKnown", fn := fun _ => fun
  | [] => { results := [.lit (.bool true)], args := [] }
  | _ => none }
def cycleKnownRow : OpenClaim := { program := "ytkbephbhajplhaadoor", sum := "9e37bf0cbc1eafd43aed8121c211e90ab1ccc749f6bf2837450a4c49030e89d3", func := "helioscope/helioscopelaw10.CycleKnown", spec := "cycleKnown", unfollowed := true, recurses := true, named := ["helioscope/cycle.none"], plainKeys := false, apart := false, laid := [("helioscope/cycle.none", laid_helioscope_cycle_none)] }
def CycleKnownSaid : Prop := cycleKnownRow.holds Tryd.pinned (OpenSpec.ofChange cycleKnownSpec)

/-- ITS FALSE NEIGHBOUR: 'it returns false'. Refute it at one input. -/
def cycleKnownWrong : ChangeSpec := { name := "cycleKnown", fn := fun _ => fun
  | [] => { results := [.lit (.bool false)], args := [] }
  | _ => none }
def CycleKnownWrongFalsely : Prop := cycleKnownRow.holds Tryd.pinned (OpenSpec.ofChange cycleKnownWrong)

/-- 'helioscopelaw10.CycleTrue': WHATEVER THE INPUT: true; the input reads as it did. -/
def cycleTrueSpec : ChangeSpec := { name := "cycleTrue", fn := fun _ => fun
  | [d1, d2, d3] => { results := [.lit (.bool true)], args := [d1, d2, d3] }
  | _ => none }
def cycleTrueRow : OpenClaim := { program := "ytkbephbhajplhaadoor", sum := "9e37bf0cbc1eafd43aed8121c211e90ab1ccc749f6bf2837450a4c49030e89d3", func := "helioscope/helioscopelaw10.CycleTrue", spec := "cycleTrue", unfollowed := true, recurses := true, named := ["helioscope/cycle.none"], plainKeys := false, apart := false, laid := [("helioscope/cycle.none", laid_helioscope_cycle_none)] }
def CycleTrueSaid : Prop := cycleTrueRow.holds Tryd.pinned (OpenSpec.ofChange cycleTrueSpec)

/-- ITS FALSE NEIGHBOUR: 'it returns false'. Refute it at one input. -/
def cycleTrueWrong : ChangeSpec := { name := "cycleTrue", fn := fun _ => fun
  | [d1, d2, d3] => { results := [.lit (.bool false)], args := [d1, d2, d3] }
  | _ => none }
def CycleTrueWrongFalsely : Prop := cycleTrueRow.holds Tryd.pinned (OpenSpec.ofChange cycleTrueWrong)

/-- 'helioscopelaw10.CycleEnds': WHATEVER THE INPUT: true; the input reads as it did. -/
def cycleEndsSpec : ChangeSpec := { name := "cycleEnds", fn := fun _ => fun
  | [d1, d2, d3] => { results := [.lit (.bool true)], args := [d1, d2, d3] }
  | _ => none }
def cycleEndsRow : OpenClaim := { program := "ytkbephbhajplhaadoor", sum := "9e37bf0cbc1eafd43aed8121c211e90ab1ccc749f6bf2837450a4c49030e89d3", func := "helioscope/helioscopelaw10.CycleEnds", spec := "cycleEnds", unfollowed := true, recurses := true, named := ["helioscope/cycle.none"], plainKeys := false, apart := false, laid := [("helioscope/cycle.none", laid_helioscope_cycle_none)] }
def CycleEndsSaid : Prop := cycleEndsRow.holds Tryd.pinned (OpenSpec.ofChange cycleEndsSpec)

/-- ITS FALSE NEIGHBOUR: 'it returns false'. Refute it at one input. -/
def cycleEndsWrong : ChangeSpec := { name := "cycleEnds", fn := fun _ => fun
  | [d1, d2, d3] => { results := [.lit (.bool false)], args := [d1, d2, d3] }
  | _ => none }
def CycleEndsWrongFalsely : Prop := cycleEndsRow.holds Tryd.pinned (OpenSpec.ofChange cycleEndsWrong)

/-- 'helioscopelaw10.CycleFewest': WHATEVER THE INPUT: true; the input reads as it did. -/
def cycleFewestSpec : ChangeSpec := { name := "cycleFewest", fn := fun _ => fun
  | [d1, d2] => { results := [.lit (.bool true)], args := [d1, d2] }
  | _ => none }
def cycleFewestRow : OpenClaim := { program := "ytkbephbhajplhaadoor", sum := "9e37bf0cbc1eafd43aed8121c211e90ab1ccc749f6bf2837450a4c49030e89d3", func := "helioscope/helioscopelaw10.CycleFewest", spec := "cycleFewest", unfollowed := true, recurses := true, named := ["helioscope/cycle.none"], plainKeys := false, apart := false, laid := [("helioscope/cycle.none", laid_helioscope_cycle_none)] }
def CycleFewestSaid : Prop := cycleFewestRow.holds Tryd.pinned (OpenSpec.ofChange cycleFewestSpec)

/-- ITS FALSE NEIGHBOUR: 'it returns false'. Refute it at one input. -/
def cycleFewestWrong : ChangeSpec := { name := "cycleFewest", fn := fun _ => fun
  | [d1, d2] => { results := [.lit (.bool false)], args := [d1, d2] }
  | _ => none }
def CycleFewestWrongFalsely : Prop := cycleFewestRow.holds Tryd.pinned (OpenSpec.ofChange cycleFewestWrong)

/-- 'helioscopelaw10.CycleMore': WHATEVER THE INPUT: true; the input reads as it did. -/
def cycleMoreSpec : ChangeSpec := { name := "cycleMore", fn := fun _ => fun
  | [d1, d2, d3] => { results := [.lit (.bool true)], args := [d1, d2, d3] }
  | _ => none }
def cycleMoreRow : OpenClaim := { program := "ytkbephbhajplhaadoor", sum := "9e37bf0cbc1eafd43aed8121c211e90ab1ccc749f6bf2837450a4c49030e89d3", func := "helioscope/helioscopelaw10.CycleMore", spec := "cycleMore", unfollowed := true, recurses := true, named := ["helioscope/cycle.none"], plainKeys := false, apart := false, laid := [("helioscope/cycle.none", laid_helioscope_cycle_none)] }
def CycleMoreSaid : Prop := cycleMoreRow.holds Tryd.pinned (OpenSpec.ofChange cycleMoreSpec)

/-- ITS FALSE NEIGHBOUR: 'it returns false'. Refute it at one input. -/
def cycleMoreWrong : ChangeSpec := { name := "cycleMore", fn := fun _ => fun
  | [d1, d2, d3] => { results := [.lit (.bool false)], args := [d1, d2, d3] }
  | _ => none }
def CycleMoreWrongFalsely : Prop := cycleMoreRow.holds Tryd.pinned (OpenSpec.ofChange cycleMoreWrong)

/-- 'helioscopelaw10.CycleApart': WHATEVER THE INPUT: true; the input reads as it did. -/
def cycleApartSpec : ChangeSpec := { name := "cycleApart", fn := fun _ => fun
  | [d] => { results := [.lit (.bool true)], args := [d] }
  | _ => none }
def cycleApartRow : OpenClaim := { program := "ytkbephbhajplhaadoor", sum := "9e37bf0cbc1eafd43aed8121c211e90ab1ccc749f6bf2837450a4c49030e89d3", func := "helioscope/helioscopelaw10.CycleApart", spec := "cycleApart", unfollowed := true, recurses := true, named := ["helioscope/cycle.none"], plainKeys := false, apart := false, laid := [("helioscope/cycle.none", laid_helioscope_cycle_none)] }
def CycleApartSaid : Prop := cycleApartRow.holds Tryd.pinned (OpenSpec.ofChange cycleApartSpec)

/-- ITS FALSE NEIGHBOUR: 'it returns false'. Refute it at one input. -/
def cycleApartWrong : ChangeSpec := { name := "cycleApart", fn := fun _ => fun
  | [d] => { results := [.lit (.bool false)], args := [d] }
  | _ => none }
def CycleApartWrongFalsely : Prop := cycleApartRow.holds Tryd.pinned (OpenSpec.ofChange cycleApartWrong)

/-- 'helioscopelaw10.CycleBack': WHATEVER THE INPUT: true; the input reads as it did. -/
def cycleBackSpec : ChangeSpec := { name := "cycleBack", fn := fun _ => fun
  | [d] => { results := [.lit (.bool true)], args := [d] }
  | _ => none }
def cycleBackRow : OpenClaim := { program := "ytkbephbhajplhaadoor", sum := "9e37bf0cbc1eafd43aed8121c211e90ab1ccc749f6bf2837450a4c49030e89d3", func := "helioscope/helioscopelaw10.CycleBack", spec := "cycleBack", unfollowed := true, recurses := true, named := ["helioscope/cycle.none"], plainKeys := false, apart := false, laid := [("helioscope/cycle.none", laid_helioscope_cycle_none)] }
def CycleBackSaid : Prop := cycleBackRow.holds Tryd.pinned (OpenSpec.ofChange cycleBackSpec)

/-- ITS FALSE NEIGHBOUR: 'it returns false'. Refute it at one input. -/
def cycleBackWrong : ChangeSpec := { name := "cycleBack", fn := fun _ => fun
  | [d] => { results := [.lit (.bool false)], args := [d] }
  | _ => none }
def CycleBackWrongFalsely : Prop := cycleBackRow.holds Tryd.pinned (OpenSpec.ofChange cycleBackWrong)

/-- 'helioscopelaw10.CycleWider': WHATEVER THE INPUT: true; the input reads as it did. -/
def cycleWiderSpec : ChangeSpec := { name := "cycleWider", fn := fun _ => fun
  | [d1, d2] => { results := [.lit (.bool true)], args := [d1, d2] }
  | _ => none }
def cycleWiderRow : OpenClaim := { program := "ytkbephbhajplhaadoor", sum := "9e37bf0cbc1eafd43aed8121c211e90ab1ccc749f6bf2837450a4c49030e89d3", func := "helioscope/helioscopelaw10.CycleWider", spec := "cycleWider", unfollowed := true, recurses := true, named := ["helioscope/cycle.none"], plainKeys := false, apart := false, laid := [("helioscope/cycle.none", laid_helioscope_cycle_none)] }
def CycleWiderSaid : Prop := cycleWiderRow.holds Tryd.pinned (OpenSpec.ofChange cycleWiderSpec)

/-- ITS FALSE NEIGHBOUR: 'it returns false'. Refute it at one input. -/
def cycleWiderWrong : ChangeSpec := { name := "cycleWider", fn := fun _ => fun
  | [d1, d2] => { results := [.lit (.bool false)], args := [d1, d2] }
  | _ => none }
def CycleWiderWrongFalsely : Prop := cycleWiderRow.holds Tryd.pinned (OpenSpec.ofChange cycleWiderWrong)

/-- 'helioscopelaw10.CycleMeans': WHATEVER THE INPUT: true; the input reads as it did. -/
def cycleMeansSpec : ChangeSpec := { name := "cycleMeans", fn := fun _ => fun
  | [d1, d2] => { results := [.lit (.bool true)], args := [d1, d2] }
  | _ => none }
def cycleMeansRow : OpenClaim := { program := "ytkbephbhajplhaadoor", sum := "9e37bf0cbc1eafd43aed8121c211e90ab1ccc749f6bf2837450a4c49030e89d3", func := "helioscope/helioscopelaw10.CycleMeans", spec := "cycleMeans", unfollowed := true, recurses := true, named := ["helioscope/cycle.none"], plainKeys := false, apart := false, laid := [("helioscope/cycle.none", laid_helioscope_cycle_none)] }
def CycleMeansSaid : Prop := cycleMeansRow.holds Tryd.pinned (OpenSpec.ofChange cycleMeansSpec)

/-- ITS FALSE NEIGHBOUR: 'it returns false'. Refute it at one input. -/
def cycleMeansWrong : ChangeSpec := { name := "cycleMeans", fn := fun _ => fun
  | [d1, d2] => { results := [.lit (.bool false)], args := [d1, d2] }
  | _ => none }
def CycleMeansWrongFalsely : Prop := cycleMeansRow.holds Tryd.pinned (OpenSpec.ofChange cycleMeansWrong)

/-- 'helioscopetop.TopAnewCycle': WHATEVER THE INPUT: true; the input reads as it did. -/
def topAnewCycleSpec : ChangeSpec := { name := "topAnewCycle", fn := fun _ => fun
  | [d] => { results := [.lit (.bool true)], args := [d] }
  | _ => none }
def topAnewCycleRow : OpenClaim := { program := "ytkbephbhajplhaadoor", sum := "9e37bf0cbc1eafd43aed8121c211e90ab1ccc749f6bf2837450a4c49030e89d3", func := "helioscope/helioscopetop.TopAnewCycle", spec := "topAnewCycle", unfollowed := true, recurses := true, named := ["helioscope/cycle.none"], plainKeys := false, apart := false, laid := [("helioscope/cycle.none", laid_helioscope_cycle_none)] }
def TopAnewCycleSaid : Prop := topAnewCycleRow.holds Tryd.pinned (OpenSpec.ofChange topAnewCycleSpec)

/-- ITS FALSE NEIGHBOUR: 'it returns false'. Refute it at one input. -/
def topAnewCycleWrong : ChangeSpec := { name := "topAnewCycle", fn := fun _ => fun
  | [d] => { results := [.lit (.bool false)], args := [d] }
  | _ => none }
def TopAnewCycleWrongFalsely : Prop := topAnewCycleRow.holds Tryd.pinned (OpenSpec.ofChange topAnewCycleWrong)

/- THE SECOND FORM. 'bulk': how many values and letters a reading holds, each counted each time it is reached (what is shared counts as often as it is met; a slice's spare places count too). A statement '..UptoSaid' is the law's where the arguments, and the package variables that the reading takes, are together of bulk at most 1048576: NARROWER than '..Said'. Prove '..Said' where nothing that the law and all that it calls make is longer than what came in: it says more and counts as full. Else prove '..UptoSaid'. A law counts once. -/
mutual
def uptoBulk {H : Type} : DataW H → Nat
  | .lit (.string bytes) => bytes.length + 1
  | .lit _ => 1
  | .nil => 1
  | .ptr d => uptoBulk d + 1
  | .slice elems spare => uptoBulkAll elems + uptoBulkAll spare + 1
  | .agg parts => uptoBulkAll parts + 1
  | .iface _ d => uptoBulk d + 1
  | .map entries => uptoBulkEntries entries + 1
  | .held _ => 1
def uptoBulkAll {H : Type} : List (DataW H) → Nat
  | [] => 0
  | d :: r => uptoBulk d + uptoBulkAll r
def uptoBulkEntries {H : Type} : List (Lit × DataW H) → Nat
  | [] => 0
  | x :: r => uptoBulkEntry x + uptoBulkEntries r
def uptoBulkEntry {H : Type} : Lit × DataW H → Nat
  | (.string bytes, d) => bytes.length + uptoBulk d + 1
  | (_, d) => uptoBulk d + 1
 end
def uptoSmall : (H : Type) → List (DataW H) → Bool := fun _ ds => decide (uptoBulkAll ds ≤ 1048576)
def OpenSpec.upto (s : _root_.Go.ChangeSpec) : _root_.Go.OpenSpec := { _root_.Go.OpenSpec.ofChange s with cond := some uptoSmall }

/-- 'helioscopelaw10.CycleNumbers', WHERE WHAT IT READS IS OF BULK AT MOST 1048576: true; the input reads as it did. -/
def cycleNumbersUptoRow : OpenClaim := { program := "ytkbephbhajplhaadoor", sum := "9e37bf0cbc1eafd43aed8121c211e90ab1ccc749f6bf2837450a4c49030e89d3", func := "helioscope/helioscopelaw10.CycleNumbers", spec := "cycleNumbers", unfollowed := true, recurses := true, named := ["helioscope/cycle.none"], plainKeys := false, apart := false, laid := [("helioscope/cycle.none", laid_helioscope_cycle_none)], narrowed := true }
def CycleNumbersUptoSaid : Prop := cycleNumbersUptoRow.holds Tryd.pinned (OpenSpec.upto cycleNumbersSpec)

/-- 'helioscopelaw10.CycleTurns', WHERE WHAT IT READS IS OF BULK AT MOST 1048576: true; the input reads as it did. -/
def cycleTurnsUptoRow : OpenClaim := { program := "ytkbephbhajplhaadoor", sum := "9e37bf0cbc1eafd43aed8121c211e90ab1ccc749f6bf2837450a4c49030e89d3", func := "helioscope/helioscopelaw10.CycleTurns", spec := "cycleTurns", unfollowed := true, recurses := true, named := ["helioscope/cycle.none"], plainKeys := false, apart := false, laid := [("helioscope/cycle.none", laid_helioscope_cycle_none)], narrowed := true }
def CycleTurnsUptoSaid : Prop := cycleTurnsUptoRow.holds Tryd.pinned (OpenSpec.upto cycleTurnsSpec)

/-- 'helioscopelaw10.CycleWrecks', WHERE WHAT IT READS IS OF BULK AT MOST 1048576: true; the input reads as it did. -/
def cycleWrecksUptoRow : OpenClaim := { program := "ytkbephbhajplhaadoor", sum := "9e37bf0cbc1eafd43aed8121c211e90ab1ccc749f6bf2837450a4c49030e89d3", func := "helioscope/helioscopelaw10.CycleWrecks", spec := "cycleWrecks", unfollowed := true, recurses := true, named := ["helioscope/cycle.none"], plainKeys := false, apart := false, laid := [("helioscope/cycle.none", laid_helioscope_cycle_none)], narrowed := true }
def CycleWrecksUptoSaid : Prop := cycleWrecksUptoRow.holds Tryd.pinned (OpenSpec.upto cycleWrecksSpec)

/-- 'helioscopelaw10.CycleWrongs', WHERE WHAT IT READS IS OF BULK AT MOST 1048576: true; the input reads as it did. -/
def cycleWrongsUptoRow : OpenClaim := { program := "ytkbephbhajplhaadoor", sum := "9e37bf0cbc1eafd43aed8121c211e90ab1ccc749f6bf2837450a4c49030e89d3", func := "helioscope/helioscopelaw10.CycleWrongs", spec := "cycleWrongs", unfollowed := true, recurses := true, named := ["helioscope/cycle.none"], plainKeys := false, apart := false, laid := [("helioscope/cycle.none", laid_helioscope_cycle_none)], narrowed := true }
def CycleWrongsUptoSaid : Prop := cycleWrongsUptoRow.holds Tryd.pinned (OpenSpec.upto cycleWrongsSpec)

/-- 'helioscopelaw10.CycleKnown', WHERE WHAT IT READS IS OF BULK AT MOST 1048576: true; the input reads as it did. -/
def cycleKnownUptoRow : OpenClaim := { program := "ytkbephbhajplhaadoor", sum := "9e37bf0cbc1eafd43aed8121c211e90ab1ccc749f6bf2837450a4c49030e89d3", func := "helioscope/helioscopelaw10.CycleKnown", spec := "cycleKnown", unfollowed := true, recurses := true, named := ["helioscope/cycle.none"], plainKeys := false, apart := false, laid := [("helioscope/cycle.none", laid_helioscope_cycle_none)], narrowed := true }
def CycleKnownUptoSaid : Prop := cycleKnownUptoRow.holds Tryd.pinned (OpenSpec.upto cycleKnownSpec)

/-- 'helioscopelaw10.CycleTrue', WHERE WHAT IT READS IS OF BULK AT MOST 1048576: true; the input reads as it did. -/
def cycleTrueUptoRow : OpenClaim := { program := "ytkbephbhajplhaadoor", sum := "9e37bf0cbc1eafd43aed8121c211e90ab1ccc749f6bf2837450a4c49030e89d3", func := "helioscope/helioscopelaw10.CycleTrue", spec := "cycleTrue", unfollowed := true, recurses := true, named := ["helioscope/cycle.none"], plainKeys := false, apart := false, laid := [("helioscope/cycle.none", laid_helioscope_cycle_none)], narrowed := true }
def CycleTrueUptoSaid : Prop := cycleTrueUptoRow.holds Tryd.pinned (OpenSpec.upto cycleTrueSpec)

/-- 'helioscopelaw10.CycleEnds', WHERE WHAT IT READS IS OF BULK AT MOST 1048576: true; the input reads as it did. -/
def cycleEndsUptoRow : OpenClaim := { program := "ytkbephbhajplhaadoor", sum := "9e37bf0cbc1eafd43aed8121c211e90ab1ccc749f6bf2837450a4c49030e89d3", func := "helioscope/helioscopelaw10.CycleEnds", spec := "cycleEnds", unfollowed := true, recurses := true, named := ["helioscope/cycle.none"], plainKeys := false, apart := false, laid := [("helioscope/cycle.none", laid_helioscope_cycle_none)], narrowed := true }
def CycleEndsUptoSaid : Prop := cycleEndsUptoRow.holds Tryd.pinned (OpenSpec.upto cycleEndsSpec)

/-- 'helioscopelaw10.CycleFewest', WHERE WHAT IT READS IS OF BULK AT MOST 1048576: true; the input reads as it did. -/
def cycleFewestUptoRow : OpenClaim := { program := "ytkbephbhajplhaadoor", sum := "9e37bf0cbc1eafd43aed8121c211e90ab1ccc749f6bf2837450a4c49030e89d3", func := "helioscope/helioscopelaw10.CycleFewest", spec := "cycleFewest", unfollowed := true, recurses := true, named := ["helioscope/cycle.none"], plainKeys := false, apart := false, laid := [("helioscope/cycle.none", laid_helioscope_cycle_none)], narrowed := true }
def CycleFewestUptoSaid : Prop := cycleFewestUptoRow.holds Tryd.pinned (OpenSpec.upto cycleFewestSpec)

/-- 'helioscopelaw10.CycleMore', WHERE WHAT IT READS IS OF BULK AT MOST 1048576: true; the input reads as it did. -/
def cycleMoreUptoRow : OpenClaim := { program := "ytkbephbhajplhaadoor", sum := "9e37bf0cbc1eafd43aed8121c211e90ab1ccc749f6bf2837450a4c49030e89d3", func := "helioscope/helioscopelaw10.CycleMore", spec := "cycleMore", unfollowed := true, recurses := true, named := ["helioscope/cycle.none"], plainKeys := false, apart := false, laid := [("helioscope/cycle.none", laid_helioscope_cycle_none)], narrowed := true }
def CycleMoreUptoSaid : Prop := cycleMoreUptoRow.holds Tryd.pinned (OpenSpec.upto cycleMoreSpec)

/-- 'helioscopelaw10.CycleApart', WHERE WHAT IT READS IS OF BULK AT MOST 1048576: true; the input reads as it did. -/
def cycleApartUptoRow : OpenClaim := { program := "ytkbephbhajplhaadoor", sum := "9e37bf0cbc1eafd43aed8121c211e90ab1ccc749f6bf2837450a4c49030e89d3", func := "helioscope/helioscopelaw10.CycleApart", spec := "cycleApart", unfollowed := true, recurses := true, named := ["helioscope/cycle.none"], plainKeys := false, apart := false, laid := [("helioscope/cycle.none", laid_helioscope_cycle_none)], narrowed := true }
def CycleApartUptoSaid : Prop := cycleApartUptoRow.holds Tryd.pinned (OpenSpec.upto cycleApartSpec)

/-- 'helioscopelaw10.CycleBack', WHERE WHAT IT READS IS OF BULK AT MOST 1048576: true; the input reads as it did. -/
def cycleBackUptoRow : OpenClaim := { program := "ytkbephbhajplhaadoor", sum := "9e37bf0cbc1eafd43aed8121c211e90ab1ccc749f6bf2837450a4c49030e89d3", func := "helioscope/helioscopelaw10.CycleBack", spec := "cycleBack", unfollowed := true, recurses := true, named := ["helioscope/cycle.none"], plainKeys := false, apart := false, laid := [("helioscope/cycle.none", laid_helioscope_cycle_none)], narrowed := true }
def CycleBackUptoSaid : Prop := cycleBackUptoRow.holds Tryd.pinned (OpenSpec.upto cycleBackSpec)

/-- 'helioscopelaw10.CycleWider', WHERE WHAT IT READS IS OF BULK AT MOST 1048576: true; the input reads as it did. -/
def cycleWiderUptoRow : OpenClaim := { program := "ytkbephbhajplhaadoor", sum := "9e37bf0cbc1eafd43aed8121c211e90ab1ccc749f6bf2837450a4c49030e89d3", func := "helioscope/helioscopelaw10.CycleWider", spec := "cycleWider", unfollowed := true, recurses := true, named := ["helioscope/cycle.none"], plainKeys := false, apart := false, laid := [("helioscope/cycle.none", laid_helioscope_cycle_none)], narrowed := true }
def CycleWiderUptoSaid : Prop := cycleWiderUptoRow.holds Tryd.pinned (OpenSpec.upto cycleWiderSpec)

/-- 'helioscopelaw10.CycleMeans', WHERE WHAT IT READS IS OF BULK AT MOST 1048576: true; the input reads as it did. -/
def cycleMeansUptoRow : OpenClaim := { program := "ytkbephbhajplhaadoor", sum := "9e37bf0cbc1eafd43aed8121c211e90ab1ccc749f6bf2837450a4c49030e89d3", func := "helioscope/helioscopelaw10.CycleMeans", spec := "cycleMeans", unfollowed := true, recurses := true, named := ["helioscope/cycle.none"], plainKeys := false, apart := false, laid := [("helioscope/cycle.none", laid_helioscope_cycle_none)], narrowed := true }
def CycleMeansUptoSaid : Prop := cycleMeansUptoRow.holds Tryd.pinned (OpenSpec.upto cycleMeansSpec)

/-- 'helioscopetop.TopAnewCycle', WHERE WHAT IT READS IS OF BULK AT MOST 1048576: true; the input reads as it did. -/
def topAnewCycleUptoRow : OpenClaim := { program := "ytkbephbhajplhaadoor", sum := "9e37bf0cbc1eafd43aed8121c211e90ab1ccc749f6bf2837450a4c49030e89d3", func := "helioscope/helioscopetop.TopAnewCycle", spec := "topAnewCycle", unfollowed := true, recurses := true, named := ["helioscope/cycle.none"], plainKeys := false, apart := false, laid := [("helioscope/cycle.none", laid_helioscope_cycle_none)], narrowed := true }
def TopAnewCycleUptoSaid : Prop := topAnewCycleUptoRow.holds Tryd.pinned (OpenSpec.upto topAnewCycleSpec)

end Rows
end Go.Proofs.YtkbephbhajplhaaDoor
