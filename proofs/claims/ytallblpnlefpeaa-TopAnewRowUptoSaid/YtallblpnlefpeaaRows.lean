/-
  No cell of these rows narrows 'for every input' (looked for: loops, veiled, ifaces, maps, wideKeys, modest, calm, conditions, laid).
  DERIVED. THE GIVEN ROWS OF THIS SEAT. 15 by the template 'for every input the law returns true; each argument reads behind the call as it read before'; 0 by the template 'total and deterministic' (their statements: YtallblpnlefpeaaTotals.lean).
  GIVEN WITH THE SEED: the statements are not yours to turn. If you find one false, say at which input.
  Laid BY PROGRAM, IN A SANDBOX (cutbox-rows.mjs): the forced cells as the released guide's own fill.sh prints them over the translation 0f3bc32cd0a80a61… (all of the seat's roots in one cut). By AI agents, Wed Nov 11 2026. No macro, syntax, notation, axiom, sorry.
-/
import Derived.Test.YtallblpnlefpeaaChecked
import GoSem.Claim
import GoSem.ClaimJoined
import GoSem.ClaimMapViews
import Derived.JoinedTies
import Derived.KernelRfl
namespace Go.Proofs.Ytallblpnlefpeaa
/- THE CELL 'sum', in the pinned program and in every row, IS THE sha256 OF THE DUMP (.gsa) THAT YtallblpnlefpeaaProg.lean LOADS. Nothing in Lean hashes anything: it is a label: what it is worth is what the hold of that sum in a sandbox is worth. -/
noncomputable def Try.pinned : Pinned := { name := "ytallblpnlefpeaa", sum := "0f3bc32cd0a80a61e5462536349d94c578975220839807390b4c639cada504f6", checked := Try.checked }
namespace Rows
def none {H : Type} : Left H := { results := [], args := [] }

/-- 'helioscopelaw11.RowValues': WHATEVER THE INPUT: true; the input reads as it did. -/
def rowValuesSpec : ChangeSpec := { name := "rowValues", fn := fun _ => fun
  | [d1, d2] => { results := [.lit (.bool true)], args := [d1, d2] }
  | _ => none }
def rowValuesRow : OpenClaim := { program := "ytallblpnlefpeaa", sum := "0f3bc32cd0a80a61e5462536349d94c578975220839807390b4c639cada504f6", func := "helioscope/helioscopelaw11.RowValues", spec := "rowValues", unfollowed := true, recurses := true, apart := false }
def RowValuesSaid : Prop := rowValuesRow.holds Try.pinned (OpenSpec.ofChange rowValuesSpec)

/-- ITS FALSE NEIGHBOUR: 'it returns false'. Refute it at one input. -/
def rowValuesWrong : ChangeSpec := { name := "rowValues", fn := fun _ => fun
  | [d1, d2] => { results := [.lit (.bool false)], args := [d1, d2] }
  | _ => none }
def RowValuesWrongFalsely : Prop := rowValuesRow.holds Try.pinned (OpenSpec.ofChange rowValuesWrong)

/-- 'helioscopelaw11.RowAgain': WHATEVER THE INPUT: true; the input reads as it did. -/
def rowAgainSpec : ChangeSpec := { name := "rowAgain", fn := fun _ => fun
  | [d1, d2] => { results := [.lit (.bool true)], args := [d1, d2] }
  | _ => none }
def rowAgainRow : OpenClaim := { program := "ytallblpnlefpeaa", sum := "0f3bc32cd0a80a61e5462536349d94c578975220839807390b4c639cada504f6", func := "helioscope/helioscopelaw11.RowAgain", spec := "rowAgain", unfollowed := true, recurses := true, apart := false }
def RowAgainSaid : Prop := rowAgainRow.holds Try.pinned (OpenSpec.ofChange rowAgainSpec)

/-- ITS FALSE NEIGHBOUR: 'it returns false'. Refute it at one input. -/
def rowAgainWrong : ChangeSpec := { name := "rowAgain", fn := fun _ => fun
  | [d1, d2] => { results := [.lit (.bool false)], args := [d1, d2] }
  | _ => none }
def RowAgainWrongFalsely : Prop := rowAgainRow.holds Try.pinned (OpenSpec.ofChange rowAgainWrong)

/-- 'helioscopelaw11.RowGrounds': WHATEVER THE INPUT: true; the input reads as it did. -/
def rowGroundsSpec : ChangeSpec := { name := "rowGrounds", fn := fun _ => fun
  | [d1, d2] => { results := [.lit (.bool true)], args := [d1, d2] }
  | _ => none }
def rowGroundsRow : OpenClaim := { program := "ytallblpnlefpeaa", sum := "0f3bc32cd0a80a61e5462536349d94c578975220839807390b4c639cada504f6", func := "helioscope/helioscopelaw11.RowGrounds", spec := "rowGrounds", unfollowed := true, recurses := true, apart := false }
def RowGroundsSaid : Prop := rowGroundsRow.holds Try.pinned (OpenSpec.ofChange rowGroundsSpec)

/-- ITS FALSE NEIGHBOUR: 'it returns false'. Refute it at one input. -/
def rowGroundsWrong : ChangeSpec := { name := "rowGrounds", fn := fun _ => fun
  | [d1, d2] => { results := [.lit (.bool false)], args := [d1, d2] }
  | _ => none }
def RowGroundsWrongFalsely : Prop := rowGroundsRow.holds Try.pinned (OpenSpec.ofChange rowGroundsWrong)

/-- 'helioscopelaw11.RowCuts': WHATEVER THE INPUT: true; the input reads as it did. -/
def rowCutsSpec : ChangeSpec := { name := "rowCuts", fn := fun _ => fun
  | [d1, d2] => { results := [.lit (.bool true)], args := [d1, d2] }
  | _ => none }
def rowCutsRow : OpenClaim := { program := "ytallblpnlefpeaa", sum := "0f3bc32cd0a80a61e5462536349d94c578975220839807390b4c639cada504f6", func := "helioscope/helioscopelaw11.RowCuts", spec := "rowCuts", unfollowed := true, recurses := true, apart := false }
def RowCutsSaid : Prop := rowCutsRow.holds Try.pinned (OpenSpec.ofChange rowCutsSpec)

/-- ITS FALSE NEIGHBOUR: 'it returns false'. Refute it at one input. -/
def rowCutsWrong : ChangeSpec := { name := "rowCuts", fn := fun _ => fun
  | [d1, d2] => { results := [.lit (.bool false)], args := [d1, d2] }
  | _ => none }
def RowCutsWrongFalsely : Prop := rowCutsRow.holds Try.pinned (OpenSpec.ofChange rowCutsWrong)

/-- 'helioscopelaw11.RowKnown': WHATEVER THE INPUT: true; the input reads as it did. -/
def rowKnownSpec : ChangeSpec := { name := "rowKnown", fn := fun _ => fun
  | [] => { results := [.lit (.bool true)], args := [] }
  | _ => none }
def rowKnownRow : OpenClaim := { program := "ytallblpnlefpeaa", sum := "0f3bc32cd0a80a61e5462536349d94c578975220839807390b4c639cada504f6", func := "helioscope/helioscopelaw11.RowKnown", spec := "rowKnown", unfollowed := true, recurses := true, apart := false }
def RowKnownSaid : Prop := rowKnownRow.holds Try.pinned (OpenSpec.ofChange rowKnownSpec)

/-- ITS FALSE NEIGHBOUR: 'it returns false'. Refute it at one input. -/
def rowKnownWrong : ChangeSpec := { name := "rowKnown", fn := fun _ => fun
  | [] => { results := [.lit (.bool false)], args := [] }
  | _ => none }
def RowKnownWrongFalsely : Prop := rowKnownRow.holds Try.pinned (OpenSpec.ofChange rowKnownWrong)

/-- 'helioscopelaw11.RowRows': WHATEVER THE INPUT: true; the input reads as it did. -/
def rowRowsSpec : ChangeSpec := { name := "rowRows", fn := fun _ => fun
  | [d1, d2, d3] => { results := [.lit (.bool true)], args := [d1, d2, d3] }
  | _ => none }
def rowRowsRow : OpenClaim := { program := "ytallblpnlefpeaa", sum := "0f3bc32cd0a80a61e5462536349d94c578975220839807390b4c639cada504f6", func := "helioscope/helioscopelaw11.RowRows", spec := "rowRows", unfollowed := true, recurses := true, apart := false }
def RowRowsSaid : Prop := rowRowsRow.holds Try.pinned (OpenSpec.ofChange rowRowsSpec)

/-- ITS FALSE NEIGHBOUR: 'it returns false'. Refute it at one input. -/
def rowRowsWrong : ChangeSpec := { name := "rowRows", fn := fun _ => fun
  | [d1, d2, d3] => { results := [.lit (.bool false)], args := [d1, d2, d3] }
  | _ => none }
def RowRowsWrongFalsely : Prop := rowRowsRow.holds Try.pinned (OpenSpec.ofChange rowRowsWrong)

/-- 'helioscopelaw11.RowStrike': WHATEVER THE INPUT: true; the input reads as it did. -/
def rowStrikeSpec : ChangeSpec := { name := "rowStrike", fn := fun _ => fun
  | [d1, d2] => { results := [.lit (.bool true)], args := [d1, d2] }
  | _ => none }
def rowStrikeRow : OpenClaim := { program := "ytallblpnlefpeaa", sum := "0f3bc32cd0a80a61e5462536349d94c578975220839807390b4c639cada504f6", func := "helioscope/helioscopelaw11.RowStrike", spec := "rowStrike", unfollowed := true, recurses := true, apart := false }
def RowStrikeSaid : Prop := rowStrikeRow.holds Try.pinned (OpenSpec.ofChange rowStrikeSpec)

/-- ITS FALSE NEIGHBOUR: 'it returns false'. Refute it at one input. -/
def rowStrikeWrong : ChangeSpec := { name := "rowStrike", fn := fun _ => fun
  | [d1, d2] => { results := [.lit (.bool false)], args := [d1, d2] }
  | _ => none }
def RowStrikeWrongFalsely : Prop := rowStrikeRow.holds Try.pinned (OpenSpec.ofChange rowStrikeWrong)

/-- 'helioscopelaw11.RowGround': WHATEVER THE INPUT: true; the input reads as it did. -/
def rowGroundSpec : ChangeSpec := { name := "rowGround", fn := fun _ => fun
  | [d1, d2, d3] => { results := [.lit (.bool true)], args := [d1, d2, d3] }
  | _ => none }
def rowGroundRow : OpenClaim := { program := "ytallblpnlefpeaa", sum := "0f3bc32cd0a80a61e5462536349d94c578975220839807390b4c639cada504f6", func := "helioscope/helioscopelaw11.RowGround", spec := "rowGround", unfollowed := true, recurses := true, apart := false }
def RowGroundSaid : Prop := rowGroundRow.holds Try.pinned (OpenSpec.ofChange rowGroundSpec)

/-- ITS FALSE NEIGHBOUR: 'it returns false'. Refute it at one input. -/
def rowGroundWrong : ChangeSpec := { name := "rowGround", fn := fun _ => fun
  | [d1, d2, d3] => { results := [.lit (.bool false)], args := [d1, d2, d3] }
  | _ => none }
def RowGroundWrongFalsely : Prop := rowGroundRow.holds Try.pinned (OpenSpec.ofChange rowGroundWrong)

/-- 'helioscopelaw11.RowCut': WHATEVER THE INPUT: true; the input reads as it did. -/
def rowCutSpec : ChangeSpec := { name := "rowCut", fn := fun _ => fun
  | [d1, d2, d3] => { results := [.lit (.bool true)], args := [d1, d2, d3] }
  | _ => none }
def rowCutRow : OpenClaim := { program := "ytallblpnlefpeaa", sum := "0f3bc32cd0a80a61e5462536349d94c578975220839807390b4c639cada504f6", func := "helioscope/helioscopelaw11.RowCut", spec := "rowCut", unfollowed := true, recurses := true, apart := false }
def RowCutSaid : Prop := rowCutRow.holds Try.pinned (OpenSpec.ofChange rowCutSpec)

/-- ITS FALSE NEIGHBOUR: 'it returns false'. Refute it at one input. -/
def rowCutWrong : ChangeSpec := { name := "rowCut", fn := fun _ => fun
  | [d1, d2, d3] => { results := [.lit (.bool false)], args := [d1, d2, d3] }
  | _ => none }
def RowCutWrongFalsely : Prop := rowCutRow.holds Try.pinned (OpenSpec.ofChange rowCutWrong)

/-- 'helioscopelaw11.RowAgree': WHATEVER THE INPUT: true; the input reads as it did. -/
def rowAgreeSpec : ChangeSpec := { name := "rowAgree", fn := fun _ => fun
  | [d] => { results := [.lit (.bool true)], args := [d] }
  | _ => none }
def rowAgreeRow : OpenClaim := { program := "ytallblpnlefpeaa", sum := "0f3bc32cd0a80a61e5462536349d94c578975220839807390b4c639cada504f6", func := "helioscope/helioscopelaw11.RowAgree", spec := "rowAgree", unfollowed := true, recurses := true, apart := false }
def RowAgreeSaid : Prop := rowAgreeRow.holds Try.pinned (OpenSpec.ofChange rowAgreeSpec)

/-- ITS FALSE NEIGHBOUR: 'it returns false'. Refute it at one input. -/
def rowAgreeWrong : ChangeSpec := { name := "rowAgree", fn := fun _ => fun
  | [d] => { results := [.lit (.bool false)], args := [d] }
  | _ => none }
def RowAgreeWrongFalsely : Prop := rowAgreeRow.holds Try.pinned (OpenSpec.ofChange rowAgreeWrong)

/-- 'helioscopelaw11.RowFewest': WHATEVER THE INPUT: true; the input reads as it did. -/
def rowFewestSpec : ChangeSpec := { name := "rowFewest", fn := fun _ => fun
  | [d1, d2] => { results := [.lit (.bool true)], args := [d1, d2] }
  | _ => none }
def rowFewestRow : OpenClaim := { program := "ytallblpnlefpeaa", sum := "0f3bc32cd0a80a61e5462536349d94c578975220839807390b4c639cada504f6", func := "helioscope/helioscopelaw11.RowFewest", spec := "rowFewest", unfollowed := true, recurses := true, apart := false }
def RowFewestSaid : Prop := rowFewestRow.holds Try.pinned (OpenSpec.ofChange rowFewestSpec)

/-- ITS FALSE NEIGHBOUR: 'it returns false'. Refute it at one input. -/
def rowFewestWrong : ChangeSpec := { name := "rowFewest", fn := fun _ => fun
  | [d1, d2] => { results := [.lit (.bool false)], args := [d1, d2] }
  | _ => none }
def RowFewestWrongFalsely : Prop := rowFewestRow.holds Try.pinned (OpenSpec.ofChange rowFewestWrong)

/-- 'helioscopelaw11.RowOrder': WHATEVER THE INPUT: true; the input reads as it did. -/
def rowOrderSpec : ChangeSpec := { name := "rowOrder", fn := fun _ => fun
  | [d1, d2] => { results := [.lit (.bool true)], args := [d1, d2] }
  | _ => none }
def rowOrderRow : OpenClaim := { program := "ytallblpnlefpeaa", sum := "0f3bc32cd0a80a61e5462536349d94c578975220839807390b4c639cada504f6", func := "helioscope/helioscopelaw11.RowOrder", spec := "rowOrder", unfollowed := true, recurses := true, apart := false }
def RowOrderSaid : Prop := rowOrderRow.holds Try.pinned (OpenSpec.ofChange rowOrderSpec)

/-- ITS FALSE NEIGHBOUR: 'it returns false'. Refute it at one input. -/
def rowOrderWrong : ChangeSpec := { name := "rowOrder", fn := fun _ => fun
  | [d1, d2] => { results := [.lit (.bool false)], args := [d1, d2] }
  | _ => none }
def RowOrderWrongFalsely : Prop := rowOrderRow.holds Try.pinned (OpenSpec.ofChange rowOrderWrong)

/-- 'helioscopelaw11.RowBack': WHATEVER THE INPUT: true; the input reads as it did. -/
def rowBackSpec : ChangeSpec := { name := "rowBack", fn := fun _ => fun
  | [d1, d2] => { results := [.lit (.bool true)], args := [d1, d2] }
  | _ => none }
def rowBackRow : OpenClaim := { program := "ytallblpnlefpeaa", sum := "0f3bc32cd0a80a61e5462536349d94c578975220839807390b4c639cada504f6", func := "helioscope/helioscopelaw11.RowBack", spec := "rowBack", unfollowed := true, recurses := true, apart := false }
def RowBackSaid : Prop := rowBackRow.holds Try.pinned (OpenSpec.ofChange rowBackSpec)

/-- ITS FALSE NEIGHBOUR: 'it returns false'. Refute it at one input. -/
def rowBackWrong : ChangeSpec := { name := "rowBack", fn := fun _ => fun
  | [d1, d2] => { results := [.lit (.bool false)], args := [d1, d2] }
  | _ => none }
def RowBackWrongFalsely : Prop := rowBackRow.holds Try.pinned (OpenSpec.ofChange rowBackWrong)

/-- 'helioscopelaw11.RowTwice': WHATEVER THE INPUT: true; the input reads as it did. -/
def rowTwiceSpec : ChangeSpec := { name := "rowTwice", fn := fun _ => fun
  | [d] => { results := [.lit (.bool true)], args := [d] }
  | _ => none }
def rowTwiceRow : OpenClaim := { program := "ytallblpnlefpeaa", sum := "0f3bc32cd0a80a61e5462536349d94c578975220839807390b4c639cada504f6", func := "helioscope/helioscopelaw11.RowTwice", spec := "rowTwice", unfollowed := true, recurses := true, apart := false }
def RowTwiceSaid : Prop := rowTwiceRow.holds Try.pinned (OpenSpec.ofChange rowTwiceSpec)

/-- ITS FALSE NEIGHBOUR: 'it returns false'. Refute it at one input. -/
def rowTwiceWrong : ChangeSpec := { name := "rowTwice", fn := fun _ => fun
  | [d] => { results := [.lit (.bool false)], args := [d] }
  | _ => none }
def RowTwiceWrongFalsely : Prop := rowTwiceRow.holds Try.pinned (OpenSpec.ofChange rowTwiceWrong)

/-- 'helioscopetop.TopAnewRow': WHATEVER THE INPUT: true; the input reads as it did. -/
def topAnewRowSpec : ChangeSpec := { name := "topAnewRow", fn := fun _ => fun
  | [d] => { results := [.lit (.bool true)], args := [d] }
  | _ => none }
def topAnewRowRow : OpenClaim := { program := "ytallblpnlefpeaa", sum := "0f3bc32cd0a80a61e5462536349d94c578975220839807390b4c639cada504f6", func := "helioscope/helioscopetop.TopAnewRow", spec := "topAnewRow", unfollowed := true, recurses := true, apart := false }
def TopAnewRowSaid : Prop := topAnewRowRow.holds Try.pinned (OpenSpec.ofChange topAnewRowSpec)

/-- ITS FALSE NEIGHBOUR: 'it returns false'. Refute it at one input. -/
def topAnewRowWrong : ChangeSpec := { name := "topAnewRow", fn := fun _ => fun
  | [d] => { results := [.lit (.bool false)], args := [d] }
  | _ => none }
def TopAnewRowWrongFalsely : Prop := topAnewRowRow.holds Try.pinned (OpenSpec.ofChange topAnewRowWrong)

/- THE SECOND FORM. 'bulk': how many values and letters a reading holds, each counted each time it is reached (what is shared counts as often as it is met; a slice's spare places count too). A statement '..UptoSaid' is the law's where the arguments, and the package variables that the reading takes, are together of bulk at most 1048576: NARROWER than '..Said'. Prove '..Said' where nothing that the law and all that it calls make is longer than what came in: it says more and counts as full. Else prove '..UptoSaid'. A law counts once. -/
mutual
def uptoBulk {H : Type} : DataW H → Nat
  | .lit (.string bytes) => bytes.length + 1
  | .lit _ => 1
  | .nil => 1
  | .ptr d => uptoBulk d + 1
  | .slice elems spare => uptoBulkAll elems + uptoBulkAll spare + 1
  | .agg parts => uptoBulkAll parts + 1
  | .iface _ d => uptoBulk d + 1
  | .map entries => uptoBulkEntries entries + 1
  | .held _ => 1
def uptoBulkAll {H : Type} : List (DataW H) → Nat
  | [] => 0
  | d :: r => uptoBulk d + uptoBulkAll r
def uptoBulkEntries {H : Type} : List (Lit × DataW H) → Nat
  | [] => 0
  | x :: r => uptoBulkEntry x + uptoBulkEntries r
def uptoBulkEntry {H : Type} : Lit × DataW H → Nat
  | (.string bytes, d) => bytes.length + uptoBulk d + 1
  | (_, d) => uptoBulk d + 1
 end
def uptoSmall : (H : Type) → List (DataW H) → Bool := fun _ ds => decide (uptoBulkAll ds ≤ 1048576)
def OpenSpec.upto (s : _root_.Go.ChangeSpec) : _root_.Go.OpenSpec := { _root_.Go.OpenSpec.ofChange s with cond := some uptoSmall }

/-- 'helioscopelaw11.RowValues', WHERE WHAT IT READS IS OF BULK AT MOST 1048576: true; the input reads as it did. -/
def rowValuesUptoRow : OpenClaim := { program := "ytallblpnlefpeaa", sum := "0f3bc32cd0a80a61e5462536349d94c578975220839807390b4c639cada504f6", func := "helioscope/helioscopelaw11.RowValues", spec := "rowValues", unfollowed := true, recurses := true, apart := false, narrowed := true }
def RowValuesUptoSaid : Prop := rowValuesUptoRow.holds Try.pinned (OpenSpec.upto rowValuesSpec)

/-- 'helioscopelaw11.RowAgain', WHERE WHAT IT READS IS OF BULK AT MOST 1048576: true; the input reads as it did. -/
def rowAgainUptoRow : OpenClaim := { program := "ytallblpnlefpeaa", sum := "0f3bc32cd0a80a61e5462536349d94c578975220839807390b4c639cada504f6", func := "helioscope/helioscopelaw11.RowAgain", spec := "rowAgain", unfollowed := true, recurses := true, apart := false, narrowed := true }
def RowAgainUptoSaid : Prop := rowAgainUptoRow.holds Try.pinned (OpenSpec.upto rowAgainSpec)

/-- 'helioscopelaw11.RowGrounds', WHERE WHAT IT READS IS OF BULK AT MOST 1048576: true; the input reads as it did. -/
def rowGroundsUptoRow : OpenClaim := { program := "ytallblpnlefpeaa", sum := "0f3bc32cd0a80a61e5462536349d94c578975220839807390b4c639cada504f6", func := "helioscope/helioscopelaw11.RowGrounds", spec := "rowGrounds", unfollowed := true, recurses := true, apart := false, narrowed := true }
def RowGroundsUptoSaid : Prop := rowGroundsUptoRow.holds Try.pinned (OpenSpec.upto rowGroundsSpec)

/-- 'helioscopelaw11.RowCuts', WHERE WHAT IT READS IS OF BULK AT MOST 1048576: true; the input reads as it did. -/
def rowCutsUptoRow : OpenClaim := { program := "ytallblpnlefpeaa", sum := "0f3bc32cd0a80a61e5462536349d94c578975220839807390b4c639cada504f6", func := "helioscope/helioscopelaw11.RowCuts", spec := "rowCuts", unfollowed := true, recurses := true, apart := false, narrowed := true }
def RowCutsUptoSaid : Prop := rowCutsUptoRow.holds Try.pinned (OpenSpec.upto rowCutsSpec)

/-- 'helioscopelaw11.RowKnown', WHERE WHAT IT READS IS OF BULK AT MOST 1048576: true; the input reads as it did. -/
def rowKnownUptoRow : OpenClaim := { program := "ytallblpnlefpeaa", sum := "0f3bc32cd0a80a61e5462536349d94c578975220839807390b4c639cada504f6", func := "helioscope/helioscopelaw11.RowKnown", spec := "rowKnown", unfollowed := true, recurses := true, apart := false, narrowed := true }
def RowKnownUptoSaid : Prop := rowKnownUptoRow.holds Try.pinned (OpenSpec.upto rowKnownSpec)

/-- 'helioscopelaw11.RowRows', WHERE WHAT IT READS IS OF BULK AT MOST 1048576: true; the input reads as it did. -/
def rowRowsUptoRow : OpenClaim := { program := "ytallblpnlefpeaa", sum := "0f3bc32cd0a80a61e5462536349d94c578975220839807390b4c639cada504f6", func := "helioscope/helioscopelaw11.RowRows", spec := "rowRows", unfollowed := true, recurses := true, apart := false, narrowed := true }
def RowRowsUptoSaid : Prop := rowRowsUptoRow.holds Try.pinned (OpenSpec.upto rowRowsSpec)

/-- 'helioscopelaw11.RowStrike', WHERE WHAT IT READS IS OF BULK AT MOST 1048576: true; the input reads as it did. -/
def rowStrikeUptoRow : OpenClaim := { program := "ytallblpnlefpeaa", sum := "0f3bc32cd0a80a61e5462536349d94c578975220839807390b4c639cada504f6", func := "helioscope/helioscopelaw11.RowStrike", spec := "rowStrike", unfollowed := true, recurses := true, apart := false, narrowed := true }
def RowStrikeUptoSaid : Prop := rowStrikeUptoRow.holds Try.pinned (OpenSpec.upto rowStrikeSpec)

/-- 'helioscopelaw11.RowGround', WHERE WHAT IT READS IS OF BULK AT MOST 1048576: true; the input reads as it did. -/
def rowGroundUptoRow : OpenClaim := { program := "ytallblpnlefpeaa", sum := "0f3bc32cd0a80a61e5462536349d94c578975220839807390b4c639cada504f6", func := "helioscope/helioscopelaw11.RowGround", spec := "rowGround", unfollowed := true, recurses := true, apart := false, narrowed := true }
def RowGroundUptoSaid : Prop := rowGroundUptoRow.holds Try.pinned (OpenSpec.upto rowGroundSpec)

/-- 'helioscopelaw11.RowCut', WHERE WHAT IT READS IS OF BULK AT MOST 1048576: true; the input reads as it did. -/
def rowCutUptoRow : OpenClaim := { program := "ytallblpnlefpeaa", sum := "0f3bc32cd0a80a61e5462536349d94c578975220839807390b4c639cada504f6", func := "helioscope/helioscopelaw11.RowCut", spec := "rowCut", unfollowed := true, recurses := true, apart := false, narrowed := true }
def RowCutUptoSaid : Prop := rowCutUptoRow.holds Try.pinned (OpenSpec.upto rowCutSpec)

/-- 'helioscopelaw11.RowAgree', WHERE WHAT IT READS IS OF BULK AT MOST 1048576: true; the input reads as it did. -/
def rowAgreeUptoRow : OpenClaim := { program := "ytallblpnlefpeaa", sum := "0f3bc32cd0a80a61e5462536349d94c578975220839807390b4c639cada504f6", func := "helioscope/helioscopelaw11.RowAgree", spec := "rowAgree", unfollowed := true, recurses := true, apart := false, narrowed := true }
def RowAgreeUptoSaid : Prop := rowAgreeUptoRow.holds Try.pinned (OpenSpec.upto rowAgreeSpec)

/-- 'helioscopelaw11.RowFewest', WHERE WHAT IT READS IS OF BULK AT MOST 1048576: true; the input reads as it did. -/
def rowFewestUptoRow : OpenClaim := { program := "ytallblpnlefpeaa", sum := "0f3bc32cd0a80a61e5462536349d94c578975220839807390b4c639cada504f6", func := "helioscope/helioscopelaw11.RowFewest", spec := "rowFewest", unfollowed := true, recurses := true, apart := false, narrowed := true }
def RowFewestUptoSaid : Prop := rowFewestUptoRow.holds Try.pinned (OpenSpec.upto rowFewestSpec)

/-- 'helioscopelaw11.RowOrder', WHERE WHAT IT READS IS OF BULK AT MOST 1048576: true; the input reads as it did. -/
def rowOrderUptoRow : OpenClaim := { program := "ytallblpnlefpeaa", sum := "0f3bc32cd0a80a61e5462536349d94c578975220839807390b4c639cada504f6", func := "helioscope/helioscopelaw11.RowOrder", spec := "rowOrder", unfollowed := true, recurses := true, apart := false, narrowed := true }
def RowOrderUptoSaid : Prop := rowOrderUptoRow.holds Try.pinned (OpenSpec.upto rowOrderSpec)

/-- 'helioscopelaw11.RowBack', WHERE WHAT IT READS IS OF BULK AT MOST 1048576: true; the input reads as it did. -/
def rowBackUptoRow : OpenClaim := { program := "ytallblpnlefpeaa", sum := "0f3bc32cd0a80a61e5462536349d94c578975220839807390b4c639cada504f6", func := "helioscope/helioscopelaw11.RowBack", spec := "rowBack", unfollowed := true, recurses := true, apart := false, narrowed := true }
def RowBackUptoSaid : Prop := rowBackUptoRow.holds Try.pinned (OpenSpec.upto rowBackSpec)

/-- 'helioscopelaw11.RowTwice', WHERE WHAT IT READS IS OF BULK AT MOST 1048576: true; the input reads as it did. -/
def rowTwiceUptoRow : OpenClaim := { program := "ytallblpnlefpeaa", sum := "0f3bc32cd0a80a61e5462536349d94c578975220839807390b4c639cada504f6", func := "helioscope/helioscopelaw11.RowTwice", spec := "rowTwice", unfollowed := true, recurses := true, apart := false, narrowed := true }
def RowTwiceUptoSaid : Prop := rowTwiceUptoRow.holds Try.pinned (OpenSpec.upto rowTwiceSpec)

/-- 'helioscopetop.TopAnewRow', WHERE WHAT IT READS IS OF BULK AT MOST 1048576: true; the input reads as it did. -/
def topAnewRowUptoRow : OpenClaim := { program := "ytallblpnlefpeaa", sum := "0f3bc32cd0a80a61e5462536349d94c578975220839807390b4c639cada504f6", func := "helioscope/helioscopetop.TopAnewRow", spec := "topAnewRow", unfollowed := true, recurses := true, apart := false, narrowed := true }
def TopAnewRowUptoSaid : Prop := topAnewRowUptoRow.holds Try.pinned (OpenSpec.upto topAnewRowSpec)

end Rows
end Go.Proofs.Ytallblpnlefpeaa
