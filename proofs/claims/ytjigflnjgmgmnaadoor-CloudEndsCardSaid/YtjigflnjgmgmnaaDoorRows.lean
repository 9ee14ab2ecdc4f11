/-
  NARROWER THAN 'FOR EVERY INPUT', by the rows' own cells (each row's printed sentence says how): CloudNumbers: laid · CloudMonths: laid · CloudTops: laid · CloudAsks: laid · CloudWrongs: laid · CloudKnown: laid · CloudTrue: laid · CloudEnds: laid · CloudFewest: laid · CloudMore: laid · CloudAsked: laid · CloudSteps: laid · CloudBack: laid · CloudRises: laid · TopAnewCloud: laid.
  DERIVED. THE GIVEN ROWS OF THIS SEAT. 15 by the template 'for every input the law returns true; each argument reads behind the call as it read before'; 0 by the template 'total and deterministic' (their statements: YtjigflnjgmgmnaaDoorTotals.lean).
  GIVEN WITH THE SEED: the statements are not yours to turn. If you find one false, say at which input.
  Laid BY PROGRAM, IN A SANDBOX (cutbox-rows.mjs): the forced cells as the released guide's own fill.sh prints them over the translation bee9751c5adfccdb… (all of the seat's roots in one cut). By AI agents, Wed Nov 11 2026. No macro, syntax, notation, axiom, sorry.
-/
import Derived.Test.YtjigflnjgmgmnaaDoorChecked
import GoSem.Claim
import GoSem.ClaimJoined
import GoSem.ClaimMapViews
import Derived.JoinedTies
import Derived.KernelRfl
namespace Go.Proofs.YtjigflnjgmgmnaaDoor
/- THE CELL 'sum', in the pinned program and in every row, IS THE sha256 OF THE DUMP (.gsa) THAT YtjigflnjgmgmnaaDoorProg.lean LOADS. Nothing in Lean hashes anything: it is a label: what it is worth is what the hold of that sum in a sandbox is worth. -/
noncomputable def Tryd.pinned : Pinned := { name := "ytjigflnjgmgmnaadoor", sum := "bee9751c5adfccdb7c652148dc437ed3a0a459a320bf16e946c863bc1db569f4", checked := Tryd.checked }
namespace Rows
def none {H : Type} : Left H := { results := [], args := [] }

/- WHAT THE LISTED PACKAGE-LEVEL VARIABLES READ AS WHEN THE CALL BEGINS. Each datum BY PROGRAM (the guide's laid-datum.mjs) off the statement by which the dump's own 'gosem.cut.vars' lays the variable. In a bare row this is a premise. The card (YtjigflnjgmgmnaaDoorCards.lean) ties it to the program's text. -/
def laid_helioscope_cloud_nobody {H : Type} : DataW H := .agg [.lit (.int .i64 (-1)), .lit (.int .i64 0)]

/-- 'helioscopelaw06.CloudNumbers': WHATEVER THE INPUT: true; the input reads as it did. -/
def cloudNumbersSpec : ChangeSpec := { name := "cloudNumbers", fn := fun _ => fun
  | [d1, d2] => { results := [.lit (.bool true)], args := [d1, d2] }
  | _ => none }
def cloudNumbersRow : OpenClaim := { program := "ytjigflnjgmgmnaadoor", sum := "bee9751c5adfccdb7c652148dc437ed3a0a459a320bf16e946c863bc1db569f4", func := "helioscope/helioscopelaw06.CloudNumbers", spec := "cloudNumbers", unfollowed := true, recurses := true, named := ["helioscope/cloud.nobody"], plainKeys := false, apart := false, laid := [("helioscope/cloud.nobody", laid_helioscope_cloud_nobody)] }
def CloudNumbersSaid : Prop := cloudNumbersRow.holds Tryd.pinned (OpenSpec.ofChange cloudNumbersSpec)

/-- ITS FALSE NEIGHBOUR: 'it returns false'. Refute it at one input. -/
def cloudNumbersWrong : ChangeSpec := { name := "cloudNumbers", fn := fun _ => fun
  | [d1, d2] => { results := [.lit (.bool false)], args := [d1, d2] }
  | _ => none }
def CloudNumbersWrongFalsely : Prop := cloudNumbersRow.holds Tryd.pinned (OpenSpec.ofChange cloudNumbersWrong)

/-- 'helioscopelaw06.CloudMonths': WHATEVER THE INPUT: true; the input reads as it did. -/
def cloudMonthsSpec : ChangeSpec := { name := "cloudMonths", fn := fun _ => fun
  | [d1, d2] => { results := [.lit (.bool true)], args := [d1, d2] }
  | _ => none }
def cloudMonthsRow : OpenClaim := { program := "ytjigflnjgmgmnaadoor", sum := "bee9751c5adfccdb7c652148dc437ed3a0a459a320bf16e946c863bc1db569f4", func := "helioscope/helioscopelaw06.CloudMonths", spec := "cloudMonths", unfollowed := true, recurses := true, named := ["helioscope/cloud.nobody"], plainKeys := false, apart := false, laid := [("helioscope/cloud.nobody", laid_helioscope_cloud_nobody)] }
def CloudMonthsSaid : Prop := cloudMonthsRow.holds Tryd.pinned (OpenSpec.ofChange cloudMonthsSpec)

/-- ITS FALSE NEIGHBOUR: 'it returns false'. Refute it at one input. -/
def cloudMonthsWrong : ChangeSpec := { name := "cloudMonths", fn := fun _ => fun
  | [d1, d2] => { results := [.lit (.bool false)], args := [d1, d2] }
  | _ => none }
def CloudMonthsWrongFalsely : Prop := cloudMonthsRow.holds Tryd.pinned (OpenSpec.ofChange cloudMonthsWrong)

/-- 'helioscopelaw06.CloudTops': WHATEVER THE INPUT: true; the input reads as it did. -/
def cloudTopsSpec : ChangeSpec := { name := "cloudTops", fn := fun _ => fun
  | [d] => { results := [.lit (.bool true)], args := [d] }
  | _ => none }
def cloudTopsRow : OpenClaim := { program := "ytjigflnjgmgmnaadoor", sum := "bee9751c5adfccdb7c652148dc437ed3a0a459a320bf16e946c863bc1db569f4", func := "helioscope/helioscopelaw06.CloudTops", spec := "cloudTops", unfollowed := true, recurses := true, named := ["helioscope/cloud.nobody"], plainKeys := false, apart := false, laid := [("helioscope/cloud.nobody", laid_helioscope_cloud_nobody)] }
def CloudTopsSaid : Prop := cloudTopsRow.holds Tryd.pinned (OpenSpec.ofChange cloudTopsSpec)

/-- ITS FALSE NEIGHBOUR: 'it returns false'. Refute it at one input. -/
def cloudTopsWrong : ChangeSpec := { name := "cloudTops", fn := fun _ => fun
  | [d] => { results := [.lit (.bool false)], args := [d] }
  | _ => none }
def CloudTopsWrongFalsely : Prop := cloudTopsRow.holds Tryd.pinned (OpenSpec.ofChange cloudTopsWrong)

/-- 'helioscopelaw06.CloudAsks': WHATEVER THE INPUT: true; the input reads as it did. -/
def cloudAsksSpec : ChangeSpec := { name := "cloudAsks", fn := fun _ => fun
  | [d] => { results := [.lit (.bool true)], args := [d] }
  | _ => none }
def cloudAsksRow : OpenClaim := { program := "ytjigflnjgmgmnaadoor", sum := "bee9751c5adfccdb7c652148dc437ed3a0a459a320bf16e946c863bc1db569f4", func := "helioscope/helioscopelaw06.CloudAsks", spec := "cloudAsks", unfollowed := true, recurses := true, named := ["helioscope/cloud.nobody"], plainKeys := false, apart := false, laid := [("helioscope/cloud.nobody", laid_helioscope_cloud_nobody)] }
def CloudAsksSaid : Prop := cloudAsksRow.holds Tryd.pinned (OpenSpec.ofChange cloudAsksSpec)

/-- ITS FALSE NEIGHBOUR: 'it returns false'. Refute it at one input. -/
def cloudAsksWrong : ChangeSpec := { name := "cloudAsks", fn := fun _ => fun
  | [d] => { results := [.lit (.bool false)], args := [d] }
  | _ => none }
def CloudAsksWrongFalsely : Prop := cloudAsksRow.holds Tryd.pinned (OpenSpec.ofChange cloudAsksWrong)

/-- 'helioscopelaw06.CloudWrongs': WHATEVER THE INPUT: true; the input reads as it did. -/
def cloudWrongsSpec : ChangeSpec := { name := "cloudWrongs", fn := fun _ => fun
  | [d] => { results := [.lit (.bool true)], args := [d] }
  | _ => none }
def cloudWrongsRow : OpenClaim := { program := "ytjigflnjgmgmnaadoor", sum := "bee9751c5adfccdb7c652148dc437ed3a0a459a320bf16e946c863bc1db569f4", func := "helioscope/helioscopelaw06.CloudWrongs", spec := "cloudWrongs", unfollowed := true, recurses := true, named := ["helioscope/cloud.nobody"], plainKeys := false, apart := false, laid := [("helioscope/cloud.nobody", laid_helioscope_cloud_nobody)] }
def CloudWrongsSaid : Prop := cloudWrongsRow.holds Tryd.pinned (OpenSpec.ofChange cloudWrongsSpec)

/-- ITS FALSE NEIGHBOUR: 'it returns false'. Refute it at one input. -/
def cloudWrongsWrong : ChangeSpec := { name := "cloudWrongs", fn := fun _ => fun
  | [d] => { results := [.lit (.bool false)], args := [d] }
  | _ => none }
def CloudWrongsWrongFalsely : Prop := cloudWrongsRow.holds Tryd.pinned (OpenSpec.ofChange cloudWrongsWrong)

/-- 'helioscopelaw06.CloudKnown': WHATEVER THE INPUT: true; the input reads as it did. -/
def cloudKnownSpec : ChangeSpec := { name := "cloudKnown", fn := fun _ => fun
  | [] => { results := [.lit (.bool true)], args := [] }
  | _ => none }
def cloudKnownRow : OpenClaim := { program := "ytjigflnjgmgmnaadoor", sum := "bee9751c5adfccdb7c652148dc437ed3a0a459a320bf16e946c863bc1db569f4", func := "helioscope/helioscopelaw06.CloudKnown", spec := "cloudKnown", unfollowed := true, recurses := true, named := ["helioscope/cloud.nobody"], plainKeys := false, apart := false, laid := [("helioscope/cloud.nobody", laid_helioscope_cloud_nobody)] }
def CloudKnownSaid : Prop := cloudKnownRow.holds Tryd.pinned (OpenSpec.ofChange cloudKnownSpec)

/-- ITS FALSE NEIGHBOUR: 'it returns false'. Refute it at one input. -/
def cloudKnownWrong : ChangeSpec := { name := "cloudKnown", fn := fun _ => fun
  | [] => { results := [.lit (.bool false)], args := [] }
  | _ => none }
def CloudKnownWrongFalsely : Prop := cloudKnownRow.holds Tryd.pinned (OpenSpec.ofChange cloudKnownWrong)

/-- 'helioscopelaw06.CloudTrue': WHATEVER THE INPUT: true; the input reads as it did. -/
def cloudTrueSpec : ChangeSpec := { name := "cloudTrue", fn := fun _ => fun
  | [d1, d2] => { results := [.lit (.bool true)], args := [d1, d2] }
  | _ => none }
def cloudTrueRow : OpenClaim := { program := "ytjigflnjgmgmnaadoor", sum := "bee9751c5adfccdb7c652148dc437ed3a0a459a320bf16e946c863bc1db569f4", func := "helioscope/helioscopelaw06.CloudTrue", spec := "cloudTrue", unfollowed := true, recurses := true, named := ["helioscope/cloud.nobody"], plainKeys := false, apart := false, laid := [("helioscope/cloud.nobody", laid_helioscope_cloud_nobody)] }
def CloudTrueSaid : Prop := cloudTrueRow.holds Tryd.pinned (OpenSpec.ofChange cloudTrueSpec)

/-- ITS FALSE NEIGHBOUR: 'it returns false'. Refute it at one input. -/
def cloudTrueWrong : ChangeSpec := { name := "cloudTrue", fn := fun _ => fun
  | [d1, d2] => { results := [.lit (.bool false)], args := [d1, d2] }
  | _ => none }
def CloudTrueWrongFalsely : Prop := cloudTrueRow.holds Tryd.pinned (OpenSpec.ofChange cloudTrueWrong)

/-- 'helioscopelaw06.CloudEnds': WHATEVER THE INPUT: true; the input reads as it did. -/
def cloudEndsSpec : ChangeSpec := { name := "cloudEnds", fn := fun _ => fun
  | [d] => { results := [.lit (.bool true)], args := [d] }
  | _ => none }
def cloudEndsRow : OpenClaim := { program := "ytjigflnjgmgmnaadoor", sum := "bee9751c5adfccdb7c652148dc437ed3a0a459a320bf16e946c863bc1db569f4", func := "helioscope/helioscopelaw06.CloudEnds", spec := "cloudEnds", unfollowed := true, recurses := true, named := ["helioscope/cloud.nobody"], plainKeys := false, apart := false, laid := [("helioscope/cloud.nobody", laid_helioscope_cloud_nobody)] }
def CloudEndsSaid : Prop := cloudEndsRow.holds Tryd.pinned (OpenSpec.ofChange cloudEndsSpec)

/-- ITS FALSE NEIGHBOUR: 'it returns false'. Refute it at one input. -/
def cloudEndsWrong : ChangeSpec := { name := "cloudEnds", fn := fun _ => fun
  | [d] => { results := [.lit (.bool false)], args := [d] }
  | _ => none }
def CloudEndsWrongFalsely : Prop := cloudEndsRow.holds Tryd.pinned (OpenSpec.ofChange cloudEndsWrong)

/-- 'helioscopelaw06.CloudFewest': WHATEVER THE INPUT: true; the input reads as it did. -/
def cloudFewestSpec : ChangeSpec := { name := "cloudFewest", fn := fun _ => fun
  | [d1, d2] => { results := [.lit (.bool true)], args := [d1, d2] }
  | _ => none }
def cloudFewestRow : OpenClaim := { program := "ytjigflnjgmgmnaadoor", sum := "bee9751c5adfccdb7c652148dc437ed3a0a459a320bf16e946c863bc1db569f4", func := "helioscope/helioscopelaw06.CloudFewest", spec := "cloudFewest", unfollowed := true, recurses := true, named := ["helioscope/cloud.nobody"], plainKeys := false, apart := false, laid := [("helioscope/cloud.nobody", laid_helioscope_cloud_nobody)] }
def CloudFewestSaid : Prop := cloudFewestRow.holds Tryd.pinned (OpenSpec.ofChange cloudFewestSpec)

/-- ITS FALSE NEIGHBOUR: 'it returns false'. Refute it at one input. -/
def cloudFewestWrong : ChangeSpec := { name := "cloudFewest", fn := fun _ => fun
  | [d1, d2] => { results := [.lit (.bool false)], args := [d1, d2] }
  | _ => none }
def CloudFewestWrongFalsely : Prop := cloudFewestRow.holds Tryd.pinned (OpenSpec.ofChange cloudFewestWrong)

/-- 'helioscopelaw06.CloudMore': WHATEVER THE INPUT: true; the input reads as it did. -/
def cloudMoreSpec : ChangeSpec := { name := "cloudMore", fn := fun _ => fun
  | [d1, d2] => { results := [.lit (.bool true)], args := [d1, d2] }
  | _ => none }
def cloudMoreRow : OpenClaim := { program := "ytjigflnjgmgmnaadoor", sum := "bee9751c5adfccdb7c652148dc437ed3a0a459a320bf16e946c863bc1db569f4", func := "helioscope/helioscopelaw06.CloudMore", spec := "cloudMore", unfollowed := true, recurses := true, named := ["helioscope/cloud.nobody"], plainKeys := false, apart := false, laid := [("helioscope/cloud.nobody", laid_helioscope_cloud_nobody)] }
def CloudMoreSaid : Prop := cloudMoreRow.holds Tryd.pinned (OpenSpec.ofChange cloudMoreSpec)

/-- ITS FALSE NEIGHBOUR: 'it returns false'. Refute it at one input. -/
def cloudMoreWrong : ChangeSpec := { name := "cloudMore", fn := fun _ => fun
  | [d1, d2] => { results := [.lit (.bool false)], args := [d1, d2] }
  | _ => none }
def CloudMoreWrongFalsely : Prop := cloudMoreRow.holds Tryd.pinned (OpenSpec.ofChange cloudMoreWrong)

/-- 'helioscopelaw06.CloudAsked': WHATEVER THE INPUT: true; the input reads as it did. -/
def cloudAskedSpec : ChangeSpec := { name := "cloudAsked", fn := fun _ => fun
  | [d1, d2] => { results := [.lit (.bool true)], args := [d1, d2] }
  | _ => none }
def cloudAskedRow : OpenClaim := { program := "ytjigflnjgmgmnaadoor", sum := "bee9751c5adfccdb7c652148dc437ed3a0a459a320bf16e946c863bc1db569f4", func := "helioscope/helioscopelaw06.CloudAsked", spec := "cloudAsked", unfollowed := true, recurses := true, named := ["helioscope/cloud.nobody"], plainKeys := false, apart := false, laid := [("helioscope/cloud.nobody", laid_helioscope_cloud_nobody)] }
def CloudAskedSaid : Prop := cloudAskedRow.holds Tryd.pinned (OpenSpec.ofChange cloudAskedSpec)

/-- ITS FALSE NEIGHBOUR: 'it returns false'. Refute it at one input. -/
def cloudAskedWrong : ChangeSpec := { name := "cloudAsked", fn := fun _ => fun
  | [d1, d2] => { results := [.lit (.bool false)], args := [d1, d2] }
  | _ => none }
def CloudAskedWrongFalsely : Prop := cloudAskedRow.holds Tryd.pinned (OpenSpec.ofChange cloudAskedWrong)

/-- 'helioscopelaw06.CloudSteps': WHATEVER THE INPUT: true; the input reads as it did. -/
def cloudStepsSpec : ChangeSpec := { name := "cloudSteps", fn := fun _ => fun
  | [d1, d2] => { results := [.lit (.bool true)], args := [d1, d2] }
  | _ => none }
def cloudStepsRow : OpenClaim := { program := "ytjigflnjgmgmnaadoor", sum := "bee9751c5adfccdb7c652148dc437ed3a0a459a320bf16e946c863bc1db569f4", func := "helioscope/helioscopelaw06.CloudSteps", spec := "cloudSteps", unfollowed := true, recurses := true, named := ["helioscope/cloud.nobody"], plainKeys := false, apart := false, laid := [("helioscope/cloud.nobody", laid_helioscope_cloud_nobody)] }
def CloudStepsSaid : Prop := cloudStepsRow.holds Tryd.pinned (OpenSpec.ofChange cloudStepsSpec)

/-- ITS FALSE NEIGHBOUR: 'it returns false'. Refute it at one input. -/
def cloudStepsWrong : ChangeSpec := { name := "cloudSteps", fn := fun _ => fun
  | [d1, d2] => { results := [.lit (.bool false)], args := [d1, d2] }
  | _ => none }
def CloudStepsWrongFalsely : Prop := cloudStepsRow.holds Tryd.pinned (OpenSpec.ofChange cloudStepsWrong)

/-- 'helioscopelaw06.CloudBack': WHATEVER THE INPUT: true; the input reads as it did. -/
def cloudBackSpec : ChangeSpec := { name := "cloudBack", fn := fun _ => fun
  | [d] => { results := [.lit (.bool true)], args := [d] }
  | _ => none }
def cloudBackRow : OpenClaim := { program := "ytjigflnjgmgmnaadoor", sum := "bee9751c5adfccdb7c652148dc437ed3a0a459a320bf16e946c863bc1db569f4", func := "helioscope/helioscopelaw06.CloudBack", spec := "cloudBack", unfollowed := true, recurses := true, named := ["helioscope/cloud.nobody"], plainKeys := false, apart := false, laid := [("helioscope/cloud.nobody", laid_helioscope_cloud_nobody)] }
def CloudBackSaid : Prop := cloudBackRow.holds Tryd.pinned (OpenSpec.ofChange cloudBackSpec)

/-- ITS FALSE NEIGHBOUR: 'it returns false'. Refute it at one input. -/
def cloudBackWrong : ChangeSpec := { name := "cloudBack", fn := fun _ => fun
  | [d] => { results := [.lit (.bool false)], args := [d] }
  | _ => none }
def CloudBackWrongFalsely : Prop := cloudBackRow.holds Tryd.pinned (OpenSpec.ofChange cloudBackWrong)

/-- 'helioscopelaw06.CloudRises': WHATEVER THE INPUT: true; the input reads as it did. -/
def cloudRisesSpec : ChangeSpec := { name := "cloudRises", fn := fun _ => fun
  | [d] => { results := [.lit (.bool true)], args := [d] }
  | _ => none }
def cloudRisesRow : OpenClaim := { program := "ytjigflnjgmgmnaadoor", sum := "bee9751c5adfccdb7c652148dc437ed3a0a459a320bf16e946c863bc1db569f4", func := "helioscope/helioscopelaw06.CloudRises", spec := "cloudRises", unfollowed := true, recurses := true, named := ["helioscope/cloud.nobody"], plainKeys := false, apart := false, laid := [("helioscope/cloud.nobody", laid_helioscope_cloud_nobody)] }
def CloudRisesSaid : Prop := cloudRisesRow.holds Tryd.pinned (OpenSpec.ofChange cloudRisesSpec)

/-- ITS FALSE NEIGHBOUR: 'it returns false'. Refute it at one input. -/
def cloudRisesWrong : ChangeSpec := { name := "cloudRises", fn := fun _ => fun
  | [d] => { results := [.lit (.bool false)], args := [d] }
  | _ => none }
def CloudRisesWrongFalsely : Prop := cloudRisesRow.holds Tryd.pinned (OpenSpec.ofChange cloudRisesWrong)

/-- 'helioscopetop.TopAnewCloud': WHATEVER THE INPUT: true; the input reads as it did. -/
def topAnewCloudSpec : ChangeSpec := { name := "topAnewCloud", fn := fun _ => fun
  | [d] => { results := [.lit (.bool true)], args := [d] }
  | _ => none }
def topAnewCloudRow : OpenClaim := { program := "ytjigflnjgmgmnaadoor", sum := "bee9751c5adfccdb7c652148dc437ed3a0a459a320bf16e946c863bc1db569f4", func := "helioscope/helioscopetop.TopAnewCloud", spec := "topAnewCloud", unfollowed := true, recurses := true, named := ["helioscope/cloud.nobody"], plainKeys := false, apart := false, laid := [("helioscope/cloud.nobody", laid_helioscope_cloud_nobody)] }
def TopAnewCloudSaid : Prop := topAnewCloudRow.holds Tryd.pinned (OpenSpec.ofChange topAnewCloudSpec)

/-- ITS FALSE NEIGHBOUR: 'it returns false'. Refute it at one input. -/
def topAnewCloudWrong : ChangeSpec := { name := "topAnewCloud", fn := fun _ => fun
  | [d] => { results := [.lit (.bool false)], args := [d] }
  | _ => none }
def TopAnewCloudWrongFalsely : Prop := topAnewCloudRow.holds Tryd.pinned (OpenSpec.ofChange topAnewCloudWrong)

/- THE SECOND FORM. 'bulk': how many values and letters a reading holds, each counted each time it is reached (what is shared counts as often as it is met; a slice's spare places count too). A statement '..UptoSaid' is the law's where the arguments, and the package variables that the reading takes, are together of bulk at most 1048576: NARROWER than '..Said'. Prove '..Said' where nothing that the law and all that it calls make is longer than what came in: it says more and counts as full. Else prove '..UptoSaid'. A law counts once. -/
mutual
def uptoBulk {H : Type} : DataW H → Nat
  | .lit (.string bytes) => bytes.length + 1
  | .lit _ => 1
  | .nil => 1
  | .ptr d => uptoBulk d + 1
  | .slice elems spare => uptoBulkAll elems + uptoBulkAll spare + 1
  | .agg parts => uptoBulkAll parts + 1
  | .iface _ d => uptoBulk d + 1
  | .map entries => uptoBulkEntries entries + 1
  | .held _ => 1
def uptoBulkAll {H : Type} : List (DataW H) → Nat
  | [] => 0
  | d :: r => uptoBulk d + uptoBulkAll r
def uptoBulkEntries {H : Type} : List (Lit × DataW H) → Nat
  | [] => 0
  | x :: r => uptoBulkEntry x + uptoBulkEntries r
def uptoBulkEntry {H : Type} : Lit × DataW H → Nat
  | (.string bytes, d) => bytes.length + uptoBulk d + 1
  | (_, d) => uptoBulk d + 1
 end
def uptoSmall : (H : Type) → List (DataW H) → Bool := fun _ ds => decide (uptoBulkAll ds ≤ 1048576)
def OpenSpec.upto (s : _root_.Go.ChangeSpec) : _root_.Go.OpenSpec := { _root_.Go.OpenSpec.ofChange s with cond := some uptoSmall }

/-- 'helioscopelaw06.CloudNumbers', WHERE WHAT IT READS IS OF BULK AT MOST 1048576: true; the input reads as it did. -/
def cloudNumbersUptoRow : OpenClaim := { program := "ytjigflnjgmgmnaadoor", sum := "bee9751c5adfccdb7c652148dc437ed3a0a459a320bf16e946c863bc1db569f4", func := "helioscope/helioscopelaw06.CloudNumbers", spec := "cloudNumbers", unfollowed := true, recurses := true, named := ["helioscope/cloud.nobody"], plainKeys := false, apart := false, laid := [("helioscope/cloud.nobody", laid_helioscope_cloud_nobody)], narrowed := true }
def CloudNumbersUptoSaid : Prop := cloudNumbersUptoRow.holds Tryd.pinned (OpenSpec.upto cloudNumbersSpec)

/-- 'helioscopelaw06.CloudMonths', WHERE WHAT IT READS IS OF BULK AT MOST 1048576: true; the input reads as it did. -/
def cloudMonthsUptoRow : OpenClaim := { program := "ytjigflnjgmgmnaadoor", sum := "bee9751c5adfccdb7c652148dc437ed3a0a459a320bf16e946c863bc1db569f4", func := "helioscope/helioscopelaw06.CloudMonths", spec := "cloudMonths", unfollowed := true, recurses := true, named := ["helioscope/cloud.nobody"], plainKeys := false, apart := false, laid := [("helioscope/cloud.nobody", laid_helioscope_cloud_nobody)], narrowed := true }
def CloudMonthsUptoSaid : Prop := cloudMonthsUptoRow.holds Tryd.pinned (OpenSpec.upto cloudMonthsSpec)

/-- 'helioscopelaw06.CloudTops', WHERE WHAT IT READS IS OF BULK AT MOST 1048576: true; the input reads as it did. -/
def cloudTopsUptoRow : OpenClaim := { program := "ytjigflnjgmgmnaadoor", sum := "bee9751c5adfccdb7c652148dc437ed3a0a459a320bf16e946c863bc1db569f4", func := "helioscope/helioscopelaw06.CloudTops", spec := "cloudTops", unfollowed := true, recurses := true, named := ["helioscope/cloud.nobody"], plainKeys := false, apart := false, laid := [("helioscope/cloud.nobody", laid_helioscope_cloud_nobody)], narrowed := true }
def CloudTopsUptoSaid : Prop := cloudTopsUptoRow.holds Tryd.pinned (OpenSpec.upto cloudTopsSpec)

/-- 'helioscopelaw06.CloudAsks', WHERE WHAT IT READS IS OF BULK AT MOST 1048576: true; the input reads as it did. -/
def cloudAsksUptoRow : OpenClaim := { program := "ytjigflnjgmgmnaadoor", sum := "bee9751c5adfccdb7c652148dc437ed3a0a459a320bf16e946c863bc1db569f4", func := "helioscope/helioscopelaw06.CloudAsks", spec := "cloudAsks", unfollowed := true, recurses := true, named := ["helioscope/cloud.nobody"], plainKeys := false, apart := false, laid := [("helioscope/cloud.nobody", laid_helioscope_cloud_nobody)], narrowed := true }
def CloudAsksUptoSaid : Prop := cloudAsksUptoRow.holds Tryd.pinned (OpenSpec.upto cloudAsksSpec)

/-- 'helioscopelaw06.CloudWrongs', WHERE WHAT IT READS IS OF BULK AT MOST 1048576: true; the input reads as it did. -/
def cloudWrongsUptoRow : OpenClaim := { program := "ytjigflnjgmgmnaadoor", sum := "bee9751c5adfccdb7c652148dc437ed3a0a459a320bf16e946c863bc1db569f4", func := "helioscope/helioscopelaw06.CloudWrongs", spec := "cloudWrongs", unfollowed := true, recurses := true, named := ["helioscope/cloud.nobody"], plainKeys := false, apart := false, laid := [("helioscope/cloud.nobody", laid_helioscope_cloud_nobody)], narrowed := true }
def CloudWrongsUptoSaid : Prop := cloudWrongsUptoRow.holds Tryd.pinned (OpenSpec.upto cloudWrongsSpec)

/-- 'helioscopelaw06.CloudKnown', WHERE WHAT IT READS IS OF BULK AT MOST 1048576: true; the input reads as it did. -/
def cloudKnownUptoRow : OpenClaim := { program := "ytjigflnjgmgmnaadoor", sum := "bee9751c5adfccdb7c652148dc437ed3a0a459a320bf16e946c863bc1db569f4", func := "helioscope/helioscopelaw06.CloudKnown", spec := "cloudKnown", unfollowed := true, recurses := true, named := ["helioscope/cloud.nobody"], plainKeys := false, apart := false, laid := [("helioscope/cloud.nobody", laid_helioscope_cloud_nobody)], narrowed := true }
def CloudKnownUptoSaid : Prop := cloudKnownUptoRow.holds Tryd.pinned (OpenSpec.upto cloudKnownSpec)

/-- 'helioscopelaw06.CloudTrue', WHERE WHAT IT READS IS OF BULK AT MOST 1048576: true; the input reads as it did. -/
def cloudTrueUptoRow : OpenClaim := { program := "ytjigflnjgmgmnaadoor", sum := "bee9751c5adfccdb7c652148dc437ed3a0a459a320bf16e946c863bc1db569f4", func := "helioscope/helioscopelaw06.CloudTrue", spec := "cloudTrue", unfollowed := true, recurses := true, named := ["helioscope/cloud.nobody"], plainKeys := false, apart := false, laid := [("helioscope/cloud.nobody", laid_helioscope_cloud_nobody)], narrowed := true }
def CloudTrueUptoSaid : Prop := cloudTrueUptoRow.holds Tryd.pinned (OpenSpec.upto cloudTrueSpec)

/-- 'helioscopelaw06.CloudEnds', WHERE WHAT IT READS IS OF BULK AT MOST 1048576: true; the input reads as it did. -/
def cloudEndsUptoRow : OpenClaim := { program := "ytjigflnjgmgmnaadoor", sum := "bee9751c5adfccdb7c652148dc437ed3a0a459a320bf16e946c863bc1db569f4", func := "helioscope/helioscopelaw06.CloudEnds", spec := "cloudEnds", unfollowed := true, recurses := true, named := ["helioscope/cloud.nobody"], plainKeys := false, apart := false, laid := [("helioscope/cloud.nobody", laid_helioscope_cloud_nobody)], narrowed := true }
def CloudEndsUptoSaid : Prop := cloudEndsUptoRow.holds Tryd.pinned (OpenSpec.upto cloudEndsSpec)

/-- 'helioscopelaw06.CloudFewest', WHERE WHAT IT READS IS OF BULK AT MOST 1048576: true; the input reads as it did. -/
def cloudFewestUptoRow : OpenClaim := { program := "ytjigflnjgmgmnaadoor", sum := "bee9751c5adfccdb7c652148dc437ed3a0a459a320bf16e946c863bc1db569f4", func := "helioscope/helioscopelaw06.CloudFewest", spec := "cloudFewest", unfollowed := true, recurses := true, named := ["helioscope/cloud.nobody"], plainKeys := false, apart := false, laid := [("helioscope/cloud.nobody", laid_helioscope_cloud_nobody)], narrowed := true }
def CloudFewestUptoSaid : Prop := cloudFewestUptoRow.holds Tryd.pinned (OpenSpec.upto cloudFewestSpec)

/-- 'helioscopelaw06.CloudMore', WHERE WHAT IT READS IS OF BULK AT MOST 1048576: true; the input reads as it did. -/
def cloudMoreUptoRow : OpenClaim := { program := "ytjigflnjgmgmnaadoor", sum := "bee9751c5adfccdb7c652148dc437ed3a0a459a320bf16e946c863bc1db569f4", func := "helioscope/helioscopelaw06.CloudMore", spec := "cloudMore", unfollowed := true, recurses := true, named := ["helioscope/cloud.nobody"], plainKeys := false, apart := false, laid := [("helioscope/cloud.nobody", laid_helioscope_cloud_nobody)], narrowed := true }
def CloudMoreUptoSaid : Prop := cloudMoreUptoRow.holds Tryd.pinned (OpenSpec.upto cloudMoreSpec)

/-- 'helioscopelaw06.CloudAsked', WHERE WHAT IT READS IS OF BULK AT MOST 1048576: true; the input reads as it did. -/
def cloudAskedUptoRow : OpenClaim := { program := "ytjigflnjgmgmnaadoor", sum := "bee9751c5adfccdb7c652148dc437ed3a0a459a320bf16e946c863bc1db569f4", func := "helioscope/helioscopelaw06.CloudAsked", spec := "cloudAsked", unfollowed := true, recurses := true, named := ["helioscope/cloud.nobody"], plainKeys := false, apart := false, laid := [("helioscope/cloud.nobody", laid_helioscope_cloud_nobody)], narrowed := true }
def CloudAskedUptoSaid : Prop := cloudAskedUptoRow.holds Tryd.pinned (OpenSpec.upto cloudAskedSpec)

/-- 'helioscopelaw06.CloudSteps', WHERE WHAT IT READS IS OF BULK AT MOST 1048576: true; the input reads as it did. -/
def cloudStepsUptoRow : OpenClaim := { program := "ytjigflnjgmgmnaadoor", sum := "bee9751c5adfccdb7c652148dc437ed3a0a459a320bf16e946c863bc1db569f4", func := "helioscope/helioscopelaw06.CloudSteps", spec := "cloudSteps", unfollowed := true, recurses := true, named := ["helioscope/cloud.nobody"], plainKeys := false, apart := false, laid := [("helioscope/cloud.nobody", laid_helioscope_cloud_nobody)], narrowed := true }
def CloudStepsUptoSaid : Prop := cloudStepsUptoRow.holds Tryd.pinned (OpenSpec.upto cloudStepsSpec)

/-- 'helioscopelaw06.CloudBack', WHERE WHAT IT READS IS OF BULK AT MOST 1048576: true; the input reads as it did. -/
def cloudBackUptoRow : OpenClaim := { program := "ytjigflnjgmgmnaadoor", sum := "bee9751c5adfccdb7c652148dc437ed3a0a459a320bf16e946c863bc1db569f4", func := "helioscope/helioscopelaw06.CloudBack", spec := "cloudBack", unfollowed := true, recurses := true, named := ["helioscope/cloud.nobody"], plainKeys := false, apart := false, laid := [("helioscope/cloud.nobody", laid_helioscope_cloud_nobody)], narrowed := true }
def CloudBackUptoSaid : Prop := cloudBackUptoRow.holds Tryd.pinned (OpenSpec.upto cloudBackSpec)

/-- 'helioscopelaw06.CloudRises', WHERE WHAT IT READS IS OF BULK AT MOST 1048576: true; the input reads as it did. -/
def cloudRisesUptoRow : OpenClaim := { program := "ytjigflnjgmgmnaadoor", sum := "bee9751c5adfccdb7c652148dc437ed3a0a459a320bf16e946c863bc1db569f4", func := "helioscope/helioscopelaw06.CloudRises", spec := "cloudRises", unfollowed := true, recurses := true, named := ["helioscope/cloud.nobody"], plainKeys := false, apart := false, laid := [("helioscope/cloud.nobody", laid_helioscope_cloud_nobody)], narrowed := true }
def CloudRisesUptoSaid : Prop := cloudRisesUptoRow.holds Tryd.pinned (OpenSpec.upto cloudRisesSpec)

/-- 'helioscopetop.TopAnewCloud', WHERE WHAT IT READS IS OF BULK AT MOST 1048576: true; the input reads as it did. -/
def topAnewCloudUptoRow : OpenClaim := { program := "ytjigflnjgmgmnaadoor", sum := "bee9751c5adfccdb7c652148dc437ed3a0a459a320bf16e946c863bc1db569f4", func := "helioscope/helioscopetop.TopAnewCloud", spec := "topAnewCloud", unfollowed := true, recurses := true, named := ["helioscope/cloud.nobody"], plainKeys := false, apart := false, laid := [("helioscope/cloud.nobody", laid_helioscope_cloud_nobody)], narrowed := true }
def TopAnewCloudUptoSaid : Prop := topAnewCloudUptoRow.holds Tryd.pinned (OpenSpec.upto topAnewCloudSpec)

end Rows
end Go.Proofs.YtjigflnjgmgmnaaDoor
