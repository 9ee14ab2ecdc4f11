/-
  DERIVED. GIVEN WITH THE SEED: THE CARDS: each row of YtjigflnjgmgmnaaDoorRows.lean that lists a variable, with what it lists TIED to the program's text (the seventh form; the later family's looks); each row that meets fmt, with fmt's text TOLD by the authors' own Lean function (tested against real Go, not proved from fmt's source: count such statements apart). THE CARD IS WHAT COUNTS. Prove the row's statement (the work); the ties are given (YtjigflnjgmgmnaaDoorTie.lean); close each card by the builder's one call (the guide's Derived/Test/ToyasCard.lean, 'card_holds'). Laid BY PROGRAM, IN A SANDBOX (cutbox-door.mjs). By AI agents, Wed Nov 11 2026. No macro, syntax, notation, axiom, sorry.
-/
import Derived.Test.YtjigflnjgmgmnaaDoorRows
import GoSem.ClaimSeven
namespace Go.Proofs.YtjigflnjgmgmnaaDoor
namespace Rows

/-- THE TIED CARD OF 'helioscopelaw06.CloudNumbers'. -/
def cloudNumbersCard : Claim7 := { stood := { row := cloudNumbersRow, standIns := [], harness := (true, "e2f335841daed45675fec1db3ae7461604c1789b41067d2d701c841afc835a3e"), looks := false }, kinds := [], alts := [], laidByText := true, laidKinds := [.data], laidTests := true, laidLooks := .later }
def CloudNumbersCardSaid : Prop := Claim7.holds Tryd.pinned (.plain (OpenSpec.ofChange cloudNumbersSpec)) cloudNumbersCard

/-- THE TIED CARD OF 'helioscopelaw06.CloudMonths'. -/
def cloudMonthsCard : Claim7 := { stood := { row := cloudMonthsRow, standIns := [], harness := (true, "e2f335841daed45675fec1db3ae7461604c1789b41067d2d701c841afc835a3e"), looks := false }, kinds := [], alts := [], laidByText := true, laidKinds := [.data], laidTests := true, laidLooks := .later }
def CloudMonthsCardSaid : Prop := Claim7.holds Tryd.pinned (.plain (OpenSpec.ofChange cloudMonthsSpec)) cloudMonthsCard

/-- THE TIED CARD OF 'helioscopelaw06.CloudTops'. -/
def cloudTopsCard : Claim7 := { stood := { row := cloudTopsRow, standIns := [], harness := (true, "e2f335841daed45675fec1db3ae7461604c1789b41067d2d701c841afc835a3e"), looks := false }, kinds := [], alts := [], laidByText := true, laidKinds := [.data], laidTests := true, laidLooks := .later }
def CloudTopsCardSaid : Prop := Claim7.holds Tryd.pinned (.plain (OpenSpec.ofChange cloudTopsSpec)) cloudTopsCard

/-- THE TIED CARD OF 'helioscopelaw06.CloudAsks'. -/
def cloudAsksCard : Claim7 := { stood := { row := cloudAsksRow, standIns := [], harness := (true, "e2f335841daed45675fec1db3ae7461604c1789b41067d2d701c841afc835a3e"), looks := false }, kinds := [], alts := [], laidByText := true, laidKinds := [.data], laidTests := true, laidLooks := .later }
def CloudAsksCardSaid : Prop := Claim7.holds Tryd.pinned (.plain (OpenSpec.ofChange cloudAsksSpec)) cloudAsksCard

/-- THE TIED CARD OF 'helioscopelaw06.CloudWrongs'. -/
def cloudWrongsCard : Claim7 := { stood := { row := cloudWrongsRow, standIns := [], harness := (true, "e2f335841daed45675fec1db3ae7461604c1789b41067d2d701c841afc835a3e"), looks := false }, kinds := [], alts := [], laidByText := true, laidKinds := [.data], laidTests := true, laidLooks := .later }
def CloudWrongsCardSaid : Prop := Claim7.holds Tryd.pinned (.plain (OpenSpec.ofChange cloudWrongsSpec)) cloudWrongsCard

/-- THE TIED CARD OF 'helioscopelaw06.CloudKnown'. -/
def cloudKnownCard : Claim7 := { stood := { row := cloudKnownRow, standIns := [], harness := (true, "e2f335841daed45675fec1db3ae7461604c1789b41067d2d701c841afc835a3e"), looks := false }, kinds := [], alts := [], laidByText := true, laidKinds := [.data], laidTests := true, laidLooks := .later }
def CloudKnownCardSaid : Prop := Claim7.holds Tryd.pinned (.plain (OpenSpec.ofChange cloudKnownSpec)) cloudKnownCard

/-- THE TIED CARD OF 'helioscopelaw06.CloudTrue'. -/
def cloudTrueCard : Claim7 := { stood := { row := cloudTrueRow, standIns := [], harness := (true, "e2f335841daed45675fec1db3ae7461604c1789b41067d2d701c841afc835a3e"), looks := false }, kinds := [], alts := [], laidByText := true, laidKinds := [.data], laidTests := true, laidLooks := .later }
def CloudTrueCardSaid : Prop := Claim7.holds Tryd.pinned (.plain (OpenSpec.ofChange cloudTrueSpec)) cloudTrueCard

/-- THE TIED CARD OF 'helioscopelaw06.CloudEnds'. -/
def cloudEndsCard : Claim7 := { stood := { row := cloudEndsRow, standIns := [], harness := (true, "e2f335841daed45675fec1db3ae7461604c1789b41067d2d701c841afc835a3e"), looks := false }, kinds := [], alts := [], laidByText := true, laidKinds := [.data], laidTests := true, laidLooks := .later }
def CloudEndsCardSaid : Prop := Claim7.holds Tryd.pinned (.plain (OpenSpec.ofChange cloudEndsSpec)) cloudEndsCard

/-- THE TIED CARD OF 'helioscopelaw06.CloudFewest'. -/
def cloudFewestCard : Claim7 := { stood := { row := cloudFewestRow, standIns := [], harness := (true, "e2f335841daed45675fec1db3ae7461604c1789b41067d2d701c841afc835a3e"), looks := false }, kinds := [], alts := [], laidByText := true, laidKinds := [.data], laidTests := true, laidLooks := .later }
def CloudFewestCardSaid : Prop := Claim7.holds Tryd.pinned (.plain (OpenSpec.ofChange cloudFewestSpec)) cloudFewestCard

/-- THE TIED CARD OF 'helioscopelaw06.CloudMore'. -/
def cloudMoreCard : Claim7 := { stood := { row := cloudMoreRow, standIns := [], harness := (true, "e2f335841daed45675fec1db3ae7461604c1789b41067d2d701c841afc835a3e"), looks := false }, kinds := [], alts := [], laidByText := true, laidKinds := [.data], laidTests := true, laidLooks := .later }
def CloudMoreCardSaid : Prop := Claim7.holds Tryd.pinned (.plain (OpenSpec.ofChange cloudMoreSpec)) cloudMoreCard

/-- THE TIED CARD OF 'helioscopelaw06.CloudAsked'. -/
def cloudAskedCard : Claim7 := { stood := { row := cloudAskedRow, standIns := [], harness := (true, "e2f335841daed45675fec1db3ae7461604c1789b41067d2d701c841afc835a3e"), looks := false }, kinds := [], alts := [], laidByText := true, laidKinds := [.data], laidTests := true, laidLooks := .later }
def CloudAskedCardSaid : Prop := Claim7.holds Tryd.pinned (.plain (OpenSpec.ofChange cloudAskedSpec)) cloudAskedCard

/-- THE TIED CARD OF 'helioscopelaw06.CloudSteps'. -/
def cloudStepsCard : Claim7 := { stood := { row := cloudStepsRow, standIns := [], harness := (true, "e2f335841daed45675fec1db3ae7461604c1789b41067d2d701c841afc835a3e"), looks := false }, kinds := [], alts := [], laidByText := true, laidKinds := [.data], laidTests := true, laidLooks := .later }
def CloudStepsCardSaid : Prop := Claim7.holds Tryd.pinned (.plain (OpenSpec.ofChange cloudStepsSpec)) cloudStepsCard

/-- THE TIED CARD OF 'helioscopelaw06.CloudBack'. -/
def cloudBackCard : Claim7 := { stood := { row := cloudBackRow, standIns := [], harness := (true, "e2f335841daed45675fec1db3ae7461604c1789b41067d2d701c841afc835a3e"), looks := false }, kinds := [], alts := [], laidByText := true, laidKinds := [.data], laidTests := true, laidLooks := .later }
def CloudBackCardSaid : Prop := Claim7.holds Tryd.pinned (.plain (OpenSpec.ofChange cloudBackSpec)) cloudBackCard

/-- THE TIED CARD OF 'helioscopelaw06.CloudRises'. -/
def cloudRisesCard : Claim7 := { stood := { row := cloudRisesRow, standIns := [], harness := (true, "e2f335841daed45675fec1db3ae7461604c1789b41067d2d701c841afc835a3e"), looks := false }, kinds := [], alts := [], laidByText := true, laidKinds := [.data], laidTests := true, laidLooks := .later }
def CloudRisesCardSaid : Prop := Claim7.holds Tryd.pinned (.plain (OpenSpec.ofChange cloudRisesSpec)) cloudRisesCard

/-- THE TIED CARD OF 'helioscopetop.TopAnewCloud'. -/
def topAnewCloudCard : Claim7 := { stood := { row := topAnewCloudRow, standIns := [], harness := (true, "e2f335841daed45675fec1db3ae7461604c1789b41067d2d701c841afc835a3e"), looks := false }, kinds := [], alts := [], laidByText := true, laidKinds := [.data], laidTests := true, laidLooks := .later }
def TopAnewCloudCardSaid : Prop := Claim7.holds Tryd.pinned (.plain (OpenSpec.ofChange topAnewCloudSpec)) topAnewCloudCard

/-- THE SECOND FORM's CARD OF 'helioscopelaw06.CloudNumbers'. -/
def cloudNumbersUptoCard : Claim7 := { stood := { row := cloudNumbersUptoRow, standIns := [], harness := (true, "e2f335841daed45675fec1db3ae7461604c1789b41067d2d701c841afc835a3e"), looks := false }, kinds := [], alts := [], laidByText := true, laidKinds := [.data], laidTests := true, laidLooks := .later }
def CloudNumbersUptoCardSaid : Prop := Claim7.holds Tryd.pinned (.plain (OpenSpec.upto cloudNumbersSpec)) cloudNumbersUptoCard

/-- THE SECOND FORM's CARD OF 'helioscopelaw06.CloudMonths'. -/
def cloudMonthsUptoCard : Claim7 := { stood := { row := cloudMonthsUptoRow, standIns := [], harness := (true, "e2f335841daed45675fec1db3ae7461604c1789b41067d2d701c841afc835a3e"), looks := false }, kinds := [], alts := [], laidByText := true, laidKinds := [.data], laidTests := true, laidLooks := .later }
def CloudMonthsUptoCardSaid : Prop := Claim7.holds Tryd.pinned (.plain (OpenSpec.upto cloudMonthsSpec)) cloudMonthsUptoCard

/-- THE SECOND FORM's CARD OF 'helioscopelaw06.CloudTops'. -/
def cloudTopsUptoCard : Claim7 := { stood := { row := cloudTopsUptoRow, standIns := [], harness := (true, "e2f335841daed45675fec1db3ae7461604c1789b41067d2d701c841afc835a3e"), looks := false }, kinds := [], alts := [], laidByText := true, laidKinds := [.data], laidTests := true, laidLooks := .later }
def CloudTopsUptoCardSaid : Prop := Claim7.holds Tryd.pinned (.plain (OpenSpec.upto cloudTopsSpec)) cloudTopsUptoCard

/-- THE SECOND FORM's CARD OF 'helioscopelaw06.CloudAsks'. -/
def cloudAsksUptoCard : Claim7 := { stood := { row := cloudAsksUptoRow, standIns := [], harness := (true, "e2f335841daed45675fec1db3ae7461604c1789b41067d2d701c841afc835a3e"), looks := false }, kinds := [], alts := [], laidByText := true, laidKinds := [.data], laidTests := true, laidLooks := .later }
def CloudAsksUptoCardSaid : Prop := Claim7.holds Tryd.pinned (.plain (OpenSpec.upto cloudAsksSpec)) cloudAsksUptoCard

/-- THE SECOND FORM's CARD OF 'helioscopelaw06.CloudWrongs'. -/
def cloudWrongsUptoCard : Claim7 := { stood := { row := cloudWrongsUptoRow, standIns := [], harness := (true, "e2f335841daed45675fec1db3ae7461604c1789b41067d2d701c841afc835a3e"), looks := false }, kinds := [], alts := [], laidByText := true, laidKinds := [.data], laidTests := true, laidLooks := .later }
def CloudWrongsUptoCardSaid : Prop := Claim7.holds Tryd.pinned (.plain (OpenSpec.upto cloudWrongsSpec)) cloudWrongsUptoCard

/-- THE SECOND FORM's CARD OF 'helioscopelaw06.CloudKnown'. -/
def cloudKnownUptoCard : Claim7 := { stood := { row := cloudKnownUptoRow, standIns := [], harness := (true, "e2f335841daed45675fec1db3ae7461604c1789b41067d2d701c841afc835a3e"), looks := false }, kinds := [], alts := [], laidByText := true, laidKinds := [.data], laidTests := true, laidLooks := .later }
def CloudKnownUptoCardSaid : Prop := Claim7.holds Tryd.pinned (.plain (OpenSpec.upto cloudKnownSpec)) cloudKnownUptoCard

/-- THE SECOND FORM's CARD OF 'helioscopelaw06.CloudTrue'. -/
def cloudTrueUptoCard : Claim7 := { stood := { row := cloudTrueUptoRow, standIns := [], harness := (true, "e2f335841daed45675fec1db3ae7461604c1789b41067d2d701c841afc835a3e"), looks := false }, kinds := [], alts := [], laidByText := true, laidKinds := [.data], laidTests := true, laidLooks := .later }
def CloudTrueUptoCardSaid : Prop := Claim7.holds Tryd.pinned (.plain (OpenSpec.upto cloudTrueSpec)) cloudTrueUptoCard

/-- THE SECOND FORM's CARD OF 'helioscopelaw06.CloudEnds'. -/
def cloudEndsUptoCard : Claim7 := { stood := { row := cloudEndsUptoRow, standIns := [], harness := (true, "e2f335841daed45675fec1db3ae7461604c1789b41067d2d701c841afc835a3e"), looks := false }, kinds := [], alts := [], laidByText := true, laidKinds := [.data], laidTests := true, laidLooks := .later }
def CloudEndsUptoCardSaid : Prop := Claim7.holds Tryd.pinned (.plain (OpenSpec.upto cloudEndsSpec)) cloudEndsUptoCard

/-- THE SECOND FORM's CARD OF 'helioscopelaw06.CloudFewest'. -/
def cloudFewestUptoCard : Claim7 := { stood := { row := cloudFewestUptoRow, standIns := [], harness := (true, "e2f335841daed45675fec1db3ae7461604c1789b41067d2d701c841afc835a3e"), looks := false }, kinds := [], alts := [], laidByText := true, laidKinds := [.data], laidTests := true, laidLooks := .later }
def CloudFewestUptoCardSaid : Prop := Claim7.holds Tryd.pinned (.plain (OpenSpec.upto cloudFewestSpec)) cloudFewestUptoCard

/-- THE SECOND FORM's CARD OF 'helioscopelaw06.CloudMore'. -/
def cloudMoreUptoCard : Claim7 := { stood := { row := cloudMoreUptoRow, standIns := [], harness := (true, "e2f335841daed45675fec1db3ae7461604c1789b41067d2d701c841afc835a3e"), looks := false }, kinds := [], alts := [], laidByText := true, laidKinds := [.data], laidTests := true, laidLooks := .later }
def CloudMoreUptoCardSaid : Prop := Claim7.holds Tryd.pinned (.plain (OpenSpec.upto cloudMoreSpec)) cloudMoreUptoCard

/-- THE SECOND FORM's CARD OF 'helioscopelaw06.CloudAsked'. -/
def cloudAskedUptoCard : Claim7 := { stood := { row := cloudAskedUptoRow, standIns := [], harness := (true, "e2f335841daed45675fec1db3ae7461604c1789b41067d2d701c841afc835a3e"), looks := false }, kinds := [], alts := [], laidByText := true, laidKinds := [.data], laidTests := true, laidLooks := .later }
def CloudAskedUptoCardSaid : Prop := Claim7.holds Tryd.pinned (.plain (OpenSpec.upto cloudAskedSpec)) cloudAskedUptoCard

/-- THE SECOND FORM's CARD OF 'helioscopelaw06.CloudSteps'. -/
def cloudStepsUptoCard : Claim7 := { stood := { row := cloudStepsUptoRow, standIns := [], harness := (true, "e2f335841daed45675fec1db3ae7461604c1789b41067d2d701c841afc835a3e"), looks := false }, kinds := [], alts := [], laidByText := true, laidKinds := [.data], laidTests := true, laidLooks := .later }
def CloudStepsUptoCardSaid : Prop := Claim7.holds Tryd.pinned (.plain (OpenSpec.upto cloudStepsSpec)) cloudStepsUptoCard

/-- THE SECOND FORM's CARD OF 'helioscopelaw06.CloudBack'. -/
def cloudBackUptoCard : Claim7 := { stood := { row := cloudBackUptoRow, standIns := [], harness := (true, "e2f335841daed45675fec1db3ae7461604c1789b41067d2d701c841afc835a3e"), looks := false }, kinds := [], alts := [], laidByText := true, laidKinds := [.data], laidTests := true, laidLooks := .later }
def CloudBackUptoCardSaid : Prop := Claim7.holds Tryd.pinned (.plain (OpenSpec.upto cloudBackSpec)) cloudBackUptoCard

/-- THE SECOND FORM's CARD OF 'helioscopelaw06.CloudRises'. -/
def cloudRisesUptoCard : Claim7 := { stood := { row := cloudRisesUptoRow, standIns := [], harness := (true, "e2f335841daed45675fec1db3ae7461604c1789b41067d2d701c841afc835a3e"), looks := false }, kinds := [], alts := [], laidByText := true, laidKinds := [.data], laidTests := true, laidLooks := .later }
def CloudRisesUptoCardSaid : Prop := Claim7.holds Tryd.pinned (.plain (OpenSpec.upto cloudRisesSpec)) cloudRisesUptoCard

/-- THE SECOND FORM's CARD OF 'helioscopetop.TopAnewCloud'. -/
def topAnewCloudUptoCard : Claim7 := { stood := { row := topAnewCloudUptoRow, standIns := [], harness := (true, "e2f335841daed45675fec1db3ae7461604c1789b41067d2d701c841afc835a3e"), looks := false }, kinds := [], alts := [], laidByText := true, laidKinds := [.data], laidTests := true, laidLooks := .later }
def TopAnewCloudUptoCardSaid : Prop := Claim7.holds Tryd.pinned (.plain (OpenSpec.upto topAnewCloudSpec)) topAnewCloudUptoCard
end Rows
end Go.Proofs.YtjigflnjgmgmnaaDoor
