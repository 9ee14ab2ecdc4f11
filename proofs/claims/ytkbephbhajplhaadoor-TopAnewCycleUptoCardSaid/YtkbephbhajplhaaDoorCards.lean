/-
  DERIVED. GIVEN WITH THE SEED: THE CARDS: each row of YtkbephbhajplhaaDoorRows.lean that lists a variable, with what it lists TIED to the program's text (the seventh form; the later family's looks); each row that meets fmt, with fmt's text TOLD by the authors' own Lean function (tested against real Go, not proved from fmt's source: count such statements apart). THE CARD IS WHAT COUNTS. Prove the row's statement (the work); the ties are given (YtkbephbhajplhaaDoorTie.lean); close each card by the builder's one call (the guide's Derived/Test/ToyasCard.lean, 'card_holds'). Laid BY PROGRAM, IN A SANDBOX (cutbox-door.mjs). By AI agents, Wed Nov 11 2026. No macro, syntax, notation, axiom, sorry.
-/
import Derived.Test.YtkbephbhajplhaaDoorRows
import GoSem.ClaimSeven
namespace Go.Proofs.YtkbephbhajplhaaDoor
namespace Rows

/-- THE TIED CARD OF 'helioscopelaw10.CycleNumbers'. -/
def cycleNumbersCard : Claim7 := { stood := { row := cycleNumbersRow, standIns := [], harness := (true, "c4c19e11db6dd03cb01b21b45ef7cdb0964b33feaa6018058e96404da25f4dfe"), looks := false }, kinds := [], alts := [], laidByText := true, laidKinds := [.data], laidTests := true, laidLooks := .later }
def CycleNumbersCardSaid : Prop := Claim7.holds Tryd.pinned (.plain (OpenSpec.ofChange cycleNumbersSpec)) cycleNumbersCard

/-- THE TIED CARD OF 'helioscopelaw10.CycleTurns'. -/
def cycleTurnsCard : Claim7 := { stood := { row := cycleTurnsRow, standIns := [], harness := (true, "c4c19e11db6dd03cb01b21b45ef7cdb0964b33feaa6018058e96404da25f4dfe"), looks := false }, kinds := [], alts := [], laidByText := true, laidKinds := [.data], laidTests := true, laidLooks := .later }
def CycleTurnsCardSaid : Prop := Claim7.holds Tryd.pinned (.plain (OpenSpec.ofChange cycleTurnsSpec)) cycleTurnsCard

/-- THE TIED CARD OF 'helioscopelaw10.CycleWrecks'. -/
def cycleWrecksCard : Claim7 := { stood := { row := cycleWrecksRow, standIns := [], harness := (true, "c4c19e11db6dd03cb01b21b45ef7cdb0964b33feaa6018058e96404da25f4dfe"), looks := false }, kinds := [], alts := [], laidByText := true, laidKinds := [.data], laidTests := true, laidLooks := .later }
def CycleWrecksCardSaid : Prop := Claim7.holds Tryd.pinned (.plain (OpenSpec.ofChange cycleWrecksSpec)) cycleWrecksCard

/-- THE TIED CARD OF 'helioscopelaw10.CycleWrongs'. -/
def cycleWrongsCard : Claim7 := { stood := { row := cycleWrongsRow, standIns := [], harness := (true, "c4c19e11db6dd03cb01b21b45ef7cdb0964b33feaa6018058e96404da25f4dfe"), looks := false }, kinds := [], alts := [], laidByText := true, laidKinds := [.data], laidTests := true, laidLooks := .later }
def CycleWrongsCardSaid : Prop := Claim7.holds Tryd.pinned (.plain (OpenSpec.ofChange cycleWrongsSpec)) cycleWrongsCard

/-- THE TIED CARD OF 'helioscopelaw10.CycleKnown'. -/
def cycleKnownCard : Claim7 := { stood := { row := cycleKnownRow, standIns := [], harness := (true, "c4c19e11db6dd03cb01b21b45ef7cdb0964b33feaa6018058e96404da25f4dfe"), looks := false }, kinds := [], alts := [], laidByText := true, laidKinds := [.data], laidTests := true, laidLooks := .later }
def CycleKnownCardSaid : Prop := Claim7.holds Tryd.pinned (.plain (OpenSpec.ofChange cycleKnownSpec)) cycleKnownCard

/-- THE TIED CARD OF 'helioscopelaw10.CycleTrue'. -/
def cycleTrueCard : Claim7 := { stood := { row := cycleTrueRow, standIns := [], harness := (true, "c4c19e11db6dd03cb01b21b45ef7cdb0964b33feaa6018058e96404da25f4dfe"), looks := false }, kinds := [], alts := [], laidByText := true, laidKinds := [.data], laidTests := true, laidLooks := .later }
def CycleTrueCardSaid : Prop := Claim7.holds Tryd.pinned (.plain (OpenSpec.ofChange cycleTrueSpec)) cycleTrueCard

/-- THE TIED CARD OF 'helioscopelaw10.CycleEnds'. -/
def cycleEndsCard : Claim7 := { stood := { row := cycleEndsRow, standIns := [], harness := (true, "c4c19e11db6dd03cb01b21b45ef7cdb0964b33feaa6018058e96404da25f4dfe"), looks := false }, kinds := [], alts := [], laidByText := true, laidKinds := [.data], laidTests := true, laidLooks := .later }
def CycleEndsCardSaid : Prop := Claim7.holds Tryd.pinned (.plain (OpenSpec.ofChange cycleEndsSpec)) cycleEndsCard

/-- THE TIED CARD OF 'helioscopelaw10.CycleFewest'. -/
def cycleFewestCard : Claim7 := { stood := { row := cycleFewestRow, standIns := [], harness := (true, "c4c19e11db6dd03cb01b21b45ef7cdb0964b33feaa6018058e96404da25f4dfe"), looks := false }, kinds := [], alts := [], laidByText := true, laidKinds := [.data], laidTests := true, laidLooks := .later }
def CycleFewestCardSaid : Prop := Claim7.holds Tryd.pinned (.plain (OpenSpec.ofChange cycleFewestSpec)) cycleFewestCard

/-- THE TIED CARD OF 'helioscopelaw10.CycleMore'. -/
def cycleMoreCard : Claim7 := { stood := { row := cycleMoreRow, standIns := [], harness := (true, "c4c19e11db6dd03cb01b21b45ef7cdb0964b33feaa6018058e96404da25f4dfe"), looks := false }, kinds := [], alts := [], laidByText := true, laidKinds := [.data], laidTests := true, laidLooks := .later }
def CycleMoreCardSaid : Prop := Claim7.holds Tryd.pinned (.plain (OpenSpec.ofChange cycleMoreSpec)) cycleMoreCard

/-- THE TIED CARD OF 'helioscopelaw10.CycleApart'. -/
def cycleApartCard : Claim7 := { stood := { row := cycleApartRow, standIns := [], harness := (true, "c4c19e11db6dd03cb01b21b45ef7cdb0964b33feaa6018058e96404da25f4dfe"), looks := false }, kinds := [], alts := [], laidByText := true, laidKinds := [.data], laidTests := true, laidLooks := .later }
def CycleApartCardSaid : Prop := Claim7.holds Tryd.pinned (.plain (OpenSpec.ofChange cycleApartSpec)) cycleApartCard

/-- THE TIED CARD OF 'helioscopelaw10.CycleBack'. -/
def cycleBackCard : Claim7 := { stood := { row := cycleBackRow, standIns := [], harness := (true, "c4c19e11db6dd03cb01b21b45ef7cdb0964b33feaa6018058e96404da25f4dfe"), looks := false }, kinds := [], alts := [], laidByText := true, laidKinds := [.data], laidTests := true, laidLooks := .later }
def CycleBackCardSaid : Prop := Claim7.holds Tryd.pinned (.plain (OpenSpec.ofChange cycleBackSpec)) cycleBackCard

/-- THE TIED CARD OF 'helioscopelaw10.CycleWider'. -/
def cycleWiderCard : Claim7 := { stood := { row := cycleWiderRow, standIns := [], harness := (true, "c4c19e11db6dd03cb01b21b45ef7cdb0964b33feaa6018058e96404da25f4dfe"), looks := false }, kinds := [], alts := [], laidByText := true, laidKinds := [.data], laidTests := true, laidLooks := .later }
def CycleWiderCardSaid : Prop := Claim7.holds Tryd.pinned (.plain (OpenSpec.ofChange cycleWiderSpec)) cycleWiderCard

/-- THE TIED CARD OF 'helioscopelaw10.CycleMeans'. -/
def cycleMeansCard : Claim7 := { stood := { row := cycleMeansRow, standIns := [], harness := (true, "c4c19e11db6dd03cb01b21b45ef7cdb0964b33feaa6018058e96404da25f4dfe"), looks := false }, kinds := [], alts := [], laidByText := true, laidKinds := [.data], laidTests := true, laidLooks := .later }
def CycleMeansCardSaid : Prop := Claim7.holds Tryd.pinned (.plain (OpenSpec.ofChange cycleMeansSpec)) cycleMeansCard

/-- THE TIED CARD OF 'helioscopetop.TopAnewCycle'. -/
def topAnewCycleCard : Claim7 := { stood := { row := topAnewCycleRow, standIns := [], harness := (true, "c4c19e11db6dd03cb01b21b45ef7cdb0964b33feaa6018058e96404da25f4dfe"), looks := false }, kinds := [], alts := [], laidByText := true, laidKinds := [.data], laidTests := true, laidLooks := .later }
def TopAnewCycleCardSaid : Prop := Claim7.holds Tryd.pinned (.plain (OpenSpec.ofChange topAnewCycleSpec)) topAnewCycleCard

/-- THE SECOND FORM's CARD OF 'helioscopelaw10.CycleNumbers'. -/
def cycleNumbersUptoCard : Claim7 := { stood := { row := cycleNumbersUptoRow, standIns := [], harness := (true, "c4c19e11db6dd03cb01b21b45ef7cdb0964b33feaa6018058e96404da25f4dfe"), looks := false }, kinds := [], alts := [], laidByText := true, laidKinds := [.data], laidTests := true, laidLooks := .later }
def CycleNumbersUptoCardSaid : Prop := Claim7.holds Tryd.pinned (.plain (OpenSpec.upto cycleNumbersSpec)) cycleNumbersUptoCard

/-- THE SECOND FORM's CARD OF 'helioscopelaw10.CycleTurns'. -/
def cycleTurnsUptoCard : Claim7 := { stood := { row := cycleTurnsUptoRow, standIns := [], harness := (true, "c4c19e11db6dd03cb01b21b45ef7cdb0964b33feaa6018058e96404da25f4dfe"), looks := false }, kinds := [], alts := [], laidByText := true, laidKinds := [.data], laidTests := true, laidLooks := .later }
def CycleTurnsUptoCardSaid : Prop := Claim7.holds Tryd.pinned (.plain (OpenSpec.upto cycleTurnsSpec)) cycleTurnsUptoCard

/-- THE SECOND FORM's CARD OF 'helioscopelaw10.CycleWrecks'. -/
def cycleWrecksUptoCard : Claim7 := { stood := { row := cycleWrecksUptoRow, standIns := [], harness := (true, "c4c19e11db6dd03cb01b21b45ef7cdb0964b33feaa6018058e96404da25f4dfe"), looks := false }, kinds := [], alts := [], laidByText := true, laidKinds := [.data], laidTests := true, laidLooks := .later }
def CycleWrecksUptoCardSaid : Prop := Claim7.holds Tryd.pinned (.plain (OpenSpec.upto cycleWrecksSpec)) cycleWrecksUptoCard

/-- THE SECOND FORM's CARD OF 'helioscopelaw10.CycleWrongs'. -/
def cycleWrongsUptoCard : Claim7 := { stood := { row := cycleWrongsUptoRow, standIns := [], harness := (true, "c4c19e11db6dd03cb01b21b45ef7cdb0964b33feaa6018058e96404da25f4dfe"), looks := false }, kinds := [], alts := [], laidByText := true, laidKinds := [.data], laidTests := true, laidLooks := .later }
def CycleWrongsUptoCardSaid : Prop := Claim7.holds Tryd.pinned (.plain (OpenSpec.upto cycleWrongsSpec)) cycleWrongsUptoCard

/-- THE SECOND FORM's CARD OF 'helioscopelaw10.CycleKnown'. -/
def cycleKnownUptoCard : Claim7 := { stood := { row := cycleKnownUptoRow, standIns := [], harness := (true, "c4c19e11db6dd03cb01b21b45ef7cdb0964b33feaa6018058e96404da25f4dfe"), looks := false }, kinds := [], alts := [], laidByText := true, laidKinds := [.data], laidTests := true, laidLooks := .later }
def CycleKnownUptoCardSaid : Prop := Claim7.holds Tryd.pinned (.plain (OpenSpec.upto cycleKnownSpec)) cycleKnownUptoCard

/-- THE SECOND FORM's CARD OF 'helioscopelaw10.CycleTrue'. -/
def cycleTrueUptoCard : Claim7 := { stood := { row := cycleTrueUptoRow, standIns := [], harness := (true, "c4c19e11db6dd03cb01b21b45ef7cdb0964b33feaa6018058e96404da25f4dfe"), looks := false }, kinds := [], alts := [], laidByText := true, laidKinds := [.data], laidTests := true, laidLooks := .later }
def CycleTrueUptoCardSaid : Prop := Claim7.holds Tryd.pinned (.plain (OpenSpec.upto cycleTrueSpec)) cycleTrueUptoCard

/-- THE SECOND FORM's CARD OF 'helioscopelaw10.CycleEnds'. -/
def cycleEndsUptoCard : Claim7 := { stood := { row := cycleEndsUptoRow, standIns := [], harness := (true, "c4c19e11db6dd03cb01b21b45ef7cdb0964b33feaa6018058e96404da25f4dfe"), looks := false }, kinds := [], alts := [], laidByText := true, laidKinds := [.data], laidTests := true, laidLooks := .later }
def CycleEndsUptoCardSaid : Prop := Claim7.holds Tryd.pinned (.plain (OpenSpec.upto cycleEndsSpec)) cycleEndsUptoCard

/-- THE SECOND FORM's CARD OF 'helioscopelaw10.CycleFewest'. -/
def cycleFewestUptoCard : Claim7 := { stood := { row := cycleFewestUptoRow, standIns := [], harness := (true, "c4c19e11db6dd03cb01b21b45ef7cdb0964b33feaa6018058e96404da25f4dfe"), looks := false }, kinds := [], alts := [], laidByText := true, laidKinds := [.data], laidTests := true, laidLooks := .later }
def CycleFewestUptoCardSaid : Prop := Claim7.holds Tryd.pinned (.plain (OpenSpec.upto cycleFewestSpec)) cycleFewestUptoCard

/-- THE SECOND FORM's CARD OF 'helioscopelaw10.CycleMore'. -/
def cycleMoreUptoCard : Claim7 := { stood := { row := cycleMoreUptoRow, standIns := [], harness := (true, "c4c19e11db6dd03cb01b21b45ef7cdb0964b33feaa6018058e96404da25f4dfe"), looks := false }, kinds := [], alts := [], laidByText := true, laidKinds := [.data], laidTests := true, laidLooks := .later }
def CycleMoreUptoCardSaid : Prop := Claim7.holds Tryd.pinned (.plain (OpenSpec.upto cycleMoreSpec)) cycleMoreUptoCard

/-- THE SECOND FORM's CARD OF 'helioscopelaw10.CycleApart'. -/
def cycleApartUptoCard : Claim7 := { stood := { row := cycleApartUptoRow, standIns := [], harness := (true, "c4c19e11db6dd03cb01b21b45ef7cdb0964b33feaa6018058e96404da25f4dfe"), looks := false }, kinds := [], alts := [], laidByText := true, laidKinds := [.data], laidTests := true, laidLooks := .later }
def CycleApartUptoCardSaid : Prop := Claim7.holds Tryd.pinned (.plain (OpenSpec.upto cycleApartSpec)) cycleApartUptoCard

/-- THE SECOND FORM's CARD OF 'helioscopelaw10.CycleBack'. -/
def cycleBackUptoCard : Claim7 := { stood := { row := cycleBackUptoRow, standIns := [], harness := (true, "c4c19e11db6dd03cb01b21b45ef7cdb0964b33feaa6018058e96404da25f4dfe"), looks := false }, kinds := [], alts := [], laidByText := true, laidKinds := [.data], laidTests := true, laidLooks := .later }
def CycleBackUptoCardSaid : Prop := Claim7.holds Tryd.pinned (.plain (OpenSpec.upto cycleBackSpec)) cycleBackUptoCard

/-- THE SECOND FORM's CARD OF 'helioscopelaw10.CycleWider'. -/
def cycleWiderUptoCard : Claim7 := { stood := { row := cycleWiderUptoRow, standIns := [], harness := (true, "c4c19e11db6dd03cb01b21b45ef7cdb0964b33feaa6018058e96404da25f4dfe"), looks := false }, kinds := [], alts := [], laidByText := true, laidKinds := [.data], laidTests := true, laidLooks := .later }
def CycleWiderUptoCardSaid : Prop := Claim7.holds Tryd.pinned (.plain (OpenSpec.upto cycleWiderSpec)) cycleWiderUptoCard

/-- THE SECOND FORM's CARD OF 'helioscopelaw10.CycleMeans'. -/
def cycleMeansUptoCard : Claim7 := { stood := { row := cycleMeansUptoRow, standIns := [], harness := (true, "c4c19e11db6dd03cb01b21b45ef7cdb0964b33feaa6018058e96404da25f4dfe"), looks := false }, kinds := [], alts := [], laidByText := true, laidKinds := [.data], laidTests := true, laidLooks := .later }
def CycleMeansUptoCardSaid : Prop := Claim7.holds Tryd.pinned (.plain (OpenSpec.upto cycleMeansSpec)) cycleMeansUptoCard

/-- THE SECOND FORM's CARD OF 'helioscopetop.TopAnewCycle'. -/
def topAnewCycleUptoCard : Claim7 := { stood := { row := topAnewCycleUptoRow, standIns := [], harness := (true, "c4c19e11db6dd03cb01b21b45ef7cdb0964b33feaa6018058e96404da25f4dfe"), looks := false }, kinds := [], alts := [], laidByText := true, laidKinds := [.data], laidTests := true, laidLooks := .later }
def TopAnewCycleUptoCardSaid : Prop := Claim7.holds Tryd.pinned (.plain (OpenSpec.upto topAnewCycleSpec)) topAnewCycleUptoCard
end Rows
end Go.Proofs.YtkbephbhajplhaaDoor
