/- CycleKnown returns true for every input, and leaves it as it was (the tied card). Conditions: none beyond the card's own. -/
import Derived.Test.YtkbephbhajplhaaDoorCyCard
import Derived.Test.YtkbephbhajplhaaDoorCyAw
import Derived.Test.YtkbephbhajplhaaDoorCyKK
namespace Go.Proofs.YtkbephbhajplhaaDoor
open Go Go.Gh Go.ChangeShapes Go.WideShapes Go.ChangeAt Go.RowKit

theorem cycleKnown_con : ConOK cx23 7 ⟨[], [.bool], F7⟩ := ghost_ok ok23 S7 6000 7 _ _

set_option maxRecDepth 100000 in
theorem cycleKnown_lifted (os : Os) (started : os.Started) (H : Type) (enc : TypeId × Value → H) :
    ReturnsInHanded {} Tryd.checked os 7 .any (fun w args => (Rows.cycleKnownSpec.pre enc Tryd.prog Tryd.f7 [] false w args ∧ laidMetH Tryd.prog laidNob w) ∧ sizedMet enc Tryd.prog Tryd.f7 (OpenSpec.ofChange Rows.cycleKnownSpec) false w args)
      (Rows.cycleKnownSpec.post enc Tryd.prog Tryd.f7 false true false false) := by
  refine returnsInHanded_of_change_and (C := Tryd.checked) (X := fun w _ => laidMetH Tryd.prog laidNob w) (fun _ _ _ hh h => h.of_heap hh) own1 started (by kernel_rfl) Tryd.func7
    (ChangeSpec.witness_at (enc := enc) (C := Tryd.checked) (os := os) (X := fun w _ => laidMetH Tryd.prog laidNob w) false (laidW os) #[] 8 rfl (by kernel_rfl) (by kernel_rfl) (by kernel_rfl) (by kernel_rfl) (by kernel_rfl) (laidW_met os _)) ?_
  intro W base args ds gs before hval hW _ _ hL _
  exact law_contract cycleKnown_con laidOut1 (B := 4) (by kernel_rfl) (by kernel_rfl) (by kernel_rfl) (fun ds hds => by
    match ds, hds with
    | [], _ => exact ⟨rfl, rfl, rfl⟩) rfl (fun _ _ => L7) hval hW (glob_ok hL rfl)

theorem cycleKnown_holds : Rows.CycleKnownSaid :=
  OpenClaim.holds_of_wide 7 Tryd.f7 rfl rfl rfl rfl rfl rfl rfl ⟨rfl, rfl, rfl, rfl, rfl⟩ rfl rfl rfl rfl rfl (by kernel_rfl) Tryd.func7 (by kernel_rfl)
    (of_decide_eq_true (by kernel_rfl)) (by unfold Func.isWrapper; first | (rw [if_pos (by decide +kernel)]; kernel_rfl) | (rw [if_neg (by decide +kernel)]; exact ⟨rfl, rfl⟩))
    (fun os started H enc _ => cycleKnown_lifted os started H enc)
theorem cycleKnown_card_holds : Rows.CycleKnownCardSaid :=
  Claim7.holds_tied_plain_at .later [] [.data] true (true, "c4c19e11db6dd03cb01b21b45ef7cdb0964b33feaa6018058e96404da25f4dfe") false
    cycleKnown_holds (fun _ h => by cases h) (by kernel_rfl) (fun _ h => by cases h) cycleKnown_row_tie rfl ⟨rfl, rfl⟩ (by kernel_rfl) rfl
    (fun f fn hf hfn => by
      obtain rfl : f = 7 := Option.some.inj ((show Tryd.prog.funcNamed "helioscope/helioscopelaw10.CycleKnown" = some 7 by kernel_rfl).symm.trans hf) |>.symm
      obtain rfl : fn = Tryd.f7 := (Option.some.inj (Tryd.func7.symm.trans hfn)).symm
      exact ⟨by kernel_rfl, fun j t ht => by
        rw [Tryd.params7] at ht
        simp at ht⟩)
    (by kernel_rfl)
#print axioms cycleKnown_card_holds
end Go.Proofs.YtkbephbhajplhaaDoor
