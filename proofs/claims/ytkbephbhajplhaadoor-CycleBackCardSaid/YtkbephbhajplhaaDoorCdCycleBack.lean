/- CycleBack returns true for every input, and leaves it as it was (the tied card). Conditions: none beyond the card's own. -/
import Derived.Test.YtkbephbhajplhaaDoorCyCard
import Derived.Test.YtkbephbhajplhaaDoorCyLm
import Derived.Test.YtkbephbhajplhaaDoorCyKH
namespace Go.Proofs.YtkbephbhajplhaaDoor
open Go Go.Gh Go.ChangeShapes Go.WideShapes Go.ChangeAt Go.RowKit
theorem cycleBack_con : ConOK cx58 13 ⟨[tSe], [.bool], F13⟩ := ghost_ok ok58 S13 6000 13 _ _
set_option maxRecDepth 100000 in
theorem cycleBack_lifted (os : Os) (started : os.Started) (H : Type) (enc : TypeId × Value → H) :
  ReturnsInHanded {} Tryd.checked os 13 .any (fun w args => (Rows.cycleBackSpec.pre enc Tryd.prog Tryd.f13 [] false w args ∧ laidMetH Tryd.prog laidNob w) ∧ sizedMet enc Tryd.prog Tryd.f13 (OpenSpec.ofChange Rows.cycleBackSpec) false w args)
   (Rows.cycleBackSpec.post enc Tryd.prog Tryd.f13 false true false false) := by
 refine returnsInHanded_of_change_and (C := Tryd.checked) (X := fun w _ => laidMetH Tryd.prog laidNob w) (fun _ _ _ hh h => h.of_heap hh) own1 started (by kernel_rfl) Tryd.func13
  (ChangeSpec.witness_at (enc := enc) (C := Tryd.checked) (os := os) (X := fun w _ => laidMetH Tryd.prog laidNob w) false (laidW os) #[.agg #[.slice none 0 0, .slice none 0 0, .int .i64 0, .int .i64 0]] 8 rfl (by kernel_rfl) (by kernel_rfl) (by kernel_rfl) (by kernel_rfl) (by kernel_rfl) (laidW_met os _)) ?_
 intro W base args ds gs before hval hW _ _ hL _
 exact law_contract cycleBack_con laidOut1 (B := 4) (by kernel_rfl) (by kernel_rfl) (by kernel_rfl) (fun ds hds => by
  match ds, hds with
  | [d1], _ => exact ⟨rfl, rfl, rfl⟩) rfl (fun x _ => L13 x.1) hval hW (glob_ok hL rfl)
theorem cycleBack_holds : Rows.CycleBackSaid :=
 OpenClaim.holds_of_wide 13 Tryd.f13 rfl rfl rfl rfl rfl rfl rfl ⟨rfl, rfl, rfl, rfl, rfl⟩ rfl rfl rfl rfl rfl (by kernel_rfl) Tryd.func13 (by kernel_rfl)
  (of_decide_eq_true (by kernel_rfl)) (by unfold Func.isWrapper; first | (rw [if_pos (by decide +kernel)]; kernel_rfl) | (rw [if_neg (by decide +kernel)]; exact ⟨rfl, rfl⟩))
  (fun os started H enc _ => cycleBack_lifted os started H enc)
theorem cycleBack_card_holds : Rows.CycleBackCardSaid :=
 Claim7.holds_tied_plain_at .later [] [.data] true (true, "c4c19e11db6dd03cb01b21b45ef7cdb0964b33feaa6018058e96404da25f4dfe") false
  cycleBack_holds (fun _ h => by cases h) (by kernel_rfl) (fun _ h => by cases h) cycleBack_row_tie rfl ⟨rfl, rfl⟩ (by kernel_rfl) rfl
  (fun f fn hf hfn => by
    obtain rfl : f = 13 := Option.some.inj ((show Tryd.prog.funcNamed "helioscope/helioscopelaw10.CycleBack" = some 13 by kernel_rfl).symm.trans hf) |>.symm
    obtain rfl : fn = Tryd.f13 := (Option.some.inj (Tryd.func13.symm.trans hfn)).symm
    exact ⟨by kernel_rfl, fun j t ht => by
     rw [Tryd.params13] at ht
     rcases j with _ | j
     ·have h3 : t = 27 := by simpa using ht.symm
      subst h3
      exact (show Tryd.prog.wantsStandIn 27 = false by kernel_rfl)
     ·simp at ht⟩)
  (by kernel_rfl)
#print axioms cycleBack_card_holds
end Go.Proofs.YtkbephbhajplhaaDoor
