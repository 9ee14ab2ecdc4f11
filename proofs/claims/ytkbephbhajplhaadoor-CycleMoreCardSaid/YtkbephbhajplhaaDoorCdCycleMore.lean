/- CycleMore returns true for every input, and leaves it as it was (the tied card). Conditions: none beyond the card's own. -/
import Derived.Test.YtkbephbhajplhaaDoorCyCard
import Derived.Test.YtkbephbhajplhaaDoorCyLk
import Derived.Test.YtkbephbhajplhaaDoorCyKM
namespace Go.Proofs.YtkbephbhajplhaaDoor
open Go Go.Gh Go.ChangeShapes Go.WideShapes Go.ChangeAt Go.RowKit
theorem cycleMore_con : ConOK cxM 11 ⟨[tSe, tSm, .int .u8], [.bool], F11⟩ := ghost_ok okM S11 6000 11 _ _
set_option maxRecDepth 100000 in
theorem cycleMore_lifted (os : Os) (started : os.Started) (H : Type) (enc : TypeId × Value → H) :
  ReturnsInHanded {} Tryd.checked os 11 .any (fun w args => (Rows.cycleMoreSpec.pre enc Tryd.prog Tryd.f11 [] false w args ∧ laidMetH Tryd.prog laidNob w) ∧ sizedMet enc Tryd.prog Tryd.f11 (OpenSpec.ofChange Rows.cycleMoreSpec) false w args)
   (Rows.cycleMoreSpec.post enc Tryd.prog Tryd.f11 false true false false) := by
 refine returnsInHanded_of_change_and (C := Tryd.checked) (X := fun w _ => laidMetH Tryd.prog laidNob w) (fun _ _ _ hh h => h.of_heap hh) own1 started (by kernel_rfl) Tryd.func11
  (ChangeSpec.witness_at (enc := enc) (C := Tryd.checked) (os := os) (X := fun w _ => laidMetH Tryd.prog laidNob w) false (laidW os) #[.agg #[.slice none 0 0, .slice none 0 0, .int .i64 0, .int .i64 0], .agg #[.int .i64 0, .int .i64 0, .int .i64 0, .int .i64 0], .int .u8 0] 8 rfl (by kernel_rfl) (by kernel_rfl) (by kernel_rfl) (by kernel_rfl) (by kernel_rfl) (laidW_met os _)) ?_
 intro W base args ds gs before hval hW _ hwt hL _
 refine law_contract3 cycleMore_con laidOut1 (B := 4) (by kernel_rfl) (by kernel_rfl) (by kernel_rfl) (fun ds hds => by
  match ds, hds with
  | [d1, d2, d3], _ => exact ⟨rfl, rfl, rfl⟩) rfl hval hW (glob_ok hL rfl) (fun x p hw hx hA => ?_)
 exact L11 x.1 x.2.1 x.2.2.1 (u8_in hw.2.2.1).1 (u8_in hw.2.2.1).2 (sums_weight hA hx hwt)
theorem cycleMore_holds : Rows.CycleMoreSaid :=
 OpenClaim.holds_of_wide 11 Tryd.f11 rfl rfl rfl rfl rfl rfl rfl ⟨rfl, rfl, rfl, rfl, rfl⟩ rfl rfl rfl rfl rfl (by kernel_rfl) Tryd.func11 (by kernel_rfl)
  (of_decide_eq_true (by kernel_rfl)) (by unfold Func.isWrapper; first | (rw [if_pos (by decide +kernel)]; kernel_rfl) | (rw [if_neg (by decide +kernel)]; exact ⟨rfl, rfl⟩))
  (fun os started H enc _ => cycleMore_lifted os started H enc)
theorem cycleMore_card_holds : Rows.CycleMoreCardSaid :=
 Claim7.holds_tied_plain_at .later [] [.data] true (true, "c4c19e11db6dd03cb01b21b45ef7cdb0964b33feaa6018058e96404da25f4dfe") false
  cycleMore_holds (fun _ h => by cases h) (by kernel_rfl) (fun _ h => by cases h) cycleMore_row_tie rfl ⟨rfl, rfl⟩ (by kernel_rfl) rfl
  (fun f fn hf hfn => by
    obtain rfl : f = 11 := Option.some.inj ((show Tryd.prog.funcNamed "helioscope/helioscopelaw10.CycleMore" = some 11 by kernel_rfl).symm.trans hf) |>.symm
    obtain rfl : fn = Tryd.f11 := (Option.some.inj (Tryd.func11.symm.trans hfn)).symm
    exact ⟨by kernel_rfl, fun j t ht => by
     rw [Tryd.params11] at ht
     rcases j with _ | _ | _ | j
     ·have h3 : t = 27 := by simpa using ht.symm
      subst h3
      exact (show Tryd.prog.wantsStandIn 27 = false by kernel_rfl)
     ·have h3 : t = 74 := by simpa using ht.symm
      subst h3
      exact (show Tryd.prog.wantsStandIn 74 = false by kernel_rfl)
     ·have h3 : t = 5 := by simpa using ht.symm
      subst h3
      exact (show Tryd.prog.wantsStandIn 5 = false by kernel_rfl)
     ·simp at ht⟩)
  (by kernel_rfl)
#print axioms cycleMore_card_holds
end Go.Proofs.YtkbephbhajplhaaDoor
