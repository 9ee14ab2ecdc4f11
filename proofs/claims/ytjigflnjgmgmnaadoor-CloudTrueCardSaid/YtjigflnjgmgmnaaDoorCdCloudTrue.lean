/- CloudTrue returns true for every input, and leaves it as it was (the tied card). Conditions: none beyond the card's own. -/
import Derived.Test.YtjigflnjgmgmnaaDoorClG
import Derived.Test.YtjigflnjgmgmnaaDoorClLt
import Derived.Test.YtjigflnjgmgmnaaDoorClHk
namespace Go.Proofs.YtjigflnjgmgmnaaDoor
open Go Go.Gh Go.ChangeShapes Go.WideShapes Go.ChangeAt Go.RowKit
theorem cloudTrue_con : ConOK cx49 9 ⟨[tyM, .slice (.int .u8)], [.bool], F9⟩ := ghost_ok ok49 S9 6000 9 _ _
set_option maxRecDepth 100000 in
theorem cloudTrue_lifted (os : Os) (started : os.Started) (H : Type) (enc : TypeId × Value → H) :
  ReturnsInHanded {} Tryd.checked os 9 .any (fun w args => (Rows.cloudTrueSpec.pre enc Tryd.prog Tryd.f9 [] false w args ∧ laidMetH Tryd.prog laidNob w) ∧ sizedMet enc Tryd.prog Tryd.f9 (OpenSpec.ofChange Rows.cloudTrueSpec) false w args)
   (Rows.cloudTrueSpec.post enc Tryd.prog Tryd.f9 false true false false) := by
 refine returnsInHanded_of_change_and (C := Tryd.checked) (X := fun w _ => laidMetH Tryd.prog laidNob w) (fun _ _ _ hh h => h.of_heap hh) own1 started (by kernel_rfl) Tryd.func9
  (ChangeSpec.witness_at (enc := enc) (C := Tryd.checked) (os := os) (X := fun w _ => laidMetH Tryd.prog laidNob w) false (laidW os) #[.agg #[.int .i64 0, .slice none 0 0], .slice none 0 0] 8 rfl (by kernel_rfl) (by kernel_rfl) (by kernel_rfl) (by kernel_rfl) (by kernel_rfl) (laidW_met os _)) ?_
 intro W base args ds gs before hval hW _ _ hL _
 exact law_contract cloudTrue_con laidOut1 (B := 4) (by kernel_rfl) (by kernel_rfl) (by kernel_rfl) (fun ds hds => by
  match ds, hds with
  | [d1, d2], _ => exact ⟨rfl, rfl, rfl⟩) rfl (fun x hx => L9 x.1 x.2.1 (u8l_in hx.2.1)) hval hW (glob_ok hL rfl)
theorem cloudTrue_holds : Rows.CloudTrueSaid :=
 OpenClaim.holds_of_wide 9 Tryd.f9 rfl rfl rfl rfl rfl rfl rfl ⟨rfl, rfl, rfl, rfl, rfl⟩ rfl rfl rfl rfl rfl (by kernel_rfl) Tryd.func9 (by kernel_rfl)
  (of_decide_eq_true (by kernel_rfl)) (by unfold Func.isWrapper; first | (rw [if_pos (by decide +kernel)]; kernel_rfl) | (rw [if_neg (by decide +kernel)]; exact ⟨rfl, rfl⟩))
  (fun os started H enc _ => cloudTrue_lifted os started H enc)
theorem cloudTrue_card_holds : Rows.CloudTrueCardSaid :=
 Claim7.holds_tied_plain_at .later [] [.data] true (true, "e2f335841daed45675fec1db3ae7461604c1789b41067d2d701c841afc835a3e") false
  cloudTrue_holds (fun _ h => by cases h) (by kernel_rfl) (fun _ h => by cases h) cloudTrue_row_tie rfl ⟨rfl, rfl⟩ (by kernel_rfl) rfl
  (fun f fn hf hfn => by
    obtain rfl : f = 9 := Option.some.inj ((show Tryd.prog.funcNamed "helioscope/helioscopelaw06.CloudTrue" = some 9 by kernel_rfl).symm.trans hf) |>.symm
    obtain rfl : fn = Tryd.f9 := (Option.some.inj (Tryd.func9.symm.trans hfn)).symm
    exact ⟨by kernel_rfl, fun j t ht => by
     rw [Tryd.params9] at ht
     rcases j with _ | _ | j
     ·have h3 : t = 24 := by simpa using ht.symm
      subst h3
      exact (show Tryd.prog.wantsStandIn 24 = false by kernel_rfl)
     ·have h3 : t = 51 := by simpa using ht.symm
      subst h3
      exact (show Tryd.prog.wantsStandIn 51 = false by kernel_rfl)
     ·simp at ht⟩)
  (by kernel_rfl)
#print axioms cloudTrue_card_holds
end Go.Proofs.YtjigflnjgmgmnaaDoor
