/- CloudEnds returns true for every input, and leaves it as it was (the tied card). Conditions: none beyond the card's own. -/
import Derived.Test.YtjigflnjgmgmnaaDoorClG
import Derived.Test.YtjigflnjgmgmnaaDoorClLe
import Derived.Test.YtjigflnjgmgmnaaDoorClHk
namespace Go.Proofs.YtjigflnjgmgmnaaDoor
open Go Go.Gh Go.ChangeShapes Go.WideShapes Go.ChangeAt Go.RowKit
theorem cloudEnds_con : ConOK cx9 10 ⟨[tyM], [.bool], F10⟩ := ghost_ok ok9 S10 6000 10 _ _
set_option maxRecDepth 100000 in
theorem cloudEnds_lifted (os : Os) (started : os.Started) (H : Type) (enc : TypeId × Value → H) :
  ReturnsInHanded {} Tryd.checked os 10 .any (fun w args => (Rows.cloudEndsSpec.pre enc Tryd.prog Tryd.f10 [] false w args ∧ laidMetH Tryd.prog laidNob w) ∧ sizedMet enc Tryd.prog Tryd.f10 (OpenSpec.ofChange Rows.cloudEndsSpec) false w args)
   (Rows.cloudEndsSpec.post enc Tryd.prog Tryd.f10 false true false false) := by
 refine returnsInHanded_of_change_and (C := Tryd.checked) (X := fun w _ => laidMetH Tryd.prog laidNob w) (fun _ _ _ hh h => h.of_heap hh) own1 started (by kernel_rfl) Tryd.func10
  (ChangeSpec.witness_at (enc := enc) (C := Tryd.checked) (os := os) (X := fun w _ => laidMetH Tryd.prog laidNob w) false (laidW os) #[.agg #[.int .i64 0, .slice none 0 0]] 8 rfl (by kernel_rfl) (by kernel_rfl) (by kernel_rfl) (by kernel_rfl) (by kernel_rfl) (laidW_met os _)) ?_
 intro W base args ds gs before hval hW _ _ hL _
 exact law_contract cloudEnds_con laidOut1 (B := 4) (by kernel_rfl) (by kernel_rfl) (by kernel_rfl) (fun ds hds => by
  match ds, hds with
  | [d1], _ => exact ⟨rfl, rfl, rfl⟩) rfl (fun x _ => L10 x.1) hval hW (glob_ok hL rfl)
theorem cloudEnds_holds : Rows.CloudEndsSaid :=
 OpenClaim.holds_of_wide 10 Tryd.f10 rfl rfl rfl rfl rfl rfl rfl ⟨rfl, rfl, rfl, rfl, rfl⟩ rfl rfl rfl rfl rfl (by kernel_rfl) Tryd.func10 (by kernel_rfl)
  (of_decide_eq_true (by kernel_rfl)) (by unfold Func.isWrapper; first | (rw [if_pos (by decide +kernel)]; kernel_rfl) | (rw [if_neg (by decide +kernel)]; exact ⟨rfl, rfl⟩))
  (fun os started H enc _ => cloudEnds_lifted os started H enc)
theorem cloudEnds_card_holds : Rows.CloudEndsCardSaid :=
 Claim7.holds_tied_plain_at .later [] [.data] true (true, "e2f335841daed45675fec1db3ae7461604c1789b41067d2d701c841afc835a3e") false
  cloudEnds_holds (fun _ h => by cases h) (by kernel_rfl) (fun _ h => by cases h) cloudEnds_row_tie rfl ⟨rfl, rfl⟩ (by kernel_rfl) rfl
  (fun f fn hf hfn => by
    obtain rfl : f = 10 := Option.some.inj ((show Tryd.prog.funcNamed "helioscope/helioscopelaw06.CloudEnds" = some 10 by kernel_rfl).symm.trans hf) |>.symm
    obtain rfl : fn = Tryd.f10 := (Option.some.inj (Tryd.func10.symm.trans hfn)).symm
    exact ⟨by kernel_rfl, fun j t ht => by
     rw [Tryd.params10] at ht
     rcases j with _ | j
     ·have h3 : t = 24 := by simpa using ht.symm
      subst h3
      exact (show Tryd.prog.wantsStandIn 24 = false by kernel_rfl)
     ·simp at ht⟩)
  (by kernel_rfl)
#print axioms cloudEnds_card_holds
end Go.Proofs.YtjigflnjgmgmnaaDoor
