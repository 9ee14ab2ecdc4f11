/- CloudKnown returns true for every input, and leaves it as it was (the tied card). Conditions: none beyond the card's own. -/
import Derived.Test.YtjigflnjgmgmnaaDoorClG
import Derived.Test.YtjigflnjgmgmnaaDoorClS
namespace Go.Proofs.YtjigflnjgmgmnaaDoor
open Go Go.Gh Go.ChangeShapes Go.WideShapes Go.ChangeAt Go.RowKit

theorem cloudKnown_con : ConOK cx7 8 ⟨[], [.bool], F8⟩ := ghost_ok ok7 S8 6000 8 _ _

set_option maxRecDepth 100000 in
theorem cloudKnown_lifted (os : Os) (started : os.Started) (H : Type) (enc : TypeId × Value → H) :
    ReturnsInHanded {} Tryd.checked os 8 .any (fun w args => (Rows.cloudKnownSpec.pre enc Tryd.prog Tryd.f8 [] false w args ∧ laidMetH Tryd.prog laidNob w) ∧ sizedMet enc Tryd.prog Tryd.f8 (OpenSpec.ofChange Rows.cloudKnownSpec) false w args)
      (Rows.cloudKnownSpec.post enc Tryd.prog Tryd.f8 false true false false) := by
  refine returnsInHanded_of_change_and (C := Tryd.checked) (X := fun w _ => laidMetH Tryd.prog laidNob w) (fun _ _ _ hh h => h.of_heap hh) own1 started (by kernel_rfl) Tryd.func8
    (ChangeSpec.witness_at (enc := enc) (C := Tryd.checked) (os := os) (X := fun w _ => laidMetH Tryd.prog laidNob w) false (laidW os) #[] 8 rfl (by kernel_rfl) (by kernel_rfl) (by kernel_rfl) (by kernel_rfl) (by kernel_rfl) (laidW_met os _)) ?_
  intro W base args ds gs before hval hW _ _ hL _
  exact law_contract cloudKnown_con laidOut1 (B := 4) (by kernel_rfl) (by kernel_rfl) (by kernel_rfl) (fun ds hds => by
    match ds, hds with
    | [], _ => exact ⟨rfl, rfl, rfl⟩) rfl (fun _ _ => L8) hval hW (glob_ok hL rfl)

theorem cloudKnown_holds : Rows.CloudKnownSaid :=
  OpenClaim.holds_of_wide 8 Tryd.f8 rfl rfl rfl rfl rfl rfl rfl ⟨rfl, rfl, rfl, rfl, rfl⟩ rfl rfl rfl rfl rfl (by kernel_rfl) Tryd.func8 (by kernel_rfl)
    (of_decide_eq_true (by kernel_rfl)) (by unfold Func.isWrapper; first | (rw [if_pos (by decide +kernel)]; kernel_rfl) | (rw [if_neg (by decide +kernel)]; exact ⟨rfl, rfl⟩))
    (fun os started H enc _ => cloudKnown_lifted os started H enc)
theorem cloudKnown_card_holds : Rows.CloudKnownCardSaid :=
  Claim7.holds_tied_plain_at .later [] [.data] true (true, "e2f335841daed45675fec1db3ae7461604c1789b41067d2d701c841afc835a3e") false
    cloudKnown_holds (fun _ h => by cases h) (by kernel_rfl) (fun _ h => by cases h) cloudKnown_row_tie rfl ⟨rfl, rfl⟩ (by kernel_rfl) rfl
    (fun f fn hf hfn => by
      obtain rfl : f = 8 := Option.some.inj ((show Tryd.prog.funcNamed "helioscope/helioscopelaw06.CloudKnown" = some 8 by kernel_rfl).symm.trans hf) |>.symm
      obtain rfl : fn = Tryd.f8 := (Option.some.inj (Tryd.func8.symm.trans hfn)).symm
      exact ⟨by kernel_rfl, fun j t ht => by
        rw [Tryd.params8] at ht
        simp at ht⟩)
    (by kernel_rfl)
#print axioms cloudKnown_card_holds
end Go.Proofs.YtjigflnjgmgmnaaDoor
