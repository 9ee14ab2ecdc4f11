/- TurningWrongs returns true for every input, and leaves it as it was. Conditions: none beyond the row's own. -/
import Derived.Test.YtkhhbpocmmmnmaaTuK
import Derived.Test.YtkhhbpocmmmnmaaTuG
namespace Go.Proofs.Ytkhhbpocmmmnmaa
open Go Go.Gh Go.ChangeShapes Go.WideShapes Go.ChangeAt Go.RowKit
theorem turningWrongs_con : ConOK cx5 6 ⟨[tSu], [.bool], F6⟩ := ghost_ok ok5 S6 6000 6 _ _
set_option maxRecDepth 100000 in
theorem turningWrongs_lifted (os : Os) (started : os.Started) (H : Type) (enc : TypeId × Value → H) :
  ReturnsInHanded {} Try.checked os 6 .any (Rows.turningWrongsSpec.pre6 enc Try.prog Try.f6 Rows.turningWrongsRow.domain false)
   (Rows.turningWrongsSpec.post enc Try.prog Try.f6 false true false false) := by
 refine returnsInHanded_of_change (C := Try.checked) own1 started (by kernel_rfl) Try.func6
  (ChangeSpec.witness6 (enc := enc) (C := Try.checked) false ⟨#[], #[.agg #[.slice none 0 0, .int .i64 0, .slice none 0 0, .slice none 0 0]], []⟩ 8 (by kernel_rfl) (by kernel_rfl) (by kernel_rfl) (by kernel_rfl)) ?_
 intro W base args ds gs before hval hW _ _
 exact law_contract turningWrongs_con laidOut1 (B := 4) (by kernel_rfl) (by kernel_rfl) (by kernel_rfl) (fun ds hds => by
  match ds, hds with
  | [d], _ => exact ⟨rfl, rfl, rfl⟩) rfl (fun x _ => L6 x.1) hval hW (glob_ok W rfl)
theorem turningWrongs_holds : Rows.TurningWrongsSaid :=
 OpenClaim.holds_of_wide 6 Try.f6 rfl rfl rfl rfl rfl rfl rfl ⟨rfl, rfl, rfl, rfl, rfl⟩ rfl rfl rfl rfl rfl (by kernel_rfl) Try.func6 (by
   unfold joinedFacts
   simp only [Bool.and_eq_true]
   repeat' apply And.intro
   all_goals first | (with_reducible exact may_is) | ((with_reducible refine beq_f lifts_is ?_) <;> exact rfl) | ((with_reducible refine beq_m make_is ?_) <;> exact rfl) | kernel_rfl)
  (of_decide_eq_true (by kernel_rfl)) (by unfold Func.isWrapper; first | (rw [if_pos (by decide +kernel)]; kernel_rfl) | (rw [if_neg (by decide +kernel)]; exact ⟨rfl, rfl⟩))
  (fun os started H enc _ => by
    rw [OpenClaim.pre_of_none rfl]
    exact turningWrongs_lifted os started H enc)
#print axioms turningWrongs_holds
end Go.Proofs.Ytkhhbpocmmmnmaa
