/- TurningTrue returns true for every input, and leaves it as it was. Conditions: none beyond the row's own. -/
import Derived.Test.YtkhhbpocmmmnmaaTuK
import Derived.Test.YtkhhbpocmmmnmaaTuL15
import Derived.Test.YtkhhbpocmmmnmaaTuH
namespace Go.Proofs.Ytkhhbpocmmmnmaa
open Go Go.Gh Go.ChangeShapes Go.WideShapes Go.ChangeAt Go.RowKit
theorem turningTrue_con : ConOK cx41 8 ⟨[tSu, .int .u16, .int .u8], [.bool], F8⟩ := ghost_ok ok41 S8 6000 8 _ _
set_option maxRecDepth 100000 in
theorem turningTrue_lifted (os : Os) (started : os.Started) (H : Type) (enc : TypeId × Value → H) :
  ReturnsInHanded {} Try.checked os 8 .any (Rows.turningTrueSpec.pre6 enc Try.prog Try.f8 Rows.turningTrueRow.domain false)
   (Rows.turningTrueSpec.post enc Try.prog Try.f8 false true false false) := by
 refine returnsInHanded_of_change (C := Try.checked) own1 started (by kernel_rfl) Try.func8
  (ChangeSpec.witness6 (enc := enc) (C := Try.checked) false ⟨#[], #[.agg #[.slice none 0 0, .int .i64 0, .slice none 0 0, .slice none 0 0], .int .u16 0, .int .u8 0], []⟩ 8 (by kernel_rfl) (by kernel_rfl) (by kernel_rfl) (by kernel_rfl)) ?_
 intro W base args ds gs before hval hW _ _
 exact law_contract turningTrue_con laidOut1 (B := 4) (by kernel_rfl) (by kernel_rfl) (by kernel_rfl) (fun ds hds => by
  match ds, hds with
  | [d1, d2, d3], _ => exact ⟨rfl, rfl, rfl⟩) rfl (fun x h => L8 x.1 x.2.1 x.2.2.1 (u16_in h.2.1) (u8_in h.2.2.1)) hval hW (glob_ok W rfl)
theorem turningTrue_holds : Rows.TurningTrueSaid :=
 OpenClaim.holds_of_wide 8 Try.f8 rfl rfl rfl rfl rfl rfl rfl ⟨rfl, rfl, rfl, rfl, rfl⟩ rfl rfl rfl rfl rfl (by kernel_rfl) Try.func8 (by
   unfold joinedFacts
   simp only [Bool.and_eq_true]
   repeat' apply And.intro
   all_goals first | (with_reducible exact may_is) | ((with_reducible refine beq_f lifts_is ?_) <;> exact rfl) | ((with_reducible refine beq_m make_is ?_) <;> exact rfl) | kernel_rfl)
  (of_decide_eq_true (by kernel_rfl)) (by unfold Func.isWrapper; first | (rw [if_pos (by decide +kernel)]; kernel_rfl) | (rw [if_neg (by decide +kernel)]; exact ⟨rfl, rfl⟩))
  (fun os started H enc _ => by
    rw [OpenClaim.pre_of_none rfl]
    exact turningTrue_lifted os started H enc)
#print axioms turningTrue_holds
end Go.Proofs.Ytkhhbpocmmmnmaa
