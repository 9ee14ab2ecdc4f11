/- TurningAnother returns true for every input, and leaves it as it was. Conditions: none beyond the row's own. -/
import Derived.Test.YtkhhbpocmmmnmaaTuK
import Derived.Test.YtkhhbpocmmmnmaaTuL16
import Derived.Test.YtkhhbpocmmmnmaaTuKm
namespace Go.Proofs.Ytkhhbpocmmmnmaa
open Go Go.Gh Go.ChangeShapes Go.WideShapes Go.ChangeAt Go.RowKit
theorem turningAnother_con : ConOK cxM 16 ⟨[tSu, tSn], [.bool], F16⟩ := ghost_ok okM S16 6000 16 _ _
set_option maxRecDepth 100000 in
theorem turningAnother_lifted (os : Os) (started : os.Started) (H : Type) (enc : TypeId × Value → H) :
  ReturnsInHanded {} Try.checked os 16 .any (Rows.turningAnotherSpec.pre6 enc Try.prog Try.f16 Rows.turningAnotherRow.domain false)
   (Rows.turningAnotherSpec.post enc Try.prog Try.f16 false true false false) := by
 refine returnsInHanded_of_change_shaped (C := Try.checked) own1 started (by kernel_rfl) Try.func16
  (ChangeSpec.witness6 (enc := enc) (C := Try.checked) false ⟨#[], #[.agg #[.slice none 0 0, .int .i64 0, .slice none 0 0, .slice none 0 0], .agg #[.int .i64 0, .int .i64 0, .int .i64 0]], []⟩ 8 (by kernel_rfl) (by kernel_rfl) (by kernel_rfl) (by kernel_rfl)) ?_
 intro W base args ds gs before hval hW _ hwt _ _
 exact law_contract3 turningAnother_con laidOut1 (B := 4) (by kernel_rfl) (by kernel_rfl) (by kernel_rfl) (fun ds hds => by
  match ds, hds with
  | [d1, d2], _ => exact ⟨rfl, rfl, rfl⟩) rfl hval hW (glob_ok W rfl) (fun x p hw hx hA => L16 x.1 x.2.1 (su_weight hA hx hwt).1)
theorem turningAnother_holds : Rows.TurningAnotherSaid :=
 OpenClaim.holds_of_wide 16 Try.f16 rfl rfl rfl rfl rfl rfl rfl ⟨rfl, rfl, rfl, rfl, rfl⟩ rfl rfl rfl rfl rfl (by kernel_rfl) Try.func16 (by
   unfold joinedFacts
   simp only [Bool.and_eq_true]
   repeat' apply And.intro
   all_goals first | (with_reducible exact may_is) | ((with_reducible refine beq_f lifts_is ?_) <;> exact rfl) | ((with_reducible refine beq_m make_is ?_) <;> exact rfl) | kernel_rfl)
  (of_decide_eq_true (by kernel_rfl)) (by unfold Func.isWrapper; first | (rw [if_pos (by decide +kernel)]; kernel_rfl) | (rw [if_neg (by decide +kernel)]; exact ⟨rfl, rfl⟩))
  (fun os started H enc _ => by
    rw [OpenClaim.pre_of_none rfl]
    exact turningAnother_lifted os started H enc)
#print axioms turningAnother_holds
end Go.Proofs.Ytkhhbpocmmmnmaa
