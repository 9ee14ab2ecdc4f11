/- TurningLoose returns true for every input, and leaves it as it was. Conditions: none beyond the row's own. -/
import Derived.Test.YtkhhbpocmmmnmaaTuK
import Derived.Test.YtkhhbpocmmmnmaaTuL15
import Derived.Test.YtkhhbpocmmmnmaaTuH
namespace Go.Proofs.Ytkhhbpocmmmnmaa
open Go Go.Gh Go.ChangeShapes Go.WideShapes Go.ChangeAt Go.RowKit
theorem turningLoose_con : ConOK cx41 15 ⟨[tSu, .int .u8], [.bool], F15⟩ := ghost_ok ok41 S15 6000 15 _ _
set_option maxRecDepth 100000 in
theorem turningLoose_lifted (os : Os) (started : os.Started) (H : Type) (enc : TypeId × Value → H) :
  ReturnsInHanded {} Try.checked os 15 .any (Rows.turningLooseSpec.pre6 enc Try.prog Try.f15 Rows.turningLooseRow.domain false)
   (Rows.turningLooseSpec.post enc Try.prog Try.f15 false true false false) := by
 refine returnsInHanded_of_change (C := Try.checked) own1 started (by kernel_rfl) Try.func15
  (ChangeSpec.witness6 (enc := enc) (C := Try.checked) false ⟨#[], #[.agg #[.slice none 0 0, .int .i64 0, .slice none 0 0, .slice none 0 0], .int .u8 0], []⟩ 8 (by kernel_rfl) (by kernel_rfl) (by kernel_rfl) (by kernel_rfl)) ?_
 intro W base args ds gs before hval hW _ _
 exact law_contract turningLoose_con laidOut1 (B := 4) (by kernel_rfl) (by kernel_rfl) (by kernel_rfl) (fun ds hds => by
  match ds, hds with
  | [d1, d2], _ => exact ⟨rfl, rfl, rfl⟩) rfl (fun x h => L15 x.1 x.2.1 (u8_in h.2.1)) hval hW (glob_ok W rfl)
theorem turningLoose_holds : Rows.TurningLooseSaid :=
 OpenClaim.holds_of_wide 15 Try.f15 rfl rfl rfl rfl rfl rfl rfl ⟨rfl, rfl, rfl, rfl, rfl⟩ rfl rfl rfl rfl rfl (by kernel_rfl) Try.func15 (by
   unfold joinedFacts
   simp only [Bool.and_eq_true]
   repeat' apply And.intro
   all_goals first | (with_reducible exact may_is) | ((with_reducible refine beq_f lifts_is ?_) <;> exact rfl) | ((with_reducible refine beq_m make_is ?_) <;> exact rfl) | kernel_rfl)
  (of_decide_eq_true (by kernel_rfl)) (by unfold Func.isWrapper; first | (rw [if_pos (by decide +kernel)]; kernel_rfl) | (rw [if_neg (by decide +kernel)]; exact ⟨rfl, rfl⟩))
  (fun os started H enc _ => by
    rw [OpenClaim.pre_of_none rfl]
    exact turningLoose_lifted os started H enc)
#print axioms turningLoose_holds
end Go.Proofs.Ytkhhbpocmmmnmaa
