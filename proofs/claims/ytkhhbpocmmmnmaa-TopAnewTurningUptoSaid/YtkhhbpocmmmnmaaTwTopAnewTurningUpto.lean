/- TopAnewTurning returns true for every input of bulk at most 1048576, and leaves it as it was. Conditions: none beyond the row's own. -/
import Derived.Test.YtkhhbpocmmmnmaaTuK
import Derived.Test.YtkhhbpocmmmnmaaTuTs
import Derived.JoinedCond
import Derived.ChangeSame
namespace Go.Proofs.Ytkhhbpocmmmnmaa
open Go Go.Gh Go.ChangeShapes Go.WideShapes Go.ChangeAt Go.RowKit
theorem upto_sum {H : Type} : ∀ l : List (DataW H), Rows.uptoBulkAll l = (l.map Rows.uptoBulk).sum
 | [] => by simp [Rows.uptoBulkAll]
 | d :: l => by simp only [Rows.uptoBulkAll, upto_sum l, List.map_cons, List.sum_cons]
theorem upto_ok {H : Type} : BulkOK (H := H) Rows.uptoBulk where
 one d := by
  cases d with
  | lit l => cases l <;> simp [Rows.uptoBulk]
  | _ => simp [Rows.uptoBulk]
 slice es sp := by simp only [Rows.uptoBulk, upto_sum]; omega
 agg ps := by simp only [Rows.uptoBulk, upto_sum]; omega
theorem bulk_ge {t : Ty} (l : List (den t)) (n : Nat) (h : ∀ x : den t, n ≤ bulkT t x) : n * l.length ≤ (l.map (bulkT t)).sum := by
 induction l with
 | nil => simp
 | cons x l ih =>
  have := h x
  rw [List.map_cons, List.sum_cons, List.length_cons, Nat.mul_succ]
  omega
abbrev tAx : Ty := .struct [tSu, .int .i64, .int .i64, .int .i64, .int .i64, .int .i64]
theorem topAnewTurning_con : ConOK cxT 18 ⟨[tAx], [.bool], F18⟩ := ghost_ok okT S18 6000 18 _ _
set_option maxRecDepth 100000 in
theorem topAnewTurning_lifted (os : Os) (started : os.Started) (H : Type) (enc : TypeId × Value → H) (F : Stop.Interp) :
  ReturnsInHanded {} Try.checked os 18 .any ((Rows.OpenSpec.upto Rows.topAnewTurningSpec).pre6 enc Try.prog Try.f18 Rows.topAnewTurningUptoRow.domain false)
   (((Rows.OpenSpec.upto Rows.topAnewTurningSpec).at F).post enc Try.prog Try.f18 false true false false) := by
 refine returnsInHanded_of_cond (C := Try.checked) (s := Rows.OpenSpec.upto Rows.topAnewTurningSpec) (k := Rows.uptoSmall) rfl own1 started (by kernel_rfl) Try.func18
  (OpenSpec.witness (enc := enc) (C := Try.checked) (s := Rows.OpenSpec.upto Rows.topAnewTurningSpec) (k := Rows.uptoSmall) rfl false ⟨#[], #[.agg #[.slice none 0 0, .int .i64 0, .slice none 0 0, .slice none 0 0, .int .i64 0, .int .i64 0, .int .i64 0, .int .i64 0, .int .i64 0]], []⟩ 8 (by kernel_rfl) (by kernel_rfl) (by kernel_rfl)
    (x := ([.agg [.agg [.nil, .lit (.int .i64 0), .nil, .nil], .lit (.int .i64 0), .lit (.int .i64 0), .lit (.int .i64 0), .lit (.int .i64 0), .lit (.int .i64 0)]], [], [])) (by kernel_rfl) rfl (by kernel_rfl)) ?_
 intro W base args ds gs before hval hW _ hk _
 refine law_contract4 upto_ok topAnewTurning_con laidOut1 (B := 4) (by kernel_rfl) (by kernel_rfl) (by kernel_rfl) (fun ds hds => by
  match ds, hds with
  | [d], _ => exact ⟨rfl, rfl, rfl⟩) rfl hval hW (glob_ok W rfl) (fun x p _ hx hA hb => ?_)
 have hk1 := of_decide_eq_true hk
 rw [upto_sum, List.map_append, List.sum_append] at hk1
 refine L18 x.1 ?_
 simp only [bulkTL, bulkT] at hb
 have h1 := bulk_ge (t := tSp) x.1.1.1 2 (fun _ => by simp [bulkT, bulkTL])
 have h2 := bulk_ge (t := tSn) x.1.1.2.2.1 3 (fun _ => by simp [bulkT, bulkTL])
 have h3 := bulk_ge (t := tTl) x.1.1.2.2.2.1 3 (fun _ => by simp [bulkT, bulkTL])
 simp only [bulkTL, bulkT] at h1 h2 h3
 omega
theorem topAnewTurningUpto_holds : Rows.TopAnewTurningUptoSaid :=
 OpenClaim.holds_of_cond 18 Try.f18 rfl rfl rfl rfl rfl rfl rfl ⟨rfl, rfl, rfl, rfl, rfl⟩ rfl rfl rfl rfl rfl (by kernel_rfl) Try.func18 (by
   unfold joinedFacts
   simp only [Bool.and_eq_true]
   repeat' apply And.intro
   all_goals first | (with_reducible exact may_is) | ((with_reducible refine beq_f lifts_is ?_) <;> exact rfl) | ((with_reducible refine beq_m make_is ?_) <;> exact rfl) | kernel_rfl)
  (of_decide_eq_true (by kernel_rfl)) (by unfold Func.isWrapper; first | (rw [if_pos (by decide +kernel)]; kernel_rfl) | (rw [if_neg (by decide +kernel)]; exact ⟨rfl, rfl⟩))
  (fun os started H enc _ F => topAnewTurning_lifted os started H enc F)
#print axioms topAnewTurningUpto_holds
end Go.Proofs.Ytkhhbpocmmmnmaa
