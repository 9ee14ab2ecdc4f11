/- TopAnewRow returns true for every input of bulk at most 1048576, and leaves it as it was. Conditions: none beyond the row's own. -/
import Derived.Test.YtallblpnlefpeaaRoG
import Derived.Test.YtallblpnlefpeaaRoTs
import Derived.JoinedCond
import Derived.ChangeSame
namespace Go.Proofs.Ytallblpnlefpeaa
open Go Go.Gh Go.ChangeShapes Go.WideShapes Go.ChangeAt Go.RowKit
theorem upto_sum {H : Type} : ∀ l : List (DataW H), Rows.uptoBulkAll l = (l.map Rows.uptoBulk).sum
 | [] => by simp [Rows.uptoBulkAll]
 | d :: l => by simp only [Rows.uptoBulkAll, upto_sum l, List.map_cons, List.sum_cons]
theorem upto_ok {H : Type} : BulkOK (H := H) Rows.uptoBulk where
 one d := by
  cases d with
  | lit l => cases l <;> simp [Rows.uptoBulk]
  | _ => simp [Rows.uptoBulk]
 slice es sp := by simp only [Rows.uptoBulk, upto_sum]; omega
 agg ps := by simp only [Rows.uptoBulk, upto_sum]; omega
theorem bulk_ge {t : Ty} (l : List (den t)) (n : Nat) (h : ∀ x : den t, n ≤ bulkT t x) : n * l.length ≤ (l.map (bulkT t)).sum := by
 induction l with
 | nil => simp
 | cons x l ih =>
  have := h x
  rw [List.map_cons, List.sum_cons, List.length_cons, Nat.mul_succ]
  omega
theorem bulk_ws : ∀ l : List (List Wy), (l.flatMap fWs).length + l.length ≤ 2 * (l.map (bulkT (.slice tWy))).sum
 | [] => by simp
 | x :: l => by
  have h1 := bulk_ws l
  have h2 := bulk_ge (t := tWy) x 3 (fun _ => by simp [bulkT, bulkTL])
  have h3 := putL_len fWy 3 (fun _ => rfl) x
  rw [List.flatMap_cons, List.length_append, List.length_cons, List.map_cons, List.sum_cons, fWs, List.length_cons]
  have h4 : bulkT (.slice tWy) x = (List.map (bulkT tWy) x).sum + 1 := by rw [bulkT]
  omega
abbrev tAx : Ty := .struct [tBk, .int .i64, .int .i64]
theorem topAnewRowUpto_con : ConOK cxT 17 ⟨[tAx], [.bool], F17⟩ := ghost_ok okT S17 6000 17 _ _
set_option maxRecDepth 100000 in
theorem topAnewRow_lifted (os : Os) (started : os.Started) (H : Type) (enc : TypeId × Value → H) (F : Stop.Interp) :
  ReturnsInHanded {} Try.checked os 17 .any ((Rows.OpenSpec.upto Rows.topAnewRowSpec).pre6 enc Try.prog Try.f17 Rows.topAnewRowUptoRow.domain false)
   (((Rows.OpenSpec.upto Rows.topAnewRowSpec).at F).post enc Try.prog Try.f17 false true false false) := by
 refine returnsInHanded_of_cond (C := Try.checked) (s := Rows.OpenSpec.upto Rows.topAnewRowSpec) (k := Rows.uptoSmall) rfl own1 started (by kernel_rfl) Try.func17
  (OpenSpec.witness (enc := enc) (C := Try.checked) (s := Rows.OpenSpec.upto Rows.topAnewRowSpec) (k := Rows.uptoSmall) rfl false ⟨#[], #[.agg #[.slice none 0 0, .slice none 0 0, .int .i64 0, .int .i64 0]], []⟩ 8 (by kernel_rfl) (by kernel_rfl) (by kernel_rfl)
    (x := ([.agg [.agg [.nil, .nil], .lit (.int .i64 0), .lit (.int .i64 0)]], [], [])) (by kernel_rfl) rfl (by kernel_rfl)) ?_
 intro W base args ds gs before hval hW _ hk _
 refine law_contract4 upto_ok topAnewRowUpto_con laidOut1 (B := 4) (by kernel_rfl) (by kernel_rfl) (by kernel_rfl) (fun ds hds => by
  match ds, hds with
  | [d], _ => exact ⟨rfl, rfl, rfl⟩) rfl hval hW (glob_ok W rfl) (fun x p _ hx hA hb => ?_)
 have hk1 := of_decide_eq_true hk
 rw [upto_sum, List.map_append, List.sum_append] at hk1
 refine L17 x.1 ?_
 have h1 := bulk_ge (t := tRw) x.1.1.1 2 (fun _ => by simp [bulkT, bulkTL])
 have h2 := bulk_ws x.1.1.2.1
 rw [show bulkTL [tAx] x = ((List.map (bulkT tRw) x.1.1.1).sum + 1 + ((List.map (bulkT (.slice tWy)) x.1.1.2.1).sum + 1 + 0) + (1 + (1 + 0)) + 0) by simp only [bulkTL, bulkT]] at hb
 omega
theorem topAnewRowUpto_holds : Rows.TopAnewRowUptoSaid :=
 OpenClaim.holds_of_cond 17 Try.f17 rfl rfl rfl rfl rfl rfl rfl ⟨rfl, rfl, rfl, rfl, rfl⟩ rfl rfl rfl rfl rfl (by kernel_rfl) Try.func17 (by kernel_rfl)
  (of_decide_eq_true (by kernel_rfl)) (by unfold Func.isWrapper; first | (rw [if_pos (by decide +kernel)]; kernel_rfl) | (rw [if_neg (by decide +kernel)]; exact ⟨rfl, rfl⟩))
  (fun os started H enc _ F => topAnewRow_lifted os started H enc F)
#print axioms topAnewRowUpto_holds
end Go.Proofs.Ytallblpnlefpeaa
