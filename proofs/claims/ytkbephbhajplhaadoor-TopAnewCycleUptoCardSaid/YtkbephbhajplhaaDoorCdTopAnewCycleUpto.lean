/- TopAnewCycle returns true for every input of bulk at most 1048576, and leaves it as it was (the tied card). Conditions: none beyond the card's own. -/
import Derived.Test.YtkbephbhajplhaaDoorCyCard
import Derived.Test.YtkbephbhajplhaaDoorCyTs
import Derived.Deep.DeepHandedRow
import Derived.JoinedCond
namespace Go.Proofs.YtkbephbhajplhaaDoor
open Go Go.Gh Go.ChangeShapes Go.WideShapes Go.ChangeAt Go.RowKit
theorem upto_sum {H : Type} : ∀ l : List (DataW H), Rows.uptoBulkAll l = (l.map Rows.uptoBulk).sum
 | [] => by simp [Rows.uptoBulkAll]
 | d :: l => by simp only [Rows.uptoBulkAll, upto_sum l, List.map_cons, List.sum_cons]
theorem upto_ok {H : Type} : BulkOK (H := H) Rows.uptoBulk where
 one d := by
  cases d with
  | lit l => cases l <;> simp [Rows.uptoBulk]
  | _ => simp [Rows.uptoBulk]
 slice es sp := by simp only [Rows.uptoBulk, upto_sum]; omega
 agg ps := by simp only [Rows.uptoBulk, upto_sum]; omega
theorem bulk_ge {t : Ty} (l : List (den t)) (n : Nat) (h : ∀ x : den t, n ≤ bulkT t x) : n * l.length ≤ (l.map (bulkT t)).sum := by
 induction l with
 | nil => simp
 | cons x l ih =>
  have := h x
  rw [List.map_cons, List.sum_cons, List.length_cons, Nat.mul_succ]
  omega
abbrev tAx : Ty := .struct [tSe, .int .i64, .int .i64, .int .i64, tSp, .int .i64]
theorem topAnewCycle_con : ConOK cxT 16 ⟨[tAx], [.bool], F16⟩ := ghost_ok okT S16 6000 16 _ _
theorem topAnewCycle_reads (os : Os) {H : Type} (enc : TypeId × Value → H) : ∃ places, DataW.whole enc Tryd.prog ((laidW os).forCall (fun _ _ => 0) ⟨#[], #[.agg #[.slice none 0 0, .slice none 0 0, .int .i64 0, .int .i64 0, .int .i64 0, .int .i64 0, .int .i64 0, .int .i64 0, .int .i64 0, .int .i64 0]], []⟩).memory Tryd.f16.params.toList Rows.topAnewCycleSpec.vars false #[Value.agg #[.slice none 0 0, .slice none 0 0, .int .i64 0, .int .i64 0, .int .i64 0, .int .i64 0, .int .i64 0, .int .i64 0, .int .i64 0, .int .i64 0]].toList 8 =
  some ([.agg [.agg [.nil, .nil, .agg [.lit (.int .i64 0), .lit (.int .i64 0)]], .lit (.int .i64 0), .lit (.int .i64 0), .lit (.int .i64 0), .agg [.lit (.int .i64 0), .lit (.int .i64 0)], .lit (.int .i64 0)]], [], places) :=
 ⟨[], by kernel_rfl⟩
set_option maxRecDepth 100000 in
theorem topAnewCycle_lifted (os : Os) (started : os.Started) (H : Type) (enc : TypeId × Value → H) (F : Stop.Interp) :
  ReturnsInHanded {} Tryd.checked os 16 .any ((Rows.OpenSpec.upto Rows.topAnewCycleSpec).preRow enc Tryd.prog Tryd.f16 Rows.topAnewCycleUptoRow.domain false Rows.topAnewCycleUptoRow.laid)
   (((Rows.OpenSpec.upto Rows.topAnewCycleSpec).at F).post enc Tryd.prog Tryd.f16 false true false false) := by
 obtain ⟨places, hx⟩ := topAnewCycle_reads os enc
 refine returnsInHanded_of_row (C := Tryd.checked) (s := Rows.OpenSpec.upto Rows.topAnewCycleSpec) own1 started (by kernel_rfl) Tryd.func16
  (witness_row_at (enc := enc) (C := Tryd.checked) false (laidW os) #[.agg #[.slice none 0 0, .slice none 0 0, .int .i64 0, .int .i64 0, .int .i64 0, .int .i64 0, .int .i64 0, .int .i64 0, .int .i64 0, .int .i64 0]] rfl (by kernel_rfl) (by kernel_rfl) (by kernel_rfl)
    (OpenSpec.preRow_of_cond 8 hx (by kernel_rfl) (fun k hk => by cases hk; kernel_rfl) (by kernel_rfl) (laidMet_of_run' 8 (by kernel_rfl) (by kernel_rfl)))) ?_
 intro W base args ds gs before hval hW _ hcond _ hL _ _
 refine law_contract4 upto_ok topAnewCycle_con laidOut1 (B := 4) (by kernel_rfl) (by kernel_rfl) (by kernel_rfl) (fun ds hds => by
  match ds, hds with
  | [d], _ => exact ⟨rfl, rfl, rfl⟩) rfl hval hW (glob_ok hL rfl) (fun x p _ hx hA hb => ?_)
 have hk1 := of_decide_eq_true (hcond _ rfl)
 rw [upto_sum, List.map_append, List.sum_append] at hk1
 refine L16 x.1 ?_
 have h1 := bulk_ge (t := tSp) x.1.1.1 2 (fun _ => by simp [bulkT, bulkTL])
 have h2 := bulk_ge (t := tSm) x.1.1.2.1 4 (fun _ => by simp [bulkT, bulkTL])
 rw [show bulkTL [tAx] x = ((List.map (bulkT tSp) x.1.1.1).sum + 1 + ((List.map (bulkT tSm) x.1.1.2.1).sum + 1 + (1 + (1 + 0) + 0)) + (1 + (1 + (1 + (1 + (1 + 0) + (1 + 0))))) + 0) by simp only [bulkTL, bulkT]] at hb
 omega
theorem topAnewCycleUpto_holds : Rows.TopAnewCycleUptoSaid :=
 OpenClaim.holds_of_cond 16 Tryd.f16 rfl rfl rfl rfl rfl rfl rfl ⟨rfl, rfl, rfl, rfl, rfl⟩ rfl rfl rfl rfl rfl (by kernel_rfl) Tryd.func16 (by kernel_rfl)
  (of_decide_eq_true (by kernel_rfl)) (by unfold Func.isWrapper; first | (rw [if_pos (by decide +kernel)]; kernel_rfl) | (rw [if_neg (by decide +kernel)]; exact ⟨rfl, rfl⟩))
  (fun os started H enc _ F => by rw [OpenClaim.pre_eq_preRow]; exact topAnewCycle_lifted os started H enc F)
theorem topAnewCycleUpto_card_holds : Rows.TopAnewCycleUptoCardSaid :=
 Claim7.holds_tied_plain_at .later [] _ _ _ _
  topAnewCycleUpto_holds (fun _ h => by cases h) (by kernel_rfl) (fun _ h => by cases h) topAnewCycleUpto_row_tie rfl ⟨rfl, rfl⟩ (by kernel_rfl) rfl
  (fun f fn hf hfn => by
    obtain rfl : f = 16 := Option.some.inj ((show Tryd.prog.funcNamed "helioscope/helioscopetop.TopAnewCycle" = some 16 by kernel_rfl).symm.trans hf) |>.symm
    obtain rfl : fn = Tryd.f16 := (Option.some.inj (Tryd.func16.symm.trans hfn)).symm
    exact ⟨by kernel_rfl, fun j t ht => by
     rw [Tryd.params16] at ht
     rcases j with _ | j
     ·have h3 : t = 80 := by simpa using ht.symm
      subst h3
      exact (show Tryd.prog.wantsStandIn 80 = false by kernel_rfl)
     ·simp at ht⟩)
  (by kernel_rfl)
#print axioms topAnewCycleUpto_card_holds
end Go.Proofs.YtkbephbhajplhaaDoor
