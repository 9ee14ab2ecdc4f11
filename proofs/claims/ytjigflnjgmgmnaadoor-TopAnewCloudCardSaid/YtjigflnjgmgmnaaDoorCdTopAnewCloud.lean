/- TopAnewCloud returns true for every input, and leaves it as it was (the tied card). Conditions: none beyond the card's own. -/
import Derived.Test.YtjigflnjgmgmnaaDoorClG
import Derived.Test.YtjigflnjgmgmnaaDoorClAs
import Derived.Deep.DeepHandedRow
import Derived.JoinedCond
namespace Go.Proofs.YtjigflnjgmgmnaaDoor
open Go Go.Gh Go.ChangeShapes Go.WideShapes Go.ChangeAt Go.RowKit
theorem topAnewCloud_con : ConOK cxT 17 ⟨[tAx], [.bool], F17⟩ := ghost_ok okT S17 6000 17 _ _
theorem topAnewCloud_reads (os : Os) {H : Type} (enc : TypeId × Value → H) : ∃ places, DataW.whole enc Tryd.prog ((laidW os).forCall (fun _ _ => 0) ⟨#[], #[.agg #[.int .i64 0, .slice none 0 0, .int .i64 0, .int .i64 0]], []⟩).memory Tryd.f17.params.toList Rows.topAnewCloudSpec.vars false #[Value.agg #[.int .i64 0, .slice none 0 0, .int .i64 0, .int .i64 0]].toList 8 =
  some ([.agg [.agg [.lit (.int .i64 0), .nil], .lit (.int .i64 0), .lit (.int .i64 0)]], [], places) :=
 ⟨[], by kernel_rfl⟩
set_option maxRecDepth 100000 in
theorem topAnewCloud_lifted (os : Os) (started : os.Started) (H : Type) (enc : TypeId × Value → H) (F : Stop.Interp) :
  ReturnsInHanded {} Tryd.checked os 17 .any ((OpenSpec.ofChange Rows.topAnewCloudSpec).preRow enc Tryd.prog Tryd.f17 Rows.topAnewCloudRow.domain false Rows.topAnewCloudRow.laid)
   (((OpenSpec.ofChange Rows.topAnewCloudSpec).at F).post enc Tryd.prog Tryd.f17 false true false false) := by
 obtain ⟨places, hx⟩ := topAnewCloud_reads os enc
 refine returnsInHanded_of_row (C := Tryd.checked) (s := OpenSpec.ofChange Rows.topAnewCloudSpec) own1 started (by kernel_rfl) Tryd.func17
  (witness_row_at (enc := enc) (C := Tryd.checked) false (laidW os) #[.agg #[.int .i64 0, .slice none 0 0, .int .i64 0, .int .i64 0]] rfl (by kernel_rfl) (by kernel_rfl) (by kernel_rfl)
    (OpenSpec.preRow_of_cond 8 hx (by kernel_rfl) (fun k hk => by cases hk) (by kernel_rfl) (laidMet_of_run' 8 (by kernel_rfl) (by kernel_rfl)))) ?_
 intro W base args ds gs before hval hW _ _ hwt hL _ _
 exact law_contract3 topAnewCloud_con laidOut1 (B := 4) (by kernel_rfl) (by kernel_rfl) (by kernel_rfl) (fun ds hds => by
  match ds, hds with
  | [d], _ => exact ⟨rfl, rfl, rfl⟩) rfl hval hW (glob_ok hL rfl) (fun x p _ hx hA => L17 x.1 (mo_weight hA hx hwt))
theorem topAnewCloud_holds : Rows.TopAnewCloudSaid :=
 OpenClaim.holds_of_cond 17 Tryd.f17 rfl rfl rfl rfl rfl rfl rfl ⟨rfl, rfl, rfl, rfl, rfl⟩ rfl rfl rfl rfl rfl (by kernel_rfl) Tryd.func17 (by kernel_rfl)
  (of_decide_eq_true (by kernel_rfl)) (by unfold Func.isWrapper; first | (rw [if_pos (by decide +kernel)]; kernel_rfl) | (rw [if_neg (by decide +kernel)]; exact ⟨rfl, rfl⟩))
  (fun os started H enc _ F => by rw [OpenClaim.pre_eq_preRow]; exact topAnewCloud_lifted os started H enc F)
theorem topAnewCloud_card_holds : Rows.TopAnewCloudCardSaid :=
 Claim7.holds_tied_plain_at .later [] _ _ _ _
  topAnewCloud_holds (fun _ h => by cases h) (by kernel_rfl) (fun _ h => by cases h) topAnewCloud_row_tie rfl ⟨rfl, rfl⟩ (by kernel_rfl) rfl
  (fun f fn hf hfn => by
    obtain rfl : f = 17 := Option.some.inj ((show Tryd.prog.funcNamed "helioscope/helioscopetop.TopAnewCloud" = some 17 by kernel_rfl).symm.trans hf) |>.symm
    obtain rfl : fn = Tryd.f17 := (Option.some.inj (Tryd.func17.symm.trans hfn)).symm
    exact ⟨by kernel_rfl, fun j t ht => by
     rw [Tryd.params17] at ht
     rcases j with _ | j
     ·have h3 : t = 78 := by simpa using ht.symm
      subst h3
      exact (show Tryd.prog.wantsStandIn 78 = false by kernel_rfl)
     ·simp at ht⟩)
  (by kernel_rfl)
#print axioms topAnewCloud_card_holds
end Go.Proofs.YtjigflnjgmgmnaaDoor
