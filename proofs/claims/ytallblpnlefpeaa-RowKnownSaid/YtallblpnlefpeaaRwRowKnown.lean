/- What the ghost comes to: a law. Conditions: none (equations, each by computation). -/
import Derived.Test.YtallblpnlefpeaaRoF
import Derived.Test.YtallblpnlefpeaaRoAa
import Derived.Test.YtallblpnlefpeaaRoG
namespace Go.Proofs.Ytallblpnlefpeaa
open Go Go.Gh Go.Proofs
def S7 : List Gh.Spec := []
theorem E7 (G : (n : Nat) → Kept → denK (specAt S7 n) → Option (denL [.bool]))  : enter cx49 S7 [.bool] 6000 some G 7 [] () =
    Option.bind (F38 (12, ())) fun (y : (List (Int × Bool × Unit) × List (List (Int × Int × Int × Unit)) × Unit) × Unit) =>
  Option.bind (F20 (Prod.fst y, 0, ())) fun (y_1 : Int × Int × Unit) =>
    Option.bind (F20 (Prod.fst y, 2, ())) fun (y_2 : Int × Int × Unit) =>
      Option.bind (F25 (Prod.fst y, 3, ())) fun (y_3 : List Int × Int × Unit) =>
        Option.bind (F30 (Prod.fst y, 0, ())) fun (y_4 : List Int × Int × Unit) =>
          Option.bind (F32 (Prod.fst y, 0, ())) fun (y_5 : List Int × Int × Unit) =>
            Option.bind (F34 (Prod.fst y, 1, ())) fun (y_6 : List Int × Int × Unit) =>
              Option.bind (F36 (Prod.fst y, ())) fun (y : List Int × Int × Unit) =>
                bif Prod.fst (Prod.snd y_1) == 0 then
                  bif Prod.fst (Prod.snd y_2) == 0 then
                    bif Prod.fst (Prod.snd y_3) == 0 then
                      bif Prod.fst (Prod.snd y_4) == 0 then
                        bif Prod.fst (Prod.snd y_5) == 0 then
                          bif Prod.fst (Prod.snd y_6) == 0 then
                            bif Prod.fst (Prod.snd y) == 0 then
                              bif Prod.fst y_1 == 12 then
                                bif Prod.fst y_2 == 12 then
                                  Option.bind (F27 (Prod.fst y_3, 1 :: 2 :: List.replicate 0 0, ())) fun (y_7 : Bool × Unit) =>
                                    bif Prod.fst y_7 then
                                      Option.bind (F27 (Prod.fst y_4, 2 :: List.replicate 0 0, ())) fun (y_8 : Bool × Unit) =>
                                        bif Prod.fst y_8 then
                                          bif (↑(List.length (Prod.fst y_5)) : Int) == 0 then Option.bind (F27 (Prod.fst y_6, 3 :: List.replicate 0 0, ())) fun (y_9 : Bool × Unit) => bif Prod.fst y_9 then bif (↑(List.length (Prod.fst y)) : Int) == 0 then Option.bind (F24 ()) fun (y : Bool × Unit) => some (Prod.fst y, ()) else some (false, ()) else some (false, ()) else some (false, ())
                                        else some (false, ())
                                    else some (false, ())
                                else some (false, ())
                              else some (false, ())
                            else some (false, ())
                          else some (false, ())
                        else some (false, ())
                      else some (false, ())
                    else some (false, ())
                  else some (false, ())
                else some (false, ()) := by kernel_rfl
noncomputable def F7 : denL [] → Option (denL [.bool]) := ghost cx49 S7 6000 7 [] [.bool]
noncomputable def C7 : Con := ⟨[], [.bool], F7⟩
end Go.Proofs.Ytallblpnlefpeaa
/- The law on the examples. Conditions: none. -/
namespace Go.Proofs.Ytallblpnlefpeaa
open Go Go.Gh Go.Proofs Go.Few
theorem y1 : valueP (exB 12) 0 = (12, 0, ()) := by decide +kernel
theorem y2 : valueP (exB 12) 2 = (12, 0, ()) := by decide +kernel
theorem y3 : againP (exB 12) 3 = ([1, 2], 0, ()) := by decide +kernel
theorem y4 : groundP (exB 12) 0 = ([2], 0, ()) := by decide +kernel
theorem y5 : needsP (exB 12) 0 = ([], 0, ()) := by decide +kernel
theorem y6 : cutP (exB 12) 1 = ([3], 0, ()) := by decide +kernel
theorem y7 : wrongP (exB 12) = ([], 0, ()) := by decide +kernel
theorem L7 : F7 () = some (true, ()) := by
  refine ghost_eq (Ev.eq (fun _ => E7 _) ?_)
  rw [L38]
  simp only [Option.bind_some]
  rw [L20, L20, L25, L30, L32, L34, L36, y1, y2, y3, y4, y5, y6, y7, L24]
  simp only [L27 _ _ (show ([1, 2] : List Int).length < 1000000 by decide), L27 _ _ (show ([2] : List Int).length < 1000000 by decide), L27 _ _ (show ([3] : List Int).length < 1000000 by decide), Option.bind_some]
  exact Ev.all fun _ => by first | rfl | trivial | decide
end Go.Proofs.Ytallblpnlefpeaa
/- RowKnown returns true for every input, and leaves it as it was. Conditions: none beyond the row's own. -/
namespace Go.Proofs.Ytallblpnlefpeaa
open Go Go.Gh Go.ChangeShapes Go.WideShapes Go.ChangeAt Go.RowKit

theorem rowKnown_con : ConOK cx49 7 ⟨[], [.bool], F7⟩ := ghost_ok ok49 S7 6000 7 _ _

set_option maxRecDepth 100000 in
theorem rowKnown_lifted (os : Os) (started : os.Started) (H : Type) (enc : TypeId × Value → H) :
    ReturnsInHanded {} Try.checked os 7 .any (Rows.rowKnownSpec.pre6 enc Try.prog Try.f7 Rows.rowKnownRow.domain false)
      (Rows.rowKnownSpec.post enc Try.prog Try.f7 false true false false) := by
  refine returnsInHanded_of_change (C := Try.checked) own1 started (by kernel_rfl) Try.func7
    (ChangeSpec.witness6 (enc := enc) (C := Try.checked) false ⟨#[], #[], []⟩ 8 (by kernel_rfl) (by kernel_rfl) (by kernel_rfl) (by kernel_rfl)) ?_
  intro W base args ds gs before hval hW _ _
  exact law_contract rowKnown_con laidOut1 (B := 4) (by kernel_rfl) (by kernel_rfl) (by kernel_rfl) (fun ds hds => by
    match ds, hds with
    | [], _ => exact ⟨rfl, rfl, rfl⟩) rfl (fun _ _ => L7) hval hW (glob_ok W rfl)

theorem rowKnown_holds : Rows.RowKnownSaid :=
  OpenClaim.holds_of_wide 7 Try.f7 rfl rfl rfl rfl rfl rfl rfl ⟨rfl, rfl, rfl, rfl, rfl⟩ rfl rfl rfl rfl rfl (by kernel_rfl) Try.func7 (by kernel_rfl)
    (of_decide_eq_true (by kernel_rfl)) (by unfold Func.isWrapper; first | (rw [if_pos (by decide +kernel)]; kernel_rfl) | (rw [if_neg (by decide +kernel)]; exact ⟨rfl, rfl⟩))
    (fun os started H enc _ => by
      rw [OpenClaim.pre_of_none rfl]
      exact rowKnown_lifted os started H enc)
#print axioms rowKnown_holds
end Go.Proofs.Ytallblpnlefpeaa
