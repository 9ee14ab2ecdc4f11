/- What the ghost comes to: a law. Conditions: none (equations, each by computation). -/
import Derived.Test.YtallblpnlefpeaaRoF
import Derived.Test.YtallblpnlefpeaaRoAa
import Derived.Test.YtallblpnlefpeaaRoG
namespace Go.Proofs.Ytallblpnlefpeaa
open Go Go.Gh Go.Proofs
def S3 : List Gh.Spec := []
theorem E3 (G : (n : Nat) → Kept → denK (specAt S3 n) → Option (denL [.bool])) (t0 : ((List (Int × Bool × Unit)) × (List (List (Int × Int × Int × Unit))) × Unit)) (t1 : Int) : enter cx49 S3 [.bool] 6000 some G 3 [(.struct [(.slice (.struct [(.int .i64), .bool])), (.slice (.slice (.struct [(.int .i64), (.int .i64), (.int .i64)])))]), (.int .i64)] (t0, (t1, ())) =
    Option.bind (F18 (t0, ())) fun (y : Int × Int × Int × Unit) =>
  Option.bind (F19 (t0, ())) fun (y_1 : Int × Int × Int × Unit) =>
    bif Prod.fst y != Prod.fst y_1 then some (false, ())
    else
      bif Prod.fst (Prod.snd y) != Prod.fst (Prod.snd y_1) then some (false, ())
      else
        bif Prod.fst (Prod.snd (Prod.snd y)) != Prod.fst (Prod.snd (Prod.snd y_1)) then some (false, ())
        else
          Option.bind (F20 (t0, t1, ())) fun (y : Int × Int × Unit) =>
            Option.bind (F21 (t0, t1, ())) fun (y_2 : Int × Int × Unit) =>
              bif Prod.fst y != Prod.fst y_2 then some (false, ())
              else
                bif Prod.fst (Prod.snd y) != Prod.fst (Prod.snd y_2) then some (false, ())
                else
                  Option.bind (F22 (t0, ())) fun (y : Int × Int × Int × Int × Unit) =>
                    Option.bind (F23 (t0, ())) fun (y_3 : Int × Int × Int × Int × Unit) =>
                      bif Prod.fst y == Prod.fst y_3 then
                        bif Prod.fst (Prod.snd y) == Prod.fst (Prod.snd y_3) then bif Prod.fst (Prod.snd (Prod.snd y)) == Prod.fst (Prod.snd (Prod.snd y_3)) then bif Prod.fst (Prod.snd (Prod.snd (Prod.snd y))) == Prod.fst (Prod.snd (Prod.snd (Prod.snd y_3))) then Option.bind (F24 ()) fun (y : Bool × Unit) => some (Prod.fst y, ()) else some (false, ()) else some (false, ()) else some (false, ())
                      else some (false, ()) := by kernel_rfl
noncomputable def F3 : denL [(.struct [(.slice (.struct [(.int .i64), .bool])), (.slice (.slice (.struct [(.int .i64), (.int .i64), (.int .i64)])))]), (.int .i64)] → Option (denL [.bool]) := ghost cx49 S3 6000 3 [(.struct [(.slice (.struct [(.int .i64), .bool])), (.slice (.slice (.struct [(.int .i64), (.int .i64), (.int .i64)])))]), (.int .i64)] [.bool]
noncomputable def C3 : Con := ⟨[(.struct [(.slice (.struct [(.int .i64), .bool])), (.slice (.slice (.struct [(.int .i64), (.int .i64), (.int .i64)])))]), (.int .i64)], [.bool], F3⟩
end Go.Proofs.Ytallblpnlefpeaa
/- The law on Check, Value and Clash. Conditions: none. -/
namespace Go.Proofs.Ytallblpnlefpeaa
open Go Go.Gh Go.Proofs Go.Few
/-- The law on Check, Value and Clash. -/
theorem L3 (b : Bk) (n : Int) : F3 ((b, n, ()) : Bk × Int × Unit) = some (true, ()) := by
  refine ghost_eq (Ev.eq (fun _ => E3 _ _ _) ?_)
  rw [L18, L19]
  simp only [Option.bind_some, bne_self_eq_false, cond_false]
  rw [L20, L21]
  simp only [Option.bind_some, bne_self_eq_false, cond_false]
  rw [L22, L23]
  simp only [Option.bind_some, beq_self_eq_true, cond_true]
  rw [L24]
  exact Ev.all fun _ => by first | rfl | trivial
end Go.Proofs.Ytallblpnlefpeaa
/- RowValues returns true for every input, and leaves it as it was. Conditions: none beyond the row's own. -/
namespace Go.Proofs.Ytallblpnlefpeaa
open Go Go.Gh Go.ChangeShapes Go.WideShapes Go.ChangeAt Go.RowKit

theorem rowValues_con : ConOK cx49 3 ⟨[tyB, .int .i64], [.bool], F3⟩ := ghost_ok ok49 S3 6000 3 _ _

set_option maxRecDepth 100000 in
theorem rowValues_lifted (os : Os) (started : os.Started) (H : Type) (enc : TypeId × Value → H) :
    ReturnsInHanded {} Try.checked os 3 .any (Rows.rowValuesSpec.pre6 enc Try.prog Try.f3 Rows.rowValuesRow.domain false)
      (Rows.rowValuesSpec.post enc Try.prog Try.f3 false true false false) := by
  refine returnsInHanded_of_change (C := Try.checked) own1 started (by kernel_rfl) Try.func3
    (ChangeSpec.witness6 (enc := enc) (C := Try.checked) false ⟨#[], #[.agg #[.slice none 0 0, .slice none 0 0], .int .i64 0], []⟩ 8 (by kernel_rfl) (by kernel_rfl) (by kernel_rfl) (by kernel_rfl)) ?_
  intro W base args ds gs before hval hW _ _
  exact law_contract rowValues_con laidOut1 (B := 4) (by kernel_rfl) (by kernel_rfl) (by kernel_rfl) (fun ds hds => by
    match ds, hds with
    | [d1, d2], _ => exact ⟨rfl, rfl, rfl⟩) rfl (fun x _ => L3 x.1 x.2.1) hval hW (glob_ok W rfl)

theorem rowValues_holds : Rows.RowValuesSaid :=
  OpenClaim.holds_of_wide 3 Try.f3 rfl rfl rfl rfl rfl rfl rfl ⟨rfl, rfl, rfl, rfl, rfl⟩ rfl rfl rfl rfl rfl (by kernel_rfl) Try.func3 (by kernel_rfl)
    (of_decide_eq_true (by kernel_rfl)) (by unfold Func.isWrapper; first | (rw [if_pos (by decide +kernel)]; kernel_rfl) | (rw [if_neg (by decide +kernel)]; exact ⟨rfl, rfl⟩))
    (fun os started H enc _ => by
      rw [OpenClaim.pre_of_none rfl]
      exact rowValues_lifted os started H enc)
#print axioms rowValues_holds
end Go.Proofs.Ytallblpnlefpeaa
