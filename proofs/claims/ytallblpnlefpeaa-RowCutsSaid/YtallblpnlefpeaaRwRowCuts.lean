/- What the ghost comes to: a law. Conditions: none (equations, each by computation). -/
import Derived.Test.YtallblpnlefpeaaRoF
import Derived.Test.YtallblpnlefpeaaRoDa
import Derived.Test.YtallblpnlefpeaaRoG
namespace Go.Proofs.Ytallblpnlefpeaa
open Go Go.Gh Go.Proofs
def S6 : List Gh.Spec := []
theorem E6 (G : (n : Nat) → Kept → denK (specAt S6 n) → Option (denL [.bool])) (t0 : ((List (Int × Bool × Unit)) × (List (List (Int × Int × Int × Unit))) × Unit)) (t1 : Int) : enter cx49 S6 [.bool] 6000 some G 6 [(.struct [(.slice (.struct [(.int .i64), .bool])), (.slice (.slice (.struct [(.int .i64), (.int .i64), (.int .i64)])))]), (.int .i64)] (t0, (t1, ())) =
    Option.bind (F34 (t0, t1, ())) fun (y : List Int × Int × Unit) =>
  Option.bind (F35 (t0, t1, ())) fun (y_1 : List Int × Int × Unit) =>
    Option.bind (F27 (Prod.fst y, Prod.fst y_1, ())) fun (y_2 : Bool × Unit) =>
      bif !Prod.fst y_2 then some (false, ())
      else
        bif Prod.fst (Prod.snd y) != Prod.fst (Prod.snd y_1) then some (false, ())
        else
          Option.bind (F36 (t0, ())) fun (y : List Int × Int × Unit) =>
            Option.bind (F37 (t0, ())) fun (y_3 : List Int × Int × Unit) => Option.bind (F27 (Prod.fst y, Prod.fst y_3, ())) fun (y_4 : Bool × Unit) => bif Prod.fst y_4 then bif Prod.fst (Prod.snd y) == Prod.fst (Prod.snd y_3) then Option.bind (F24 ()) fun (y : Bool × Unit) => some (Prod.fst y, ()) else some (false, ()) else some (false, ()) := by kernel_rfl
noncomputable def F6 : denL [(.struct [(.slice (.struct [(.int .i64), .bool])), (.slice (.slice (.struct [(.int .i64), (.int .i64), (.int .i64)])))]), (.int .i64)] → Option (denL [.bool]) := ghost cx49 S6 6000 6 [(.struct [(.slice (.struct [(.int .i64), .bool])), (.slice (.slice (.struct [(.int .i64), (.int .i64), (.int .i64)])))]), (.int .i64)] [.bool]
noncomputable def C6 : Con := ⟨[(.struct [(.slice (.struct [(.int .i64), .bool])), (.slice (.slice (.struct [(.int .i64), (.int .i64), (.int .i64)])))]), (.int .i64)], [.bool], F6⟩
end Go.Proofs.Ytallblpnlefpeaa
/- The law on Cut and Wrong. Conditions: none. -/
namespace Go.Proofs.Ytallblpnlefpeaa
open Go Go.Gh Go.Proofs Go.Few
theorem L6 (b : Bk) (n : Int) : F6 ((b, n, ()) : Bk × Int × Unit) = some (true, ()) := by
  refine ghost_eq (Ev.eq (fun _ => E6 _ _ _) ?_)
  rw [L34, L35]
  simp only [Option.bind_some]
  rw [L27 _ _ (cut_len b n), dec_t rfl]
  simp only [Option.bind_some, bne_self_eq_false, cond_false, Bool.not_true]
  rw [L36, L37]
  simp only [Option.bind_some]
  rw [L27 _ _ (wrong_len b), dec_t rfl]
  simp only [Option.bind_some, beq_self_eq_true, cond_true]
  rw [L24]
  exact Ev.all fun _ => by first | rfl | trivial
end Go.Proofs.Ytallblpnlefpeaa
/- RowCuts returns true for every input, and leaves it as it was. Conditions: none beyond the row's own. -/
namespace Go.Proofs.Ytallblpnlefpeaa
open Go Go.Gh Go.ChangeShapes Go.WideShapes Go.ChangeAt Go.RowKit

theorem rowCuts_con : ConOK cx49 6 ⟨[tyB, .int .i64], [.bool], F6⟩ := ghost_ok ok49 S6 6000 6 _ _

set_option maxRecDepth 100000 in
theorem rowCuts_lifted (os : Os) (started : os.Started) (H : Type) (enc : TypeId × Value → H) :
    ReturnsInHanded {} Try.checked os 6 .any (Rows.rowCutsSpec.pre6 enc Try.prog Try.f6 Rows.rowCutsRow.domain false)
      (Rows.rowCutsSpec.post enc Try.prog Try.f6 false true false false) := by
  refine returnsInHanded_of_change (C := Try.checked) own1 started (by kernel_rfl) Try.func6
    (ChangeSpec.witness6 (enc := enc) (C := Try.checked) false ⟨#[], #[.agg #[.slice none 0 0, .slice none 0 0], .int .i64 0], []⟩ 8 (by kernel_rfl) (by kernel_rfl) (by kernel_rfl) (by kernel_rfl)) ?_
  intro W base args ds gs before hval hW _ _
  exact law_contract rowCuts_con laidOut1 (B := 4) (by kernel_rfl) (by kernel_rfl) (by kernel_rfl) (fun ds hds => by
    match ds, hds with
    | [d1, d2], _ => exact ⟨rfl, rfl, rfl⟩) rfl (fun x _ => L6 x.1 x.2.1) hval hW (glob_ok W rfl)

theorem rowCuts_holds : Rows.RowCutsSaid :=
  OpenClaim.holds_of_wide 6 Try.f6 rfl rfl rfl rfl rfl rfl rfl ⟨rfl, rfl, rfl, rfl, rfl⟩ rfl rfl rfl rfl rfl (by kernel_rfl) Try.func6 (by kernel_rfl)
    (of_decide_eq_true (by kernel_rfl)) (by unfold Func.isWrapper; first | (rw [if_pos (by decide +kernel)]; kernel_rfl) | (rw [if_neg (by decide +kernel)]; exact ⟨rfl, rfl⟩))
    (fun os started H enc _ => by
      rw [OpenClaim.pre_of_none rfl]
      exact rowCuts_lifted os started H enc)
#print axioms rowCuts_holds
end Go.Proofs.Ytallblpnlefpeaa
