/- What the ghost comes to: a law. Conditions: none (equations, each by computation). -/
import Derived.Test.YtallblpnlefpeaaRoF
import Derived.Test.YtallblpnlefpeaaRoBa
import Derived.Test.YtallblpnlefpeaaRoG
namespace Go.Proofs.Ytallblpnlefpeaa
open Go Go.Gh Go.Proofs
def S4 : List Gh.Spec := []
theorem E4 (G : (n : Nat) → Kept → denK (specAt S4 n) → Option (denL [.bool])) (t0 : ((List (Int × Bool × Unit)) × (List (List (Int × Int × Int × Unit))) × Unit)) (t1 : Int) : enter cx49 S4 [.bool] 6000 some G 4 [(.struct [(.slice (.struct [(.int .i64), .bool])), (.slice (.slice (.struct [(.int .i64), (.int .i64), (.int .i64)])))]), (.int .i64)] (t0, (t1, ())) =
    Option.bind (F25 (t0, t1, ())) fun (y : List Int × Int × Unit) =>
  Option.bind (F26 (t0, t1, ())) fun (y_1 : List Int × Int × Unit) =>
    Option.bind (F27 (Prod.fst y, Prod.fst y_1, ())) fun (y_2 : Bool × Unit) =>
      bif !Prod.fst y_2 then some (false, ())
      else
        bif Prod.fst (Prod.snd y) != Prod.fst (Prod.snd y_1) then some (false, ())
        else
          Option.bind (F28 (t0, t1, ())) fun (y : List Int × Int × Unit) =>
            Option.bind (F29 (t0, t1, ())) fun (y_3 : List Int × Int × Unit) => Option.bind (F27 (Prod.fst y, Prod.fst y_3, ())) fun (y_4 : Bool × Unit) => bif Prod.fst y_4 then bif Prod.fst (Prod.snd y) == Prod.fst (Prod.snd y_3) then Option.bind (F24 ()) fun (y : Bool × Unit) => some (Prod.fst y, ()) else some (false, ()) else some (false, ()) := by kernel_rfl
noncomputable def F4 : denL [(.struct [(.slice (.struct [(.int .i64), .bool])), (.slice (.slice (.struct [(.int .i64), (.int .i64), (.int .i64)])))]), (.int .i64)] → Option (denL [.bool]) := ghost cx49 S4 6000 4 [(.struct [(.slice (.struct [(.int .i64), .bool])), (.slice (.slice (.struct [(.int .i64), (.int .i64), (.int .i64)])))]), (.int .i64)] [.bool]
noncomputable def C4 : Con := ⟨[(.struct [(.slice (.struct [(.int .i64), .bool])), (.slice (.slice (.struct [(.int .i64), (.int .i64), (.int .i64)])))]), (.int .i64)], [.bool], F4⟩
end Go.Proofs.Ytallblpnlefpeaa
/- The law on Again and Strike. Conditions: none. -/
namespace Go.Proofs.Ytallblpnlefpeaa
open Go Go.Gh Go.Proofs Go.Few
/-- The law on Again and Strike. -/
theorem L4 (b : Bk) (n : Int) : F4 ((b, n, ()) : Bk × Int × Unit) = some (true, ()) := by
  refine ghost_eq (Ev.eq (fun _ => E4 _ _ _) ?_)
  rw [L25, L26]
  simp only [Option.bind_some]
  rw [L27 _ _ (again_len b n), dec_t rfl]
  simp only [Option.bind_some, bne_self_eq_false, cond_false, Bool.not_true]
  rw [L28, L29]
  simp only [Option.bind_some]
  rw [L27 _ _ (strike_len b n), dec_t rfl]
  simp only [Option.bind_some, beq_self_eq_true, cond_true]
  rw [L24]
  exact Ev.all fun _ => by first | rfl | trivial
end Go.Proofs.Ytallblpnlefpeaa
/- RowAgain returns true for every input, and leaves it as it was. Conditions: none beyond the row's own. -/
namespace Go.Proofs.Ytallblpnlefpeaa
open Go Go.Gh Go.ChangeShapes Go.WideShapes Go.ChangeAt Go.RowKit

theorem rowAgain_con : ConOK cx49 4 ⟨[tyB, .int .i64], [.bool], F4⟩ := ghost_ok ok49 S4 6000 4 _ _

set_option maxRecDepth 100000 in
theorem rowAgain_lifted (os : Os) (started : os.Started) (H : Type) (enc : TypeId × Value → H) :
    ReturnsInHanded {} Try.checked os 4 .any (Rows.rowAgainSpec.pre6 enc Try.prog Try.f4 Rows.rowAgainRow.domain false)
      (Rows.rowAgainSpec.post enc Try.prog Try.f4 false true false false) := by
  refine returnsInHanded_of_change (C := Try.checked) own1 started (by kernel_rfl) Try.func4
    (ChangeSpec.witness6 (enc := enc) (C := Try.checked) false ⟨#[], #[.agg #[.slice none 0 0, .slice none 0 0], .int .i64 0], []⟩ 8 (by kernel_rfl) (by kernel_rfl) (by kernel_rfl) (by kernel_rfl)) ?_
  intro W base args ds gs before hval hW _ _
  exact law_contract rowAgain_con laidOut1 (B := 4) (by kernel_rfl) (by kernel_rfl) (by kernel_rfl) (fun ds hds => by
    match ds, hds with
    | [d1, d2], _ => exact ⟨rfl, rfl, rfl⟩) rfl (fun x _ => L4 x.1 x.2.1) hval hW (glob_ok W rfl)

theorem rowAgain_holds : Rows.RowAgainSaid :=
  OpenClaim.holds_of_wide 4 Try.f4 rfl rfl rfl rfl rfl rfl rfl ⟨rfl, rfl, rfl, rfl, rfl⟩ rfl rfl rfl rfl rfl (by kernel_rfl) Try.func4 (by kernel_rfl)
    (of_decide_eq_true (by kernel_rfl)) (by unfold Func.isWrapper; first | (rw [if_pos (by decide +kernel)]; kernel_rfl) | (rw [if_neg (by decide +kernel)]; exact ⟨rfl, rfl⟩))
    (fun os started H enc _ => by
      rw [OpenClaim.pre_of_none rfl]
      exact rowAgain_lifted os started H enc)
#print axioms rowAgain_holds
end Go.Proofs.Ytallblpnlefpeaa
