/- What the ghost comes to: a law. Conditions: none (equations, each by computation). -/
import Derived.Test.YtallblpnlefpeaaRoF
import Derived.Test.YtallblpnlefpeaaRoGa
import Derived.Test.YtallblpnlefpeaaRoG
namespace Go.Proofs.Ytallblpnlefpeaa
open Go Go.Gh Go.Proofs
def S13 : List Gh.Spec := []
theorem E13 (G : (n : Nat) → Kept → denK (specAt S13 n) → Option (denL [.bool])) (t0 : Bk) (t1 : Int) : enter cx49 S13 [.bool] 6000 some G 13 [tBk, (.int .u8)] (t0, (t1, ())) =
    Option.bind (F36 (t0, ())) fun (y : List Int × Int × Unit) =>
  Option.bind (F39 (t0, ())) fun (y_1 : Bool × Unit) =>
    bif !Prod.fst y_1 then bif Prod.fst (Prod.snd y) != 0 then bif (↑(List.length (Prod.fst y)) : Int) == 0 then Option.bind (F24 ()) fun (y : Bool × Unit) => some (Prod.fst y, ()) else some (false, ()) else some (false, ())
    else
      Option.bind (F47 (t0, ())) fun (y_2 : List Int × Unit) =>
        bif Prod.fst (Prod.snd y) != 0 then some (false, ())
        else
          Option.bind (F42 (Prod.fst y, (↑(List.length (Prod.fst t0)) : Int), ())) fun (y_3 : Bool × Unit) =>
            bif !Prod.fst y_3 then some (false, ())
            else
              Option.bind (F43 (Prod.fst y, Prod.fst y_2, ())) fun (y_4 : Bool × Unit) =>
                bif !Prod.fst y_4 then some (false, ())
                else
                  Option.bind (F44 (t0, Prod.fst y, ())) fun (y_5 : Bk × Unit) =>
                    Option.bind (F22 (Prod.fst y_5, ())) fun (y_6 : Int × Int × Int × Int × Unit) =>
                      Option.bind (F49 (Prod.fst y_2, t1, ())) fun (y_7 : List Int × Unit) =>
                        Option.bind (F44 (t0, Prod.fst y_7, ())) fun (y_8 : Bk × Unit) =>
                          Option.bind (F22 (Prod.fst y_8, ())) fun (y_9 : Int × Int × Int × Int × Unit) =>
                            bif Prod.fst (Prod.snd (Prod.snd (Prod.snd y_6))) == 9 then
                              Option.bind (F50 (Prod.fst y_7, Prod.fst y, ())) fun (y : Bool × Unit) => bif !Prod.fst y then Option.bind (F24 ()) fun (y : Bool × Unit) => some (Prod.fst y, ()) else bif Prod.fst (Prod.snd (Prod.snd (Prod.snd y_9))) == 0 then Option.bind (F24 ()) fun (y : Bool × Unit) => some (Prod.fst y, ()) else some (false, ())
                            else some (false, ()) := by kernel_rfl
noncomputable def F13 : denL [tBk, (.int .u8)] → Option (denL [.bool]) := ghost cx49 S13 6000 13 [tBk, (.int .u8)] [.bool]
noncomputable def C13 : Con := ⟨[tBk, (.int .u8)], [.bool], F13⟩
end Go.Proofs.Ytallblpnlefpeaa
/- The law on what Wrong names. Conditions: as each lemma states. -/
namespace Go.Proofs.Ytallblpnlefpeaa
open Go Go.Gh Go.Proofs Go.Few
theorem clash_with {b : Bk} (h : (chkP b).2.2.1 = 0) {l : List Int} (hl : ∀ x ∈ l, 0 ≤ x ∧ x < b.1.length) : (clashR (withB b l)).2.2.2.1 = if okW b l = true then 9 else 0 := by
  have hs := with_same b l hl
  unfold clashR okW
  rw [hs.chk, if_neg (fun hn => hn h), with_rows b l hl, hs.clash]
  rcases clashP b (butN (rowsN b) (Few.bitsL l)) with _ | ⟨n, i, k⟩ <;> rfl
theorem L13 (b : Bk) (x : Int) (hx : 0 ≤ x ∧ x ≤ 255) : F13 ((b, x, ()) : Bk × Int × Unit) = some (true, ()) := by
  refine ghost_eq (Ev.eq (fun _ => E13 _ _ _) ?_)
  obtain ⟨x, rfl⟩ := Int.eq_ofNat_of_zero_le hx.1
  rw [L36, L39]
  simp only [Option.bind_some]
  by_cases h : (chkP b).2.2.1 = 0
  · have hv := VB_of h
    have h8 := hv.r8
    have hs8 := stand_len b
    have hw : wrongP b = (refFew (standL b) (okW b), 0, ()) := by
      unfold wrongP
      rw [if_pos h, h, few_same h8 (wrong_all hv)]
    have hb := few_best (stand_pair b) (wrong_all hv)
    have hlen := few_len h8 (wrong_all hv)
    rw [h, hw, L47 b (by omega)]
    simp only [beq_self_eq_true, Bool.not_true, cond_false, Option.bind_some, bne_self_eq_false]
    generalize refFew (standL b) (okW b) = r at *
    have hsub : ∀ y ∈ r, y ∈ standL b := fun y hy => hb.is.1.subset hy
    have hin := stand_in hsub
    have hsub2 : ∀ y ∈ someL (standL b) x (standL b).length, y ∈ standL b := fun y hy => (some_sub _ _).subset hy
    have hin2 := stand_in hsub2
    have hslen := someL_len (standL b) x (standL b).length
    have hsome := some_sub (standL b) x
    have hall : (r.all fun y => decide (y ∈ standL b)) = true := List.all_eq_true.2 fun y hy => decide_eq_true (hsub y hy)
    rw [L42 r b.1.length (by omega) (by omega) ((stand_pair b).sublist hb.is.1) hin, L43 r (standL b) (by omega) (by omega), hall, L44 b (by omega) r hin (by omega), L49 (standL b) (by omega) x (by omega)]
    simp only [Bool.not_true, cond_false, Option.bind_some]
    rw [L22, L44 b (by omega) _ hin2 (by omega)]
    simp only [Option.bind_some]
    rw [L22, clash_with h hin, if_pos hb.is.2]
    simp only [Option.bind_some]
    rw [clash_with h hin2]
    obtain ⟨f, hf, hfi⟩ := L50 (someL (standL b) x (standL b).length) r (by omega)
    rw [hf, L24]
    simp only [Option.bind_some]
    cases f with
    | false => exact Ev.all fun _ => by first | rfl | trivial
    | true =>
      have hnot : ¬ okW b (someL (standL b) x (standL b).length) = true := fun hk => hb.first _ ⟨hsome, hk⟩ (hfi.1 rfl)
      rw [if_neg hnot]
      exact Ev.all fun _ => by first | rfl | trivial
  · have hw : wrongP b = ([], (chkP b).2.2.1, ()) := by unfold wrongP; rw [if_neg h]
    rw [hw, show ((chkP b).2.2.1 == 0) = false from beq_eq_false_iff_ne.2 h, bne_iff_ne.2 h, L24]
    exact Ev.all fun _ => by first | rfl | trivial
end Go.Proofs.Ytallblpnlefpeaa
/- RowFewest returns true for every input, and leaves it as it was. Conditions: none beyond the row's own. -/
namespace Go.Proofs.Ytallblpnlefpeaa
open Go Go.Gh Go.ChangeShapes Go.WideShapes Go.ChangeAt Go.RowKit

theorem rowFewest_con : ConOK cx49 13 ⟨[tyB, .int .u8], [.bool], F13⟩ := ghost_ok ok49 S13 6000 13 _ _

set_option maxRecDepth 100000 in
theorem rowFewest_lifted (os : Os) (started : os.Started) (H : Type) (enc : TypeId × Value → H) :
    ReturnsInHanded {} Try.checked os 13 .any (Rows.rowFewestSpec.pre6 enc Try.prog Try.f13 Rows.rowFewestRow.domain false)
      (Rows.rowFewestSpec.post enc Try.prog Try.f13 false true false false) := by
  refine returnsInHanded_of_change (C := Try.checked) own1 started (by kernel_rfl) Try.func13
    (ChangeSpec.witness6 (enc := enc) (C := Try.checked) false ⟨#[], #[.agg #[.slice none 0 0, .slice none 0 0], .int .u8 0], []⟩ 8 (by kernel_rfl) (by kernel_rfl) (by kernel_rfl) (by kernel_rfl)) ?_
  intro W base args ds gs before hval hW _ _
  exact law_contract rowFewest_con laidOut1 (B := 4) (by kernel_rfl) (by kernel_rfl) (by kernel_rfl) (fun ds hds => by
    match ds, hds with
    | [d1, d2], _ => exact ⟨rfl, rfl, rfl⟩) rfl (fun x hx => L13 x.1 x.2.1 (u8_in hx.2.1)) hval hW (glob_ok W rfl)

theorem rowFewest_holds : Rows.RowFewestSaid :=
  OpenClaim.holds_of_wide 13 Try.f13 rfl rfl rfl rfl rfl rfl rfl ⟨rfl, rfl, rfl, rfl, rfl⟩ rfl rfl rfl rfl rfl (by kernel_rfl) Try.func13 (by kernel_rfl)
    (of_decide_eq_true (by kernel_rfl)) (by unfold Func.isWrapper; first | (rw [if_pos (by decide +kernel)]; kernel_rfl) | (rw [if_neg (by decide +kernel)]; exact ⟨rfl, rfl⟩))
    (fun os started H enc _ => by
      rw [OpenClaim.pre_of_none rfl]
      exact rowFewest_lifted os started H enc)
#print axioms rowFewest_holds
end Go.Proofs.Ytallblpnlefpeaa
