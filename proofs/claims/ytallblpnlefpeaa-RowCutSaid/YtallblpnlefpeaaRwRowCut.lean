/- What the ghost comes to: a law. Conditions: none (equations, each by computation). -/
import Derived.Test.YtallblpnlefpeaaRoF
import Derived.Test.YtallblpnlefpeaaRoHa
import Derived.Test.YtallblpnlefpeaaRoG
namespace Go.Proofs.Ytallblpnlefpeaa
open Go Go.Gh Go.Proofs
def S11 : List Gh.Spec := []
theorem E11 (G : (n : Nat) → Kept → denK (specAt S11 n) → Option (denL [.bool])) (t0 : Bk) (t1 : Int) (t2 : Int) : enter cx49 S11 [.bool] 6000 some G 11 [tBk, (.int .u8), (.int .u8)] (t0, (t1, (t2, ()))) =
    Option.bind (F39 (t0, ())) fun (y : Bool × Unit) =>
  bif !Prod.fst y then Option.bind (F34 (t0, 0, ())) fun (y : List Int × Int × Unit) => bif Prod.fst (Prod.snd y) != 0 then Option.bind (F24 ()) fun (y : Bool × Unit) => some (Prod.fst y, ()) else some (false, ())
  else
    bif (↑(List.length (Prod.fst (Prod.snd t0))) : Int) == 0 then Option.bind (F34 (t0, 0, ())) fun (y : List Int × Int × Unit) => bif Prod.fst (Prod.snd y) != 0 then Option.bind (F24 ()) fun (y : Bool × Unit) => some (Prod.fst y, ()) else some (false, ())
    else
      bif decide ((↑(List.length (Prod.fst (Prod.snd t0))) : Int) = 0) then none
      else
        Option.bind (F34 (t0, Int.tmod (IntKind.wrap IntKind.i64 t1) (↑(List.length (Prod.fst (Prod.snd t0))) : Int), ())) fun (y : List Int × Int × Unit) =>
          Option.bind (F47 (t0, ())) fun (y_1 : List Int × Unit) =>
            bif Prod.fst (Prod.snd y) != 0 then some (false, ())
            else
              Option.bind (F42 (Prod.fst y, (↑(List.length (Prod.fst t0)) : Int), ())) fun (y_2 : Bool × Unit) =>
                bif !Prod.fst y_2 then some (false, ())
                else
                  Option.bind (F43 (Prod.fst y, Prod.fst y_1, ())) fun (y_3 : Bool × Unit) =>
                    bif !Prod.fst y_3 then some (false, ())
                    else
                      Option.bind (F44 (t0, Prod.fst y, ())) fun (y_4 : Bk × Unit) =>
                        Option.bind (F20 (Prod.fst y_4, Int.tmod (IntKind.wrap IntKind.i64 t1) (↑(List.length (Prod.fst (Prod.snd t0))) : Int), ())) fun (y_5 : Int × Int × Unit) =>
                          Option.bind (F49 (Prod.fst y_1, t2, ())) fun (y_6 : List Int × Unit) =>
                            Option.bind (F44 (t0, Prod.fst y_6, ())) fun (y_7 : Bk × Unit) =>
                              Option.bind (F20 (Prod.fst y_7, Int.tmod (IntKind.wrap IntKind.i64 t1) (↑(List.length (Prod.fst (Prod.snd t0))) : Int), ())) fun (y_8 : Int × Int × Unit) =>
                                bif Prod.fst (Prod.snd y_5) != 8 then some (false, ())
                                else
                                  Option.bind (F50 (Prod.fst y_6, Prod.fst y, ())) fun (y_9 : Bool × Unit) =>
                                    bif Prod.fst y_9 then
                                      bif Prod.fst (Prod.snd y_8) != 0 then some (false, ())
                                      else
                                        Option.bind (F32 (t0, Int.tmod (IntKind.wrap IntKind.i64 t1) (↑(List.length (Prod.fst (Prod.snd t0))) : Int), ())) fun (y_10 : List Int × Int × Unit) =>
                                          bif Prod.fst (Prod.snd y_10) != 0 then bif Prod.fst (Prod.snd y_10) == 8 then bif (↑(List.length (Prod.fst y)) : Int) == 0 then Option.bind (F24 ()) fun (y : Bool × Unit) => some (Prod.fst y, ()) else some (false, ()) else some (false, ())
                                          else
                                            bif decide ((↑(List.length (Prod.fst y)) : Int) > 0) then
                                              bif eqD Ty.bool (decide ((↑(List.length (Prod.fst y_10)) : Int) > 0)) ((↑(List.length (Prod.fst y)) : Int) == 1) then
                                                bif (↑(List.length (Prod.fst y_10)) : Int) == 0 then Option.bind (F24 ()) fun (y : Bool × Unit) => some (Prod.fst y, ())
                                                else bif true && decide (0 < (↑(List.length (Prod.fst y_10)) : Int)) then bif true && decide (0 < (↑(List.length (Prod.fst y)) : Int)) then bif List.getD (Prod.fst y_10) 0 0 == List.getD (Prod.fst y) 0 0 then Option.bind (F24 ()) fun (y : Bool × Unit) => some (Prod.fst y, ()) else some (false, ()) else none else none
                                              else some (false, ())
                                            else some (false, ())
                                    else
                                      Option.bind (F32 (t0, Int.tmod (IntKind.wrap IntKind.i64 t1) (↑(List.length (Prod.fst (Prod.snd t0))) : Int), ())) fun (y_10 : List Int × Int × Unit) =>
                                        bif Prod.fst (Prod.snd y_10) != 0 then bif Prod.fst (Prod.snd y_10) == 8 then bif (↑(List.length (Prod.fst y)) : Int) == 0 then Option.bind (F24 ()) fun (y : Bool × Unit) => some (Prod.fst y, ()) else some (false, ()) else some (false, ())
                                        else
                                          bif decide ((↑(List.length (Prod.fst y)) : Int) > 0) then
                                            bif eqD Ty.bool (decide ((↑(List.length (Prod.fst y_10)) : Int) > 0)) ((↑(List.length (Prod.fst y)) : Int) == 1) then
                                              bif (↑(List.length (Prod.fst y_10)) : Int) == 0 then Option.bind (F24 ()) fun (y : Bool × Unit) => some (Prod.fst y, ())
                                              else bif true && decide (0 < (↑(List.length (Prod.fst y_10)) : Int)) then bif true && decide (0 < (↑(List.length (Prod.fst y)) : Int)) then bif List.getD (Prod.fst y_10) 0 0 == List.getD (Prod.fst y) 0 0 then Option.bind (F24 ()) fun (y : Bool × Unit) => some (Prod.fst y, ()) else some (false, ()) else none else none
                                            else some (false, ())
                                          else some (false, ()) := by kernel_rfl
noncomputable def F11 : denL [tBk, (.int .u8), (.int .u8)] → Option (denL [.bool]) := ghost cx49 S11 6000 11 [tBk, (.int .u8), (.int .u8)] [.bool]
noncomputable def C11 : Con := ⟨[tBk, (.int .u8), (.int .u8)], [.bool], F11⟩
end Go.Proofs.Ytallblpnlefpeaa
/- The law on what Cut names. Conditions: as each lemma states. -/
namespace Go.Proofs.Ytallblpnlefpeaa
open Go Go.Gh Go.Proofs Go.Few
/-- One row alone is a cut as Needs says; the first of them is the first. -/
theorem cut_needs {b : Bk} (hv : VB b) {n : Nat} (_ : n < b.2.1.length) {r : List Int} (hb : Best (fun l => l.Sublist (standL b) ∧ okC b n l = true) r) (hs : ((allP b (rowsN b)).getD n fd0).1 = true) :
    0 < r.length ∧ (0 < (numsL (needsB b n) 8).length ↔ r.length = 1) ∧ (0 < (numsL (needsB b n) 8).length → (numsL (needsB b n) 8).getD 0 0 = r.getD 0 0) := by
  have h8 := hv.r8
  have hpos : 0 < r.length := by
    cases r with
    | nil =>
      have := hb.is.2
      rw [okC_nil, hs] at this
      cases this
    | cons y r => simp
  have one : ∀ {y : Int}, y ∈ numsL (needsB b n) 8 → [y].Sublist (standL b) ∧ okC b n [y] = true := fun {y} hy => by
    obtain ⟨i, rfl, h2, h3, h4⟩ := needs_mem hy
    exact ⟨List.singleton_sublist.2 h2, by rw [okC_one, h4]; rfl⟩
  have back : ∀ {y : Int}, r = [y] → y ∈ numsL (needsB b n) 8 := fun {y} hr => by
    have hm : y ∈ standL b := hb.is.1.subset (by rw [hr]; exact List.mem_singleton.2 rfl)
    obtain ⟨i, h1, h2, rfl⟩ := stand_mem.1 hm
    have := hb.is.2
    rw [hr, okC_one] at this
    exact mem_needs h8 hm (by simpa using this)
  have len1 : 0 < (numsL (needsB b n) 8).length → r.length = 1 := fun h => by
    obtain ⟨y, hy⟩ := List.exists_mem_of_length_pos h
    have := hb.first _ (one hy)
    apply Classical.byContradiction
    intro hne
    exact this (.inl (by simp only [List.length_singleton]; omega))
  refine ⟨hpos, ⟨len1, fun h => ?_⟩, fun h => ?_⟩
  · obtain ⟨y, hy⟩ : ∃ y, r = [y] := List.length_eq_one_iff.1 h
    exact List.length_pos_of_mem (back hy)
  · obtain ⟨y, hy⟩ : ∃ y, r = [y] := List.length_eq_one_iff.1 (len1 h)
    have hym := back hy
    have hp := numsL_pair (needsB b n) 8
    cases hN : numsL (needsB b n) 8 with
    | nil => rw [hN] at h; cases h
    | cons z N =>
      rw [hN] at hym hp
      have hz := one (y := z) (by rw [hN]; exact List.mem_cons_self ..)
      have hnot := hb.first _ hz
      rw [hy] at hnot ⊢
      show z = y
      rcases List.mem_cons.1 hym with e | e
      · exact e.symm
      · have := (List.pairwise_cons.1 hp).1 y e
        exact absurd (.inr ⟨rfl, .inl this⟩) hnot
theorem L11 (b : Bk) (x z : Int) (hx : 0 ≤ x ∧ x ≤ 255) (hz : 0 ≤ z ∧ z ≤ 255) : F11 ((b, x, z, ()) : Bk × Int × Int × Unit) = some (true, ()) := by
  refine ghost_eq (Ev.eq (fun _ => E11 _ _ _ _) ?_)
  obtain ⟨x, rfl⟩ := Int.eq_ofNat_of_zero_le hx.1
  obtain ⟨z, rfl⟩ := Int.eq_ofNat_of_zero_le hz.1
  rw [L39, L34, wrap_id (x := (x : Int)) (by omega) (by omega)]
  simp only [Option.bind_some]
  by_cases h : (chkP b).2.2.1 = 0
  · have hv := VB_of h
    have h8 := hv.r8
    have h6 := hv.n6
    have hs8 := stand_len b
    rw [h]
    simp only [beq_self_eq_true, Bool.not_true, cond_false]
    by_cases h0 : b.2.1.length = 0
    · have he : enterE b 0 b.2.1.length = 4 := by unfold enterE; rw [if_neg (fun hn => hn h), if_pos (by omega)]
      rw [show ((b.2.1.length : Int) == 0) = true by rw [h0]; rfl, show (cutP b 0).2.1 = 4 from he, L24]
      exact Ev.all fun _ => by first | rfl | trivial
    · have hlt : x % b.2.1.length < b.2.1.length := Nat.mod_lt _ (by omega)
      rw [show ((b.2.1.length : Int) == 0) = false by rw [beq_eq_false_iff_ne]; omega, dec_f (show ¬ ((b.2.1.length : Int) = 0) by omega), tmod_nat]
      generalize x % b.2.1.length = n at *
      have hb := few_best (stand_pair b) (cut_all hv n)
      have hlen := few_len h8 (cut_all hv n)
      rw [L34, L47 b (by omega), cut_in hv h hlt]
      simp only [Option.bind_some, cond_false, bne_self_eq_false]
      generalize refFew (standL b) (okC b n) = r at *
      have hsub : ∀ y ∈ r, y ∈ standL b := fun y hy => hb.is.1.subset hy
      have hin := stand_in hsub
      have hall : (r.all fun y => decide (y ∈ standL b)) = true := List.all_eq_true.2 fun y hy => decide_eq_true (hsub y hy)
      have hslen := someL_len (standL b) z (standL b).length
      have hsome := some_sub (standL b) z
      have hsub2 : ∀ y ∈ someL (standL b) z (standL b).length, y ∈ standL b := fun y hy => hsome.subset hy
      have hin2 := stand_in hsub2
      rw [L42 r b.1.length (by omega) (by omega) ((stand_pair b).sublist hb.is.1) hin, L43 r (standL b) (by omega) (by omega), hall, L44 b (by omega) r hin (by omega), L49 (standL b) (by omega) z (by omega)]
      simp only [Bool.not_true, cond_false, Option.bind_some]
      rw [L20, value_with h hin hlt, L44 b (by omega) _ hin2 (by omega)]
      simp only [Option.bind_some]
      rw [L20, value_with h hin2 hlt, L32]
      simp only [Option.bind_some]
      obtain ⟨f, hf, hfi⟩ := L50 (someL (standL b) z (standL b).length) r (by omega)
      have hno : ((allP b (butN (rowsN b) (Few.bitsL r))).getD n fd0).1 = false := by
        have := hb.is.2
        unfold okC at this
        simpa using this
      rw [valA_err, hno, valA_err, hf, L24]
      simp only [Option.bind_some]
      have hyes : f = true → ((allP b (butN (rowsN b) (Few.bitsL (someL (standL b) z (standL b).length)))).getD n fd0).1 = true := fun hft => by
        cases ho : ((allP b (butN (rowsN b) (Few.bitsL (someL (standL b) z (standL b).length)))).getD n fd0).1 with
        | true => rfl
        | false => exact absurd (hfi.1 hft) (hb.first _ ⟨hsome, by unfold okC; rw [ho]; rfl⟩)
      have hif : (if false = true then (0 : Int) else 8) = 8 := rfl
      cases hs : ((allP b (rowsN b)).getD n fd0).1 with
      | false =>
        have hr : r = [] := by
          have := hb.first [] ⟨List.nil_sublist _, by rw [okC_nil, hs]; rfl⟩
          cases r with
          | nil => rfl
          | cons y r => exact absurd (.inl (by simp)) this
        rw [(ground_no h hlt hs).2, hr]
        cases f with
        | false => exact Ev.all fun _ => by first | rfl | trivial
        | true =>
          rw [hyes rfl]
          exact Ev.all fun _ => by first | rfl | trivial
      | true =>
        obtain ⟨c1, c2, c3⟩ := cut_needs hv hlt hb hs
        rw [needs_in h hlt hs]
        generalize numsL (needsB b n) 8 = N at *
        have e1 : decide ((r.length : Int) > 0) = true := dec_t (by omega)
        have e2 : eqD Ty.bool (decide ((N.length : Int) > 0)) ((r.length : Int) == 1) = true := by
          simp only [eqD]
          rw [beq_iff_eq, Bool.eq_iff_iff, decide_eq_true_eq, beq_iff_eq]
          constructor
          · intro h; have := c2.1 (by omega); omega
          · intro h; have := c2.2 (by omega); omega
        simp only [e1, e2, cond_true, bne_self_eq_false, cond_false, Bool.true_and]
        have tail : (bif ((N.length : Int) == 0) then some (true, ()) else bif decide (0 < (N.length : Int)) then bif N.getD 0 0 == r.getD 0 0 then some (true, ()) else some (false, ()) else none) = (some (true, ()) : Option (denL [.bool])) := by
          by_cases hN : N.length = 0
          · rw [show ((N.length : Int) == 0) = true by rw [hN]; rfl]
            rfl
          · rw [show ((N.length : Int) == 0) = false by rw [beq_eq_false_iff_ne]; omega, dec_t (show (0 : Int) < (N.length : Int) by omega), c3 (by omega), beq_self_eq_true]
            rfl
        cases f with
        | false => exact Ev.all fun _ => tail
        | true =>
          rw [hyes rfl]
          exact Ev.all fun _ => tail
  · rw [show ((chkP b).2.2.1 == 0) = false from beq_eq_false_iff_ne.2 h, show (cutP b 0).2.1 = (chkP b).2.2.1 from enter_bad h _ _, bne_iff_ne.2 h, L24]
    exact Ev.all fun _ => by first | rfl | trivial
end Go.Proofs.Ytallblpnlefpeaa
/- RowCut returns true for every input, and leaves it as it was. Conditions: none beyond the row's own. -/
namespace Go.Proofs.Ytallblpnlefpeaa
open Go Go.Gh Go.ChangeShapes Go.WideShapes Go.ChangeAt Go.RowKit

theorem rowCut_con : ConOK cx49 11 ⟨[tyB, .int .u8, .int .u8], [.bool], F11⟩ := ghost_ok ok49 S11 6000 11 _ _

set_option maxRecDepth 100000 in
theorem rowCut_lifted (os : Os) (started : os.Started) (H : Type) (enc : TypeId × Value → H) :
    ReturnsInHanded {} Try.checked os 11 .any (Rows.rowCutSpec.pre6 enc Try.prog Try.f11 Rows.rowCutRow.domain false)
      (Rows.rowCutSpec.post enc Try.prog Try.f11 false true false false) := by
  refine returnsInHanded_of_change (C := Try.checked) own1 started (by kernel_rfl) Try.func11
    (ChangeSpec.witness6 (enc := enc) (C := Try.checked) false ⟨#[], #[.agg #[.slice none 0 0, .slice none 0 0], .int .u8 0, .int .u8 0], []⟩ 8 (by kernel_rfl) (by kernel_rfl) (by kernel_rfl) (by kernel_rfl)) ?_
  intro W base args ds gs before hval hW _ _
  exact law_contract rowCut_con laidOut1 (B := 4) (by kernel_rfl) (by kernel_rfl) (by kernel_rfl) (fun ds hds => by
    match ds, hds with
    | [d1, d2, d3], _ => exact ⟨rfl, rfl, rfl⟩) rfl (fun x hx => L11 x.1 x.2.1 x.2.2.1 (u8_in hx.2.1) (u8_in hx.2.2.1)) hval hW (glob_ok W rfl)

theorem rowCut_holds : Rows.RowCutSaid :=
  OpenClaim.holds_of_wide 11 Try.f11 rfl rfl rfl rfl rfl rfl rfl ⟨rfl, rfl, rfl, rfl, rfl⟩ rfl rfl rfl rfl rfl (by kernel_rfl) Try.func11 (by kernel_rfl)
    (of_decide_eq_true (by kernel_rfl)) (by unfold Func.isWrapper; first | (rw [if_pos (by decide +kernel)]; kernel_rfl) | (rw [if_neg (by decide +kernel)]; exact ⟨rfl, rfl⟩))
    (fun os started H enc _ => by
      rw [OpenClaim.pre_of_none rfl]
      exact rowCut_lifted os started H enc)
#print axioms rowCut_holds
end Go.Proofs.Ytallblpnlefpeaa
