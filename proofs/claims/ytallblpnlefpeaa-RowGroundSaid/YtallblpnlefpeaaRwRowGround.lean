/- What the ghost comes to: a law. Conditions: none (equations, each by computation). -/
import Derived.Test.YtallblpnlefpeaaRoF
import Derived.Test.YtallblpnlefpeaaRoHa
import Derived.Test.YtallblpnlefpeaaRoG
namespace Go.Proofs.Ytallblpnlefpeaa
open Go Go.Gh Go.Proofs
def S10 : List Gh.Spec := [{ key := (0, 10, 14, 1), frs := [{ fn := 10, n := 163, regs := [(2, (.dat (.int .u8))), (3, (.ptr 100003 [])), (9, (.dat (.int .i64))), (10, (.dat (.slice (.int .i64)))), (12, (.dat (.slice (.int .i64)))), (15, (.dat (.slice (.int .i64)))), (16, (.dat (.int .i64)))], round := none, defers := [] }], heap := [(100003, .box (.dat tBk) false)] }]
noncomputable def K10_0 : Kept := { todos := [[.inLoop (cAt Try.f10 [1, 1, 1, 1, 1, 1, 1, 1, 1, 0, 1, 0, 0]), .inBlock 0, .code (cAt Try.f10 [1, 1, 1, 1, 1, 1, 1, 1, 1, 1])]], cs := [noCodes] }
theorem E10 (G : (n : Nat) → Kept → denK (specAt S10 n) → Option (denL [.bool])) (t0 : Bk) (t1 : Int) (t2 : Int) : enter cx49 S10 [.bool] 6000 some G 10 [tBk, (.int .u8), (.int .u8)] (t0, (t1, (t2, ()))) =
    Option.bind (F39 (t0, ())) fun (y : Bool × Unit) =>
  bif !Prod.fst y then Option.bind (F30 (t0, 0, ())) fun (y : List Int × Int × Unit) => bif Prod.fst (Prod.snd y) != 0 then Option.bind (F24 ()) fun (y : Bool × Unit) => some (Prod.fst y, ()) else some (false, ())
  else
    bif (↑(List.length (Prod.fst (Prod.snd t0))) : Int) == 0 then Option.bind (F30 (t0, 0, ())) fun (y : List Int × Int × Unit) => bif Prod.fst (Prod.snd y) != 0 then Option.bind (F24 ()) fun (y : Bool × Unit) => some (Prod.fst y, ()) else some (false, ())
    else
      bif decide ((↑(List.length (Prod.fst (Prod.snd t0))) : Int) = 0) then none
      else
        Option.bind (F30 (t0, Int.tmod (IntKind.wrap IntKind.i64 t1) (↑(List.length (Prod.fst (Prod.snd t0))) : Int), ())) fun (y : List Int × Int × Unit) =>
          Option.bind (F32 (t0, Int.tmod (IntKind.wrap IntKind.i64 t1) (↑(List.length (Prod.fst (Prod.snd t0))) : Int), ())) fun (y_1 : List Int × Int × Unit) =>
            Option.bind (F46 (t0, ())) fun (y_2 : List Fd × Unit) =>
              bif decide (0 ≤ Int.tmod (IntKind.wrap IntKind.i64 t1) (↑(List.length (Prod.fst (Prod.snd t0))) : Int)) && decide (Int.tmod (IntKind.wrap IntKind.i64 t1) (↑(List.length (Prod.fst (Prod.snd t0))) : Int) < (↑(List.length (Prod.fst y_2)) : Int)) then
                bif !Prod.fst (List.getD (Prod.fst y_2) (Int.toNat (Int.tmod (IntKind.wrap IntKind.i64 t1) (↑(List.length (Prod.fst (Prod.snd t0))) : Int))) (false, 0, ())) then
                  bif Prod.fst (Prod.snd y) == 8 then bif Prod.fst (Prod.snd y_1) == Prod.fst (Prod.snd y) then bif IntKind.wrap IntKind.i64 ((↑(List.length (Prod.fst y)) : Int) + (↑(List.length (Prod.fst y_1)) : Int)) == 0 then Option.bind (F24 ()) fun (y : Bool × Unit) => some (Prod.fst y, ()) else some (false, ()) else some (false, ()) else some (false, ())
                else
                  Option.bind (F47 (t0, ())) fun (y_3 : List Int × Unit) =>
                    bif Prod.fst (Prod.snd y) != 0 then some (false, ())
                    else
                      bif Prod.fst (Prod.snd y_1) != 0 then some (false, ())
                      else
                        Option.bind (F42 (Prod.fst y, (↑(List.length (Prod.fst t0)) : Int), ())) fun (y_4 : Bool × Unit) =>
                          bif !Prod.fst y_4 then some (false, ())
                          else
                            Option.bind (F42 (Prod.fst y_1, (↑(List.length (Prod.fst t0)) : Int), ())) fun (y_5 : Bool × Unit) =>
                              bif !Prod.fst y_5 then some (false, ())
                              else
                                Option.bind (F43 (Prod.fst y, Prod.fst y_3, ())) fun (y_6 : Bool × Unit) =>
                                  bif !Prod.fst y_6 then some (false, ())
                                  else
                                    Option.bind (F43 (Prod.fst y_1, Prod.fst y, ())) fun (y_7 : Bool × Unit) =>
                                      bif !Prod.fst y_7 then some (false, ())
                                      else
                                        Option.bind (F48 (t0, Int.tmod (IntKind.wrap IntKind.i64 t1) (↑(List.length (Prod.fst (Prod.snd t0))) : Int), Prod.fst y, ())) fun (y_8 : Bool × Unit) =>
                                          bif !Prod.fst y_8 then some (false, ()) else G 0 K10_0 (((t2, (), Int.tmod (IntKind.wrap IntKind.i64 t1) (↑(List.length (Prod.fst (Prod.snd t0))) : Int), Prod.fst y, Prod.fst y_1, Prod.fst y_3, 0, ()), ()), t0, ())
              else none := by kernel_rfl
theorem Q10_0 (G : (n : Nat) → Kept → denK (specAt S10 n) → Option (denL [.bool])) (t2 : Int) (t9 : Int) (t10 : (List Int)) (t12 : (List Int)) (t15 : (List Int)) (t16 : Int) (h0 : Bk) : seg cx49 S10 [.bool] 6000 some G 0 K10_0 (((t2, ((), (t9, (t10, (t12, (t15, (t16, ()))))))), ()), (h0, ())) =
    bif decide (t16 < (↑(List.length t12) : Int)) then
  bif decide (0 ≤ t16) && decide (t16 < (↑(List.length t12) : Int)) then
    Option.bind (F44 (h0, List.set (List.replicate 1 0) 0 (List.getD t12 (Int.toNat t16) 0), ())) fun (y : Bk × Unit) =>
      Option.bind (F20 (Prod.fst y, t9, ())) fun (y : Int × Int × Unit) => bif Prod.fst (Prod.snd y) != 8 then some (false, ()) else G 0 K10_0 (((t2, (), t9, t10, t12, t15, IntKind.wrap IntKind.i64 (t16 + 1), ()), ()), h0, ())
  else none
  else
  Option.bind (F49 (t15, t2, ())) fun (y : List Int × Unit) =>
    Option.bind (F50 (Prod.fst y, t10, ())) fun (y_1 : Bool × Unit) => bif !Prod.fst y_1 then Option.bind (F24 ()) fun (y : Bool × Unit) => some (Prod.fst y, ()) else Option.bind (F48 (h0, t9, Prod.fst y, ())) fun (y : Bool × Unit) => bif !Prod.fst y then Option.bind (F24 ()) fun (y : Bool × Unit) => some (Prod.fst y, ()) else some (false, ()) := by kernel_rfl
noncomputable def F10 : denL [tBk, (.int .u8), (.int .u8)] → Option (denL [.bool]) := ghost cx49 S10 6000 10 [tBk, (.int .u8), (.int .u8)] [.bool]
noncomputable def C10 : Con := ⟨[tBk, (.int .u8), (.int .u8)], [.bool], F10⟩
end Go.Proofs.Ytallblpnlefpeaa
/- The law on what Ground and Needs name. Conditions: as each lemma states. -/
namespace Go.Proofs.Ytallblpnlefpeaa
open Go Go.Gh Go.Proofs Go.Few
theorem L10 (b : Bk) (x z : Int) (hx : 0 ≤ x ∧ x ≤ 255) (hz : 0 ≤ z ∧ z ≤ 255) : F10 ((b, x, z, ()) : Bk × Int × Int × Unit) = some (true, ()) := by
  refine ghost_eq (Ev.eq (fun _ => E10 _ _ _ _) ?_)
  obtain ⟨x, rfl⟩ := Int.eq_ofNat_of_zero_le hx.1
  obtain ⟨z, rfl⟩ := Int.eq_ofNat_of_zero_le hz.1
  rw [L39, L30, wrap_id (x := (x : Int)) (by omega) (by omega)]
  simp only [Option.bind_some]
  by_cases h : (chkP b).2.2.1 = 0
  · have hv := VB_of h
    have h8 := hv.r8
    have h6 := hv.n6
    have hs8 := stand_len b
    rw [h]
    simp only [beq_self_eq_true, Bool.not_true, cond_false]
    by_cases h0 : b.2.1.length = 0
    · have he : enterE b 0 b.2.1.length = 4 := by unfold enterE; rw [if_neg (fun hn => hn h), if_pos (by omega)]
      rw [show ((b.2.1.length : Int) == 0) = true by rw [h0]; rfl, show (groundP b 0).2.1 = 4 from (show standE b 0 = 4 by unfold standE; rw [he, if_pos (by decide)]), L24]
      exact Ev.all fun _ => by first | rfl | trivial
    · have hlt : x % b.2.1.length < b.2.1.length := Nat.mod_lt _ (by omega)
      rw [show ((b.2.1.length : Int) == 0) = false by rw [beq_eq_false_iff_ne]; omega, dec_f (show ¬ ((b.2.1.length : Int) = 0) by omega), tmod_nat]
      generalize x % b.2.1.length = n at *
      have hlT := allT_len hv (Nat.le_refl b.2.1.length)
      rw [L30, L32, L46 b hv]
      simp only [Option.bind_some, cond_false]
      rw [dec_t (show (0 : Int) ≤ (n : Int) by omega), hlT, dec_t (show (n : Int) < (b.2.1.length : Int) by omega), Int.toNat_natCast, getF, allT_at hlt]
      simp only [Bool.and_self, cond_true]
      cases hs : ((allP b (rowsN b)).getD n fd0).1 with
      | false =>
        obtain ⟨g1, g2⟩ := ground_no h hlt hs
        rw [g1, g2, L24]
        exact Ev.all fun _ => by first | rfl | trivial
      | true =>
        have hk : okG b n (standL b) = true := hs
        have hb := few_best (stand_pair b) hk
        have hlen := few_len h8 hk
        rw [ground_in hv h hlt hs, needs_in h hlt hs, L47 b (by omega)]
        simp only [Bool.not_true, cond_false, Option.bind_some, bne_self_eq_false]
        generalize refFew (standL b) (okG b n) = r at *
        have hsub : ∀ y ∈ r, y ∈ standL b := fun y hy => hb.is.1.subset hy
        have hin := stand_in hsub
        have hall : (r.all fun y => decide (y ∈ standL b)) = true := List.all_eq_true.2 fun y hy => decide_eq_true (hsub y hy)
        have hnl := numsL_len (needsB b n) 8
        have hnin : ∀ y ∈ numsL (needsB b n) 8, 0 ≤ y ∧ y < b.1.length := fun y hy => by
          obtain ⟨i, rfl, _, h3, _⟩ := needs_mem hy
          omega
        have hnall : ((numsL (needsB b n) 8).all fun y => decide (y ∈ r)) = true := List.all_eq_true.2 fun y hy => decide_eq_true (by
          obtain ⟨i, rfl, _, h3, h4⟩ := needs_mem hy
          apply Classical.byContradiction
          intro hnot
          have := stands_mono hv (r := Few.bitsL r) (s := offN b i) (fun j hj => by
            rw [bits_dec fun x hx => (hin x hx).1, decide_eq_true_eq] at hj
            rw [off_bit, rows_mem, dec_t (hsub _ hj), dec_f (fun e => by rw [e] at hnot; exact hnot hj)]
            rfl) n hlt hb.is.2
          rw [h4] at this
          cases this)
        rw [L42 r b.1.length (by omega) (by omega) ((stand_pair b).sublist hb.is.1) hin, L42 _ b.1.length (by omega) (by omega) (numsL_pair _ _) hnin, L43 r (standL b) (by omega) (by omega), hall, L43 _ r (by omega) (by omega), hnall, L48 b hv n hlt r hsub (by omega), hb.is.2]
        simp only [Bool.not_true, cond_false, Option.bind_some]
        have hmem : ∀ y ∈ numsL (needsB b n) 8, ∃ i : Nat, (i : Int) = y ∧ y ∈ standL b ∧ i < b.1.length ∧ ((allP b (offN b i)).getD n fd0).1 = false := fun y hy => needs_mem hy
        generalize numsL (needsB b n) 8 = N at *
        have key : ∀ (c i : Nat), i + c = N.length → Ev fun k => iter cx49 S10 [.bool] 6000 k 0 K10_0 ((((z : Int), ((), ((n : Int), (r, (N, (standL b, ((i : Int), ()))))))), ()), (b, ())) = some (true, ()) := by
          intro c
          induction c with
          | zero =>
            intro i hi
            refine iter_ev (Ev.eq (fun _ => Q10_0 _ _ _ _ _ _ _ _) ?_)
            have hslen := someL_len (standL b) z (standL b).length
            have hsome := some_sub (standL b) z
            have hsub2 : ∀ y ∈ someL (standL b) z (standL b).length, y ∈ standL b := fun y hy => hsome.subset hy
            obtain ⟨f, hf, hfi⟩ := L50 (someL (standL b) z (standL b).length) r (by omega)
            rw [dec_f (show ¬ ((i : Int) < (N.length : Int)) by omega), L49 (standL b) (by omega) z (by omega)]
            simp only [cond_false, Option.bind_some]
            rw [hf, L24, L48 b hv n hlt _ hsub2 (by omega)]
            simp only [Option.bind_some]
            cases f with
            | false => exact Ev.all fun _ => by first | rfl | trivial
            | true =>
              have hnot : okG b n (someL (standL b) z (standL b).length) = false := by
                cases ho : okG b n (someL (standL b) z (standL b).length) with
                | false => rfl
                | true => exact absurd (hfi.1 rfl) (hb.first _ ⟨hsome, ho⟩)
              rw [hnot]
              exact Ev.all fun _ => by first | rfl | trivial
          | succ c ih =>
            intro i hi
            refine iter_ev (Ev.eq (fun _ => Q10_0 _ _ _ _ _ _ _ _) ?_)
            have hil : i < N.length := by omega
            have hih := ih (i + 1) (by omega)
            obtain ⟨j, hj1, hj2, hj3, hj4⟩ := hmem _ (List.getElem_mem hil)
            rw [dec_t (show (i : Int) < (N.length : Int) by omega), dec_t (show (0 : Int) ≤ (i : Int) by omega), Int.toNat_natCast, getD_lt hil, ← hj1, one_set, wrap_succ (n := i) (by omega), L44 b (by omega) [(j : Int)] (fun x hx => by rw [List.mem_singleton.1 hx]; omega) (by simp)]
            simp only [Bool.and_self, cond_true, Option.bind_some]
            rw [L20, value_with h (fun x hx => by rw [List.mem_singleton.1 hx]; omega) hlt, bits_one, show butN (rowsN b) (2 ^ j) = offN b j from rfl]
            simp only [Option.bind_some]
            rw [valA_err, hj4]
            exact hih
        exact key N.length 0 (by omega)
  · rw [show ((chkP b).2.2.1 == 0) = false from beq_eq_false_iff_ne.2 h, show (groundP b 0).2.1 = (chkP b).2.2.1 from (show standE b 0 = (chkP b).2.2.1 by unfold standE; rw [enter_bad h, if_pos h]), bne_iff_ne.2 h, L24]
    exact Ev.all fun _ => by first | rfl | trivial
end Go.Proofs.Ytallblpnlefpeaa
/- RowGround returns true for every input, and leaves it as it was. Conditions: none beyond the row's own. -/
namespace Go.Proofs.Ytallblpnlefpeaa
open Go Go.Gh Go.ChangeShapes Go.WideShapes Go.ChangeAt Go.RowKit

theorem rowGround_con : ConOK cx49 10 ⟨[tyB, .int .u8, .int .u8], [.bool], F10⟩ := ghost_ok ok49 S10 6000 10 _ _

set_option maxRecDepth 100000 in
theorem rowGround_lifted (os : Os) (started : os.Started) (H : Type) (enc : TypeId × Value → H) :
    ReturnsInHanded {} Try.checked os 10 .any (Rows.rowGroundSpec.pre6 enc Try.prog Try.f10 Rows.rowGroundRow.domain false)
      (Rows.rowGroundSpec.post enc Try.prog Try.f10 false true false false) := by
  refine returnsInHanded_of_change (C := Try.checked) own1 started (by kernel_rfl) Try.func10
    (ChangeSpec.witness6 (enc := enc) (C := Try.checked) false ⟨#[], #[.agg #[.slice none 0 0, .slice none 0 0], .int .u8 0, .int .u8 0], []⟩ 8 (by kernel_rfl) (by kernel_rfl) (by kernel_rfl) (by kernel_rfl)) ?_
  intro W base args ds gs before hval hW _ _
  exact law_contract rowGround_con laidOut1 (B := 4) (by kernel_rfl) (by kernel_rfl) (by kernel_rfl) (fun ds hds => by
    match ds, hds with
    | [d1, d2, d3], _ => exact ⟨rfl, rfl, rfl⟩) rfl (fun x hx => L10 x.1 x.2.1 x.2.2.1 (u8_in hx.2.1) (u8_in hx.2.2.1)) hval hW (glob_ok W rfl)

theorem rowGround_holds : Rows.RowGroundSaid :=
  OpenClaim.holds_of_wide 10 Try.f10 rfl rfl rfl rfl rfl rfl rfl ⟨rfl, rfl, rfl, rfl, rfl⟩ rfl rfl rfl rfl rfl (by kernel_rfl) Try.func10 (by kernel_rfl)
    (of_decide_eq_true (by kernel_rfl)) (by unfold Func.isWrapper; first | (rw [if_pos (by decide +kernel)]; kernel_rfl) | (rw [if_neg (by decide +kernel)]; exact ⟨rfl, rfl⟩))
    (fun os started H enc _ => by
      rw [OpenClaim.pre_of_none rfl]
      exact rowGround_lifted os started H enc)
#print axioms rowGround_holds
end Go.Proofs.Ytallblpnlefpeaa
