/- What the ghost comes to: a law. Conditions: none (equations, each by computation). -/
import Derived.Test.YtallblpnlefpeaaRoF
import Derived.Test.YtallblpnlefpeaaRoGa
import Derived.Test.YtallblpnlefpeaaRoG
namespace Go.Proofs.Ytallblpnlefpeaa
open Go Go.Gh Go.Proofs
def S9 : List Gh.Spec := [{ key := (0, 9, 11, 1), frs := [{ fn := 9, n := 132, regs := [(2, (.ptr 90002 [])), (10, (.dat (.slice (.int .i64)))), (12, (.ptr 90012 [])), (13, (.dat (.int .i64)))], round := none, defers := [] }], heap := [(90002, .box (.dat tBk) false), (90012, .box (.dat tBk) false)] }]
noncomputable def K9_0 : Kept := { todos := [[.inLoop (cAt Try.f9 [1, 1, 1, 1, 1, 1, 1, 0, 1, 0, 0]), .inBlock 0, .code (cAt Try.f9 [1, 1, 1, 1, 1, 1, 1, 1])]], cs := [noCodes, noCodes] }
theorem E9 (G : (n : Nat) → Kept → denK (specAt S9 n) → Option (denL [.bool])) (t0 : Bk) (t1 : Int) : enter cx49 S9 [.bool] 6000 some G 9 [tBk, (.int .u8)] (t0, (t1, ())) =
    Option.bind (F39 (t0, ())) fun (y : Bool × Unit) =>
  bif !Prod.fst y then Option.bind (F28 (t0, 0, ())) fun (y : List Int × Int × Unit) => bif Prod.fst (Prod.snd y) != 0 then Option.bind (F24 ()) fun (y : Bool × Unit) => some (Prod.fst y, ()) else some (false, ())
  else
    bif (↑(List.length (Prod.fst t0)) : Int) == 0 then Option.bind (F28 (t0, 0, ())) fun (y : List Int × Int × Unit) => bif Prod.fst (Prod.snd y) != 0 then Option.bind (F24 ()) fun (y : Bool × Unit) => some (Prod.fst y, ()) else some (false, ())
    else
      bif decide ((↑(List.length (Prod.fst t0)) : Int) = 0) then none
      else
        Option.bind (F25 (t0, Int.tmod (IntKind.wrap IntKind.i64 t1) (↑(List.length (Prod.fst t0)) : Int), ())) fun (y : List Int × Int × Unit) =>
          Option.bind (F28 (t0, Int.tmod (IntKind.wrap IntKind.i64 t1) (↑(List.length (Prod.fst t0)) : Int), ())) fun (y_1 : List Int × Int × Unit) =>
            bif Prod.fst (Prod.snd y) != 0 then some (false, ())
            else
              bif Prod.fst (Prod.snd y_1) != 0 then some (false, ())
              else
                Option.bind (F42 (Prod.fst y, (↑(List.length (Prod.fst (Prod.snd t0))) : Int), ())) fun (y_2 : Bool × Unit) =>
                  bif !Prod.fst y_2 then some (false, ())
                  else
                    Option.bind (F42 (Prod.fst y_1, (↑(List.length (Prod.fst (Prod.snd t0))) : Int), ())) fun (y_3 : Bool × Unit) =>
                      bif !Prod.fst y_3 then some (false, ())
                      else
                        Option.bind (F43 (Prod.fst y_1, Prod.fst y, ())) fun (y : Bool × Unit) =>
                          bif !Prod.fst y then some (false, ()) else Option.bind (F44 (t0, List.set (List.replicate 1 0) 0 (Int.tmod (IntKind.wrap IntKind.i64 t1) (↑(List.length (Prod.fst t0)) : Int)), ())) fun (y : Bk × Unit) => G 0 K9_0 ((((), Prod.fst y_1, (), 0, ()), ()), t0, Prod.fst y, ()) := by kernel_rfl
theorem Q9_0 (G : (n : Nat) → Kept → denK (specAt S9 n) → Option (denL [.bool])) (t10 : (List Int)) (t13 : Int) (h0 : Bk) (h1 : Bk) : seg cx49 S9 [.bool] 6000 some G 0 K9_0 ((((), (t10, ((), (t13, ())))), ()), (h0, (h1, ()))) =
    bif decide (t13 < (↑(List.length (Prod.fst (Prod.snd h0))) : Int)) then
  Option.bind (F20 (h0, t13, ())) fun (y : Int × Int × Unit) =>
    Option.bind (F20 (h1, t13, ())) fun (y_1 : Int × Int × Unit) =>
      bif Prod.fst (Prod.snd y) == 0 then
        bif Prod.fst (Prod.snd y_1) != 0 then
          Option.bind (F45 (t10, t13, ())) fun (y_2 : Bool × Unit) => bif !eqD Ty.bool true (Prod.fst y_2) then some (false, ()) else bif Prod.fst (Prod.snd y) != 0 then bif Prod.fst (Prod.snd y_1) == 0 then some (false, ()) else G 0 K9_0 ((((), t10, (), IntKind.wrap IntKind.i64 (t13 + 1), ()), ()), h0, h1, ()) else G 0 K9_0 ((((), t10, (), IntKind.wrap IntKind.i64 (t13 + 1), ()), ()), h0, h1, ())
        else
          Option.bind (F45 (t10, t13, ())) fun (y_2 : Bool × Unit) =>
            bif !eqD Ty.bool (Prod.fst y != Prod.fst y_1) (Prod.fst y_2) then some (false, ()) else bif Prod.fst (Prod.snd y) != 0 then bif Prod.fst (Prod.snd y_1) == 0 then some (false, ()) else G 0 K9_0 ((((), t10, (), IntKind.wrap IntKind.i64 (t13 + 1), ()), ()), h0, h1, ()) else G 0 K9_0 ((((), t10, (), IntKind.wrap IntKind.i64 (t13 + 1), ()), ()), h0, h1, ())
      else
        Option.bind (F45 (t10, t13, ())) fun (y_2 : Bool × Unit) => bif !eqD Ty.bool false (Prod.fst y_2) then some (false, ()) else bif Prod.fst (Prod.snd y) != 0 then bif Prod.fst (Prod.snd y_1) == 0 then some (false, ()) else G 0 K9_0 ((((), t10, (), IntKind.wrap IntKind.i64 (t13 + 1), ()), ()), h0, h1, ()) else G 0 K9_0 ((((), t10, (), IntKind.wrap IntKind.i64 (t13 + 1), ()), ()), h0, h1, ())
  else Option.bind (F24 ()) fun (y : Bool × Unit) => some (Prod.fst y, ()) := by kernel_rfl
noncomputable def F9 : denL [tBk, (.int .u8)] → Option (denL [.bool]) := ghost cx49 S9 6000 9 [tBk, (.int .u8)] [.bool]
noncomputable def C9 : Con := ⟨[tBk, (.int .u8)], [.bool], F9⟩
end Go.Proofs.Ytallblpnlefpeaa
/- The law on what Strike names. Conditions: as each lemma states. -/
namespace Go.Proofs.Ytallblpnlefpeaa
open Go Go.Gh Go.Proofs Go.Few
theorem L9 (b : Bk) (x : Int) (hx : 0 ≤ x ∧ x ≤ 255) : F9 ((b, x, ()) : Bk × Int × Unit) = some (true, ()) := by
  refine ghost_eq (Ev.eq (fun _ => E9 _ _ _) ?_)
  obtain ⟨x, rfl⟩ := Int.eq_ofNat_of_zero_le hx.1
  rw [L39, L28, wrap_id (x := (x : Int)) (by omega) (by omega)]
  simp only [Option.bind_some]
  by_cases h : (chkP b).2.2.1 = 0
  · have hv := VB_of h
    have h8 := hv.r8
    have h6 := hv.n6
    rw [h]
    simp only [beq_self_eq_true, Bool.not_true, cond_false]
    by_cases h0 : b.1.length = 0
    · rw [show ((b.1.length : Int) == 0) = true by rw [h0]; rfl, show (strikeP b 0).2.1 = 4 from (show enterE b 0 b.1.length = 4 by unfold enterE; rw [if_neg (fun hn => hn h), if_pos (by omega)]), L24]
      exact Ev.all fun _ => by first | rfl | trivial
    · have hlt : x % b.1.length < b.1.length := Nat.mod_lt _ (by omega)
      rw [show ((b.1.length : Int) == 0) = false by rw [beq_eq_false_iff_ne]; omega, dec_f (show ¬ ((b.1.length : Int) = 0) by omega), tmod_nat, L25, L28]
      generalize x % b.1.length = r at *
      have he : enterE b (r : Int) b.1.length = 0 := enterE_in h (by omega) (by omega)
      have ha : againP b r = (numsL (conF b r 6) b.2.1.length, 0, ()) := by unfold againP; rw [he, if_pos rfl, Int.toNat_natCast]
      have hs : strikeP b r = (numsL (strikeB (allP b (rowsN b)) (allP b (offN b r))) b.2.1.length, 0, ()) := by unfold strikeP; rw [he, if_pos rfl, Int.toNat_natCast]
      rw [ha, hs]
      simp only [Option.bind_some, cond_false]
      have l1 := numsL_len (conF b r 6) b.2.1.length
      have l2 := numsL_len (strikeB (allP b (rowsN b)) (allP b (offN b r))) b.2.1.length
      have hsub : ((numsL (strikeB (allP b (rowsN b)) (allP b (offN b r))) b.2.1.length).all fun x => decide (x ∈ numsL (conF b r 6) b.2.1.length)) = true := by
        rw [List.all_eq_true]
        intro y hy
        obtain ⟨n, hn, hb, rfl⟩ := numsL_mem.1 hy
        rw [mem_numsL hn]
        cases hc : conF b r 6 n with
        | true => rfl
        | false =>
          unfold strikeB at hb
          rw [con_off hv r n hn hc, dec_f (fun h => h rfl), Bool.and_false] at hb
          cases hb
      rw [L42 _ _ (by omega) (by omega) (numsL_pair _ _) numsL_in, L42 _ _ (by omega) (by omega) (numsL_pair _ _) numsL_in, L43 _ _ (by omega) (by omega), hsub, one_set, L44 b (by omega) [(r : Int)] (fun x hx => by rw [List.mem_singleton.1 hx]; omega) (by simp)]
      simp only [Option.bind_some, Bool.not_true, cond_false, bne_self_eq_false]
      have key : ∀ (c n : Nat), n + c = b.2.1.length → Ev fun k => iter cx49 S9 [.bool] 6000 k 0 K9_0 ((((), (numsL (strikeB (allP b (rowsN b)) (allP b (offN b r))) b.2.1.length, ((), ((n : Int), ())))), ()), (b, (withB b [(r : Int)], ()))) = some (true, ()) := by
        intro c
        induction c with
        | zero =>
          intro n hn
          refine iter_ev (Ev.eq (fun _ => Q9_0 _ _ _ _ _) ?_)
          rw [dec_f (by omega), L24]
          exact Ev.all fun _ => by first | rfl | trivial
        | succ c ih =>
          intro n hn
          refine iter_ev (Ev.eq (fun _ => Q9_0 _ _ _ _ _) ?_)
          have hlt2 : n < b.2.1.length := by omega
          have hih := ih (n + 1) (by omega)
          rw [dec_t (show (n : Int) < (b.2.1.length : Int) by omega), L20, L20, value_b h hlt2, value_with h (fun x hx => by rw [List.mem_singleton.1 hx]; omega) hlt2, bits_one, wrap_succ (n := n) (by omega)]
          rw [show butN (rowsN b) (2 ^ r) = offN b r from rfl]
          simp only [Option.bind_some, cond_true]
          rw [L45 _ (by omega), mem_numsL hlt2]
          simp only [Option.bind_some]
          have hmono := stands_mono hv (r := offN b r) (s := rowsN b) (fun i hi => by rw [off_bit, Bool.and_eq_true] at hi; exact hi.1) n hlt2
          generalize numsL (strikeB (allP b (rowsN b)) (allP b (offN b r))) b.2.1.length = S at hih ⊢
          unfold strikeB valA
          clear ha hs l2 hsub
          generalize (allP b (rowsN b)).getD n fd0 = p at *
          generalize (allP b (offN b r)).getD n fd0 = q at *
          obtain ⟨p1, p2, pu⟩ := p
          obtain ⟨q1, q2, qu⟩ := q
          cases p1 with
          | true =>
            cases q1 with
            | true =>
              by_cases e : p2 = q2
              · subst e
                simp only [ne_eq, not_true_eq_false, decide_false, Bool.and_false, bne_self_eq_false, if_true, beq_self_eq_true, cond_true, cond_false, eqD, Bool.not_true]
                exact hih
              · simp only [ne_eq, Prod.mk.injEq, e, false_and, and_false, not_false_eq_true, decide_true, Bool.and_true, if_true, bne_iff_ne.2 e, beq_self_eq_true, bne_self_eq_false, cond_true, cond_false, eqD, Bool.not_true]
                exact hih
            | false =>
              rw [show decide ((true, p2, pu) ≠ (false, q2, qu)) = true from decide_eq_true (by simp)]
              simp only [if_true, Bool.false_eq_true, if_false, beq_self_eq_true, bne_self_eq_false, cond_true, cond_false, eqD, Bool.and_self, Bool.not_true, show ((8 : Int) != 0) = true from rfl]
              exact hih
          | false =>
            cases q1 with
            | true => exact absurd (show false = true from hmono rfl) (by decide)
            | false =>
              simp only [Bool.false_eq_true, if_false, Bool.false_and, beq_self_eq_true, cond_true, cond_false, eqD, Bool.not_true, show ((8 : Int) != 0) = true from rfl, show ((8 : Int) == 0) = false from rfl]
              exact hih
      exact key b.2.1.length 0 (by omega)
  · rw [show ((chkP b).2.2.1 == 0) = false from beq_eq_false_iff_ne.2 h, show (strikeP b 0).2.1 = (chkP b).2.2.1 from enter_bad h _ _, bne_iff_ne.2 h, L24]
    exact Ev.all fun _ => by first | rfl | trivial
end Go.Proofs.Ytallblpnlefpeaa
/- RowStrike returns true for every input, and leaves it as it was. Conditions: none beyond the row's own. -/
namespace Go.Proofs.Ytallblpnlefpeaa
open Go Go.Gh Go.ChangeShapes Go.WideShapes Go.ChangeAt Go.RowKit

theorem rowStrike_con : ConOK cx49 9 ⟨[tyB, .int .u8], [.bool], F9⟩ := ghost_ok ok49 S9 6000 9 _ _

set_option maxRecDepth 100000 in
theorem rowStrike_lifted (os : Os) (started : os.Started) (H : Type) (enc : TypeId × Value → H) :
    ReturnsInHanded {} Try.checked os 9 .any (Rows.rowStrikeSpec.pre6 enc Try.prog Try.f9 Rows.rowStrikeRow.domain false)
      (Rows.rowStrikeSpec.post enc Try.prog Try.f9 false true false false) := by
  refine returnsInHanded_of_change (C := Try.checked) own1 started (by kernel_rfl) Try.func9
    (ChangeSpec.witness6 (enc := enc) (C := Try.checked) false ⟨#[], #[.agg #[.slice none 0 0, .slice none 0 0], .int .u8 0], []⟩ 8 (by kernel_rfl) (by kernel_rfl) (by kernel_rfl) (by kernel_rfl)) ?_
  intro W base args ds gs before hval hW _ _
  exact law_contract rowStrike_con laidOut1 (B := 4) (by kernel_rfl) (by kernel_rfl) (by kernel_rfl) (fun ds hds => by
    match ds, hds with
    | [d1, d2], _ => exact ⟨rfl, rfl, rfl⟩) rfl (fun x hx => L9 x.1 x.2.1 (u8_in hx.2.1)) hval hW (glob_ok W rfl)

theorem rowStrike_holds : Rows.RowStrikeSaid :=
  OpenClaim.holds_of_wide 9 Try.f9 rfl rfl rfl rfl rfl rfl rfl ⟨rfl, rfl, rfl, rfl, rfl⟩ rfl rfl rfl rfl rfl (by kernel_rfl) Try.func9 (by kernel_rfl)
    (of_decide_eq_true (by kernel_rfl)) (by unfold Func.isWrapper; first | (rw [if_pos (by decide +kernel)]; kernel_rfl) | (rw [if_neg (by decide +kernel)]; exact ⟨rfl, rfl⟩))
    (fun os started H enc _ => by
      rw [OpenClaim.pre_of_none rfl]
      exact rowStrike_lifted os started H enc)
#print axioms rowStrike_holds
end Go.Proofs.Ytallblpnlefpeaa
