/- What the ghost comes to: a law. Conditions: none (equations, each by computation). -/
import Derived.Test.YtallblpnlefpeaaRoF
import Derived.Test.YtallblpnlefpeaaRoGa
import Derived.Test.YtallblpnlefpeaaRoG
namespace Go.Proofs.Ytallblpnlefpeaa
open Go Go.Gh Go.Proofs
def S14 : List Gh.Spec := [{ key := (0, 14, 9, 1), frs := [{ fn := 14, n := 111, regs := [(2, (.ptr 140002 [])), (7, (.dat (.int .i64))), (8, (.dat (.slice (.int .i64)))), (10, (.dat (.int .i64)))], round := none, defers := [] }], heap := [(140002, .box (.dat tBk) false)] }, { key := (0, 14, 13, 1), frs := [{ fn := 14, n := 111, regs := [(2, (.ptr 140002 [])), (7, (.dat (.int .i64))), (8, (.dat (.slice (.int .i64)))), (10, (.dat (.int .i64))), (11, (.dat .bool)), (12, (.dat (.int .i64)))], round := none, defers := [] }], heap := [(140002, .box (.dat tBk) false)] }, { key := (0, 14, 18, 1), frs := [{ fn := 14, n := 111, regs := [(2, (.ptr 140002 [])), (7, (.dat (.int .i64))), (8, (.dat (.slice (.int .i64)))), (10, (.dat (.int .i64))), (11, (.dat .bool)), (12, (.dat (.int .i64))), (13, (.ptr 140013 [])), (14, (.dat (.int .i64)))], round := none, defers := [] }], heap := [(140002, .box (.dat tBk) false), (140013, .box (.dat tWy) false)] }]
noncomputable def K14_0 : Kept := { todos := [[.inLoop (cAt Try.f14 [1, 1, 1, 1, 1, 0, 1, 0, 0]), .inBlock 0, .code (cAt Try.f14 [1, 1, 1, 1, 1, 1])]], cs := [noCodes] }
noncomputable def K14_1 : Kept := { todos := [[.inLoop (cAt Try.f14 [1, 1, 1, 1, 1, 0, 1, 0, 0, 1, 0, 0, 1, 0, 1, 0, 0]), .inBlock 2, .code (cAt Try.f14 [1, 1, 1, 1, 1, 0, 1, 0, 0, 1, 0, 0, 1, 1]), .inBlock 1, .code (cAt Try.f14 [1, 1, 1, 1, 1, 0, 1, 0, 0, 1, 1]), .inLoop (cAt Try.f14 [1, 1, 1, 1, 1, 0, 1, 0, 0]), .inBlock 0, .code (cAt Try.f14 [1, 1, 1, 1, 1, 1])]], cs := [noCodes] }
noncomputable def K14_2 : Kept := { todos := [[.inLoop (cAt Try.f14 [1, 1, 1, 1, 1, 0, 1, 0, 0, 1, 0, 0, 1, 0, 1, 0, 0, 1, 0, 0, 1, 1, 1, 0, 0]), .inBlock 4, .inBlock 3, .code (cAt Try.f14 [1, 1, 1, 1, 1, 0, 1, 0, 0, 1, 0, 0, 1, 0, 1, 0, 0, 1, 1]), .inLoop (cAt Try.f14 [1, 1, 1, 1, 1, 0, 1, 0, 0, 1, 0, 0, 1, 0, 1, 0, 0]), .inBlock 2, .code (cAt Try.f14 [1, 1, 1, 1, 1, 0, 1, 0, 0, 1, 0, 0, 1, 1]), .inBlock 1, .code (cAt Try.f14 [1, 1, 1, 1, 1, 0, 1, 0, 0, 1, 1]), .inLoop (cAt Try.f14 [1, 1, 1, 1, 1, 0, 1, 0, 0]), .inBlock 0, .code (cAt Try.f14 [1, 1, 1, 1, 1, 1])]], cs := [noCodes, noCodes] }
theorem E14 (G : (n : Nat) → Kept → denK (specAt S14 n) → Option (denL [.bool])) (t0 : Bk) (t1 : Int) : enter cx49 S14 [.bool] 6000 some G 14 [tBk, (.int .u8)] (t0, (t1, ())) =
    Option.bind (F39 (t0, ())) fun (y : Bool × Unit) =>
  bif !Prod.fst y then Option.bind (F25 (t0, 0, ())) fun (y : List Int × Int × Unit) => bif Prod.fst (Prod.snd y) != 0 then Option.bind (F24 ()) fun (y : Bool × Unit) => some (Prod.fst y, ()) else some (false, ())
  else
    bif (↑(List.length (Prod.fst t0)) : Int) == 0 then Option.bind (F25 (t0, 0, ())) fun (y : List Int × Int × Unit) => bif Prod.fst (Prod.snd y) != 0 then Option.bind (F24 ()) fun (y : Bool × Unit) => some (Prod.fst y, ()) else some (false, ())
    else
      bif decide ((↑(List.length (Prod.fst t0)) : Int) = 0) then none
      else
        Option.bind (F25 (t0, Int.tmod (IntKind.wrap IntKind.i64 t1) (↑(List.length (Prod.fst t0)) : Int), ())) fun (y : List Int × Int × Unit) =>
          bif Prod.fst (Prod.snd y) != 0 then some (false, ()) else Option.bind (F42 (Prod.fst y, (↑(List.length (Prod.fst (Prod.snd t0))) : Int), ())) fun (y_1 : Bool × Unit) => bif !Prod.fst y_1 then some (false, ()) else G 0 K14_0 ((((), Int.tmod (IntKind.wrap IntKind.i64 t1) (↑(List.length (Prod.fst t0)) : Int), Prod.fst y, 0, ()), ()), t0, ()) := by kernel_rfl
theorem Q14_0 (G : (n : Nat) → Kept → denK (specAt S14 n) → Option (denL [.bool])) (t7 : Int) (t8 : (List Int)) (t10 : Int) (h0 : Bk) : seg cx49 S14 [.bool] 6000 some G 0 K14_0 ((((), (t7, (t8, (t10, ())))), ()), (h0, ())) =
    bif decide (t10 < (↑(List.length (Prod.fst (Prod.snd h0))) : Int)) then G 1 K14_1 ((((), t7, t8, t10, false, 0, ()), ()), h0, ()) else Option.bind (F24 ()) fun (y : Bool × Unit) => some (Prod.fst y, ()) := by kernel_rfl
theorem Q14_1 (G : (n : Nat) → Kept → denK (specAt S14 n) → Option (denL [.bool])) (t7 : Int) (t8 : (List Int)) (t10 : Int) (t11 : Bool) (t12 : Int) (h0 : Bk) : seg cx49 S14 [.bool] 6000 some G 1 K14_1 ((((), (t7, (t8, (t10, (t11, (t12, ())))))), ()), (h0, ())) =
    bif decide (0 ≤ t10) && decide (t10 < (↑(List.length (Prod.fst (Prod.snd h0))) : Int)) then
  bif decide (t12 < (↑(List.length (List.getD (Prod.fst (Prod.snd h0)) (Int.toNat t10) [])) : Int)) then
    bif decide (0 ≤ t10) && decide (t10 < (↑(List.length (Prod.fst (Prod.snd h0))) : Int)) then
      bif decide (0 ≤ t12) && decide (t12 < (↑(List.length (List.getD (Prod.fst (Prod.snd h0)) (Int.toNat t10) [])) : Int)) then
        bif t11 then G 2 K14_2 ((((), t7, t8, t10, true, t12, (), 0, ()), ()), h0, List.getD (List.getD (Prod.fst (Prod.snd h0)) (Int.toNat t10) []) (Int.toNat t12) (0, 0, 0, ()), ())
        else Option.bind (F40 (Prod.fst (Prod.snd (List.getD (List.getD (Prod.fst (Prod.snd h0)) (Int.toNat t10) []) (Int.toNat t12) (0, 0, 0, ()))), t7, ())) fun (y : Bool × Unit) => G 2 K14_2 ((((), t7, t8, t10, Prod.fst y, t12, (), 0, ()), ()), h0, List.getD (List.getD (Prod.fst (Prod.snd h0)) (Int.toNat t10) []) (Int.toNat t12) (0, 0, 0, ()), ())
      else none
    else none
  else Option.bind (F45 (t8, t10, ())) fun (y : Bool × Unit) => bif !eqD Ty.bool t11 (Prod.fst y) then some (false, ()) else G 0 K14_0 ((((), t7, t8, IntKind.wrap IntKind.i64 (t10 + 1), ()), ()), h0, ())
  else none := by kernel_rfl
theorem Q14_2 (G : (n : Nat) → Kept → denK (specAt S14 n) → Option (denL [.bool])) (t7 : Int) (t8 : (List Int)) (t10 : Int) (t11 : Bool) (t12 : Int) (t14 : Int) (h0 : Bk) (h1 : Wy) : seg cx49 S14 [.bool] 6000 some G 2 K14_2 ((((), (t7, (t8, (t10, (t11, (t12, ((), (t14, ())))))))), ()), (h0, (h1, ()))) =
    bif decide (t14 < t10) then
  bif t11 then G 2 K14_2 ((((), t7, t8, t10, true, t12, (), IntKind.wrap IntKind.i64 (t14 + 1), ()), ()), h0, h1, ())
  else Option.bind (F40 (Prod.fst (Prod.snd (Prod.snd h1)), t14, ())) fun (y : Bool × Unit) => bif Prod.fst y then Option.bind (F45 (t8, t14, ())) fun (y : Bool × Unit) => G 2 K14_2 ((((), t7, t8, t10, Prod.fst y, t12, (), IntKind.wrap IntKind.i64 (t14 + 1), ()), ()), h0, h1, ()) else G 2 K14_2 ((((), t7, t8, t10, false, t12, (), IntKind.wrap IntKind.i64 (t14 + 1), ()), ()), h0, h1, ())
  else G 1 K14_1 ((((), t7, t8, t10, t11, IntKind.wrap IntKind.i64 (t12 + 1), ()), ()), h0, ()) := by kernel_rfl
noncomputable def F14 : denL [tBk, (.int .u8)] → Option (denL [.bool]) := ghost cx49 S14 6000 14 [tBk, (.int .u8)] [.bool]
noncomputable def C14 : Con := ⟨[tBk, (.int .u8)], [.bool], F14⟩
end Go.Proofs.Ytallblpnlefpeaa
/- The law on what has to do with a row. Conditions: as each lemma states. -/
namespace Go.Proofs.Ytallblpnlefpeaa
open Go Go.Gh Go.Proofs Go.Few
theorem L14 (b : Bk) (x : Int) (hx : 0 ≤ x ∧ x ≤ 255) : F14 ((b, x, ()) : Bk × Int × Unit) = some (true, ()) := by
  refine ghost_eq (Ev.eq (fun _ => E14 _ _ _) ?_)
  obtain ⟨x, rfl⟩ := Int.eq_ofNat_of_zero_le hx.1
  rw [L39, L25, wrap_id (x := (x : Int)) (by omega) (by omega)]
  simp only [Option.bind_some]
  by_cases h : (chkP b).2.2.1 = 0
  · have hv := VB_of h
    have h8 := hv.r8
    have h6 := hv.n6
    rw [h]
    simp only [beq_self_eq_true, Bool.not_true, cond_false]
    by_cases h0 : b.1.length = 0
    · rw [show ((b.1.length : Int) == 0) = true by rw [h0]; rfl, show (againP b 0).2.1 = 4 from (show enterE b 0 b.1.length = 4 by unfold enterE; rw [if_neg (fun hn => hn h), if_pos (by omega)]), L24]
      exact Ev.all fun _ => by first | rfl | trivial
    · have hlt : x % b.1.length < b.1.length := Nat.mod_lt _ (by omega)
      rw [show ((b.1.length : Int) == 0) = false by rw [beq_eq_false_iff_ne]; omega, dec_f (show ¬ ((b.1.length : Int) = 0) by omega), tmod_nat, L25]
      generalize x % b.1.length = r at *
      have ha : againP b r = (numsL (conF b r 6) b.2.1.length, 0, ()) := by unfold againP; rw [enterE_in h (by omega) (by omega), if_pos rfl, Int.toNat_natCast]
      have hl := numsL_len (conF b r 6) b.2.1.length
      rw [ha]
      simp only [Option.bind_some, cond_false, bne_self_eq_false]
      rw [L42 _ _ (by omega) (by omega) (numsL_pair _ _) numsL_in]
      simp only [Option.bind_some, Bool.not_true, cond_false]
      have hmem : ∀ n, n < b.2.1.length → decide ((n : Int) ∈ numsL (conF b r 6) b.2.1.length) = conF b r 6 n := fun n hn => mem_numsL hn
      generalize numsL (conF b r 6) b.2.1.length = N at *
      have key : ∀ (c n : Nat), n + c = b.2.1.length → Ev fun k => iter cx49 S14 [.bool] 6000 k 0 K14_0 ((((), ((r : Int), (N, ((n : Int), ())))), ()), (b, ())) = some (true, ()) := by
        intro c
        induction c with
        | zero =>
          intro n hn
          refine iter_ev (Ev.eq (fun _ => Q14_0 _ _ _ _ _) ?_)
          rw [dec_f (by omega), L24]
          exact Ev.all fun _ => by first | rfl | trivial
        | succ c ih =>
          intro n hn
          refine iter_ev (Ev.eq (fun _ => Q14_0 _ _ _ _ _) ?_)
          have hnl : n < b.2.1.length := by omega
          have hih := ih (n + 1) (by omega)
          have hm := hv.many n hnl
          have hw := hv.ways n hnl
          have hcon : conF b r 6 n = (b.2.1.getD n []).any (wayC b r 5) := rfl
          rw [dec_t (show (n : Int) < (b.2.1.length : Int) by omega)]
          simp only [cond_true]
          generalize hwe : b.2.1.getD n [] = ws at *
          have ways : ∀ (c j : Nat) (met : Bool), j + c = ws.length → (met || (ws.drop j).any (wayC b r 5)) = ws.any (wayC b r 5) → Ev fun k => iter cx49 S14 [.bool] 6000 k 1 K14_1 ((((), ((r : Int), (N, ((n : Int), (met, ((j : Int), ())))))), ()), (b, ())) = some (true, ()) := by
            intro c
            induction c with
            | zero =>
              intro j met hj he
              refine iter_ev (Ev.eq (fun _ => Q14_1 _ _ _ _ _ _ _) ?_)
              rw [List.drop_eq_nil_of_le (by omega), List.any_nil, Bool.or_false] at he
              rw [dec_t (show (0 : Int) ≤ (n : Int) by omega), dec_t (show (n : Int) < (b.2.1.length : Int) by omega), Int.toNat_natCast, hwe, dec_f (show ¬ ((j : Int) < (ws.length : Int)) by omega), L45 _ (by omega), hmem n hnl, hcon, ← he, wrap_succ (n := n) (by omega)]
              simp only [Option.bind_some, eqD, beq_self_eq_true, Bool.not_true, cond_false]
              exact hih
            | succ c ih2 =>
              intro j met hj he
              refine iter_ev (Ev.eq (fun _ => Q14_1 _ _ _ _ _ _ _) ?_)
              have hjl : j < ws.length := by omega
              rw [dec_t (show (0 : Int) ≤ (n : Int) by omega), dec_t (show (n : Int) < (b.2.1.length : Int) by omega), Int.toNat_natCast, hwe, dec_t (show (j : Int) < (ws.length : Int) by omega), Int.toNat_natCast, dec_t (show (0 : Int) ≤ (j : Int) by omega), getD_lt hjl]
              simp only [Bool.and_self, cond_true]
              rw [List.drop_eq_getElem_cons hjl, List.any_cons] at he
              have hww := hw _ (List.getElem_mem hjl)
              generalize ws[j] = w at *
              obtain ⟨p, hp⟩ := Int.eq_ofNat_of_zero_le hww.r0
              obtain ⟨q, hq⟩ := Int.eq_ofNat_of_zero_le hww.n0
              have h1 := hww.r1
              have h2 := hww.n1
              rw [hp] at h1
              rw [hq] at h2
              have h1 : p < 2 ^ b.1.length := by exact_mod_cast h1
              have h2 : q < 2 ^ n := by exact_mod_cast h2
              have hp8 : p < 2 ^ 8 := Nat.lt_of_lt_of_le h1 (Nat.pow_le_pow_right (by decide) h8)
              have hq6 : q < 2 ^ 6 := Nat.lt_of_lt_of_le h2 (Nat.pow_le_pow_right (by decide) (by omega))
              have hcw : wayC b r 5 w = (p.testBit r || (List.range' 0 n).any fun i => q.testBit i && conF b r 6 i) := by
                rw [wayC, hp, hq, Int.toNat_natCast, Int.toNat_natCast]
                congr 1
                rw [Bool.eq_iff_iff, List.any_eq_true, List.any_eq_true]
                constructor
                · rintro ⟨i, _, hi⟩
                  rw [Bool.and_eq_true] at hi
                  have hin := bit_lt hi.1 h2
                  exact ⟨i, List.mem_range'_1.2 (by omega), by rw [hi.1, conF_stay hv r i (by omega) 6 5 (by omega) (by omega), hi.2]; rfl⟩
                · rintro ⟨i, hin, hi⟩
                  rw [Bool.and_eq_true] at hi
                  have hin := List.mem_range'_1.1 hin
                  exact ⟨i, List.mem_range'_1.2 (by omega), by rw [hi.1, conF_stay hv r i (by omega) 5 6 (by omega) (by omega), hi.2]; rfl⟩
              rw [hcw] at he
              have nums : ∀ (c i : Nat) (m : Bool), i + c = n → ((m || (List.range' i c).any fun i => q.testBit i && conF b r 6 i) || (ws.drop (j + 1)).any (wayC b r 5)) = ws.any (wayC b r 5) → Ev fun k => iter cx49 S14 [.bool] 6000 k 2 K14_2 ((((), ((r : Int), (N, ((n : Int), (m, ((j : Int), ((), ((i : Int), ())))))))), ()), (b, (w, ()))) = some (true, ()) := by
                intro c
                induction c with
                | zero =>
                  intro i m hi hme
                  refine iter_ev (Ev.eq (fun _ => Q14_2 _ _ _ _ _ _ _ _ _) ?_)
                  rw [dec_f (show ¬ ((i : Int) < (n : Int)) by omega), wrap_succ (n := j) (by omega)]
                  exact ih2 (j + 1) m (by omega) (by rw [List.range'_zero, List.any_nil, Bool.or_false] at hme; exact hme)
                | succ c ih3 =>
                  intro i m hi hme
                  refine iter_ev (Ev.eq (fun _ => Q14_2 _ _ _ _ _ _ _ _ _) ?_)
                  rw [List.range'_succ, List.any_cons] at hme
                  rw [dec_t (show (i : Int) < (n : Int) by omega), wrap_succ (n := i) (by omega), hq, L40 q (by omega) i (by omega), L45 _ (by omega), hmem i (by omega)]
                  simp only [cond_true, Option.bind_some]
                  cases m with
                  | true =>
                    rw [Bool.true_or] at hme
                    exact ih3 (i + 1) true (by omega) (by rw [Bool.true_or]; exact hme)
                  | false =>
                    cases hb : q.testBit i with
                    | true =>
                      rw [hb, Bool.true_and, Bool.false_or] at hme
                      exact ih3 (i + 1) _ (by omega) hme
                    | false =>
                      rw [hb, Bool.false_and, Bool.false_or, Bool.false_or] at hme
                      exact ih3 (i + 1) false (by omega) (by rw [Bool.false_or]; exact hme)
              cases met with
              | true =>
                exact nums n 0 true (by omega) (by rw [← he]; simp)
              | false =>
                rw [hp, L40 p (by omega) r (by omega)]
                simp only [Option.bind_some, cond_false]
                exact nums n 0 _ (by omega) (by rw [← he, Bool.false_or])
          exact ways ws.length 0 false (by omega) (by rw [List.drop_zero, Bool.false_or])
      exact key b.2.1.length 0 (by omega)
  · rw [show ((chkP b).2.2.1 == 0) = false from beq_eq_false_iff_ne.2 h, show (againP b 0).2.1 = (chkP b).2.2.1 from enter_bad h _ _, bne_iff_ne.2 h, L24]
    exact Ev.all fun _ => by first | rfl | trivial
end Go.Proofs.Ytallblpnlefpeaa
/- RowOrder returns true for every input, and leaves it as it was. Conditions: none beyond the row's own. -/
namespace Go.Proofs.Ytallblpnlefpeaa
open Go Go.Gh Go.ChangeShapes Go.WideShapes Go.ChangeAt Go.RowKit

theorem rowOrder_con : ConOK cx49 14 ⟨[tyB, .int .u8], [.bool], F14⟩ := ghost_ok ok49 S14 6000 14 _ _

set_option maxRecDepth 100000 in
theorem rowOrder_lifted (os : Os) (started : os.Started) (H : Type) (enc : TypeId × Value → H) :
    ReturnsInHanded {} Try.checked os 14 .any (Rows.rowOrderSpec.pre6 enc Try.prog Try.f14 Rows.rowOrderRow.domain false)
      (Rows.rowOrderSpec.post enc Try.prog Try.f14 false true false false) := by
  refine returnsInHanded_of_change (C := Try.checked) own1 started (by kernel_rfl) Try.func14
    (ChangeSpec.witness6 (enc := enc) (C := Try.checked) false ⟨#[], #[.agg #[.slice none 0 0, .slice none 0 0], .int .u8 0], []⟩ 8 (by kernel_rfl) (by kernel_rfl) (by kernel_rfl) (by kernel_rfl)) ?_
  intro W base args ds gs before hval hW _ _
  exact law_contract rowOrder_con laidOut1 (B := 4) (by kernel_rfl) (by kernel_rfl) (by kernel_rfl) (fun ds hds => by
    match ds, hds with
    | [d1, d2], _ => exact ⟨rfl, rfl, rfl⟩) rfl (fun x hx => L14 x.1 x.2.1 (u8_in hx.2.1)) hval hW (glob_ok W rfl)

theorem rowOrder_holds : Rows.RowOrderSaid :=
  OpenClaim.holds_of_wide 14 Try.f14 rfl rfl rfl rfl rfl rfl rfl ⟨rfl, rfl, rfl, rfl, rfl⟩ rfl rfl rfl rfl rfl (by kernel_rfl) Try.func14 (by kernel_rfl)
    (of_decide_eq_true (by kernel_rfl)) (by unfold Func.isWrapper; first | (rw [if_pos (by decide +kernel)]; kernel_rfl) | (rw [if_neg (by decide +kernel)]; exact ⟨rfl, rfl⟩))
    (fun os started H enc _ => by
      rw [OpenClaim.pre_of_none rfl]
      exact rowOrder_lifted os started H enc)
#print axioms rowOrder_holds
end Go.Proofs.Ytallblpnlefpeaa
