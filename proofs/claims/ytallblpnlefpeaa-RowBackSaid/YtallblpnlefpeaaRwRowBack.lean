/- What the ghost comes to: a law. Conditions: none (equations, each by computation). -/
import Derived.Test.YtallblpnlefpeaaRoF
import Derived.Test.YtallblpnlefpeaaRoHa
import Derived.Test.YtallblpnlefpeaaRoG
namespace Go.Proofs.Ytallblpnlefpeaa
open Go Go.Gh Go.Proofs
def S15 : List Gh.Spec := [{ key := (0, 15, 10, 1), frs := [{ fn := 15, n := 110, regs := [(2, (.ptr 150002 [])), (5, (.ptr 150005 [])), (8, (.dat (.int .i64)))], round := none, defers := [] }], heap := [(150002, .box (.dat tBk) false), (150005, .box (.agg [(.row 150031), (.dat (.slice (.slice tWy)))]) false), (150031, .row (.struct [(.int .i64), .bool]) true)] }]
noncomputable def K15_0 : Kept := { todos := [[.inLoop (cAt Try.f15 [1, 1, 1, 1, 1, 1, 1, 1, 0, 1, 0, 0]), .inBlock 0, .code (cAt Try.f15 [1, 1, 1, 1, 1, 1, 1, 1, 1])]], cs := [noCodes, noCodes, noCodes] }
theorem E15 (G : (n : Nat) → Kept → denK (specAt S15 n) → Option (denL [.bool])) (t0 : Bk) (t1 : Int) : enter cx49 S15 [.bool] 6000 some G 15 [tBk, (.int .u8)] (t0, (t1, ())) =
    Option.bind (F39 (t0, ())) fun (y : Bool × Unit) =>
  bif !Prod.fst y then Option.bind (F24 ()) fun (y : Bool × Unit) => some (Prod.fst y, ())
  else
    bif (↑(List.length (Prod.fst t0)) : Int) == 0 then Option.bind (F24 ()) fun (y : Bool × Unit) => some (Prod.fst y, ())
    else
      bif decide (List.length (Prod.fst t0) ≤ 2147483648) then
        bif decide ((↑(List.length (Prod.fst t0)) : Int) = 0) then none
        else
          bif decide (0 ≤ Int.tmod (IntKind.wrap IntKind.i64 t1) (↑(List.length (Prod.fst t0)) : Int)) && decide (Int.tmod (IntKind.wrap IntKind.i64 t1) (↑(List.length (Prod.fst t0)) : Int) < (↑(List.length (Prod.fst t0)) : Int)) then
            bif decide (Int.toNat (Int.tmod (IntKind.wrap IntKind.i64 t1) (↑(List.length (Prod.fst t0)) : Int)) < List.length (Prod.fst t0)) then
              bif decide (0 ≤ Int.tmod (IntKind.wrap IntKind.i64 t1) (↑(List.length (Prod.fst t0)) : Int)) && decide (Int.tmod (IntKind.wrap IntKind.i64 t1) (↑(List.length (Prod.fst t0)) : Int) < (↑(List.length (Prod.fst t0)) : Int)) then
                bif decide (Int.toNat (Int.tmod (IntKind.wrap IntKind.i64 t1) (↑(List.length (Prod.fst t0)) : Int)) < List.length (Prod.fst t0)) then
                  G 0 K15_0 ((((), (), 0, ()), ()), t0, ((), Prod.fst (Prod.snd t0), ()), List.set (Prod.fst t0) (Int.toNat (Int.tmod (IntKind.wrap IntKind.i64 t1) (↑(List.length (Prod.fst t0)) : Int))) (Prod.fst (List.getD (Prod.fst t0) (Int.toNat (Int.tmod (IntKind.wrap IntKind.i64 t1) (↑(List.length (Prod.fst t0)) : Int))) (0, false, ())), false, ()), ())
                else none
              else none
            else none
          else none
      else none := by kernel_rfl
theorem Q15_0 (G : (n : Nat) → Kept → denK (specAt S15 n) → Option (denL [.bool])) (t8 : Int) (h0 : Bk) (h1_1 : (List (List Wy))) (h2 : (List Rw)) : seg cx49 S15 [.bool] 6000 some G 0 K15_0 ((((), ((), (t8, ()))), ()), (h0, (((), (h1_1, ())), (h2, ())))) =
    bif decide (t8 < (↑(List.length (Prod.fst (Prod.snd h0))) : Int)) then
  Option.bind (F30 (h0, t8, ())) fun (y : List Int × Int × Unit) =>
    Option.bind (F30 ((h2, h1_1, ()), t8, ())) fun (y_1 : List Int × Int × Unit) =>
      Option.bind (F34 (h0, t8, ())) fun (y_2 : List Int × Int × Unit) =>
        Option.bind (F34 ((h2, h1_1, ()), t8, ())) fun (y_3 : List Int × Int × Unit) =>
          bif Prod.fst (Prod.snd y) == 0 then
            bif Prod.fst (Prod.snd y_1) != 0 then some (false, ())
            else
              bif decide ((↑(List.length (Prod.fst y_1)) : Int) > (↑(List.length (Prod.fst y)) : Int)) then some (false, ())
              else bif Prod.fst (Prod.snd y_2) != 0 then some (false, ()) else bif Prod.fst (Prod.snd y_3) != 0 then some (false, ()) else bif decide ((↑(List.length (Prod.fst y_3)) : Int) < (↑(List.length (Prod.fst y_2)) : Int)) then some (false, ()) else G 0 K15_0 ((((), (), IntKind.wrap IntKind.i64 (t8 + 1), ()), ()), h0, ((), h1_1, ()), h2, ())
          else bif Prod.fst (Prod.snd y_2) != 0 then some (false, ()) else bif Prod.fst (Prod.snd y_3) != 0 then some (false, ()) else bif decide ((↑(List.length (Prod.fst y_3)) : Int) < (↑(List.length (Prod.fst y_2)) : Int)) then some (false, ()) else G 0 K15_0 ((((), (), IntKind.wrap IntKind.i64 (t8 + 1), ()), ()), h0, ((), h1_1, ()), h2, ())
  else Option.bind (F24 ()) fun (y : Bool × Unit) => some (Prod.fst y, ()) := by kernel_rfl
noncomputable def F15 : denL [tBk, (.int .u8)] → Option (denL [.bool]) := ghost cx49 S15 6000 15 [tBk, (.int .u8)] [.bool]
noncomputable def C15 : Con := ⟨[tBk, (.int .u8)], [.bool], F15⟩
end Go.Proofs.Ytallblpnlefpeaa
/- The law on a row that stands again. Conditions: as each lemma states. -/
namespace Go.Proofs.Ytallblpnlefpeaa
open Go Go.Gh Go.Proofs Go.Few
def backB (b : Bk) (i : Nat) : Bk := (b.1.set i ((b.1.getD i rw0).1, false, ()), b.2.1, ())
theorem back_at (b : Bk) {i : Nat} (hi : i < b.1.length) (j : Nat) : (backB b i).1.getD j rw0 = if i = j then ((b.1.getD i rw0).1, false, ()) else b.1.getD j rw0 := getD_set' hi
theorem back_same (b : Bk) {i : Nat} (hi : i < b.1.length) : Same b (backB b i) :=
  ⟨rfl, List.length_set, fun j => by
    rw [back_at b hi]
    split
    · rename_i e; rw [e]
    · rfl⟩
theorem back_stand (b : Bk) {i : Nat} (hi : i < b.1.length) : (standL b).Sublist (standL (backB b i)) := by
  unfold standL
  rw [(back_same b hi).len]
  refine filter_sub (fun j hj => ?_) _
  rw [back_at b hi]
  split
  · rfl
  · exact hj
theorem L15 (b : Bk) (x : Int) (hx : 0 ≤ x ∧ x ≤ 255) : F15 ((b, x, ()) : Bk × Int × Unit) = some (true, ()) := by
  refine ghost_eq (Ev.eq (fun _ => E15 _ _ _) ?_)
  obtain ⟨x, rfl⟩ := Int.eq_ofNat_of_zero_le hx.1
  rw [L39, L24, wrap_id (x := (x : Int)) (by omega) (by omega)]
  simp only [Option.bind_some]
  by_cases h : (chkP b).2.2.1 = 0
  · have hv := VB_of h
    have h8 := hv.r8
    have h6 := hv.n6
    rw [h]
    simp only [beq_self_eq_true, Bool.not_true, cond_false]
    by_cases h0 : b.1.length = 0
    · rw [show ((b.1.length : Int) == 0) = true by rw [h0]; rfl]
      exact Ev.all fun _ => by first | rfl | trivial
    · have hlt : x % b.1.length < b.1.length := Nat.mod_lt _ (by omega)
      rw [show ((b.1.length : Int) == 0) = false by rw [beq_eq_false_iff_ne]; omega, dec_f (show ¬ ((b.1.length : Int) = 0) by omega), tmod_nat]
      generalize x % b.1.length = i at *
      rw [dec_t (show b.1.length ≤ 2147483648 by omega), dec_t (show (0 : Int) ≤ (i : Int) by omega), dec_t (show (i : Int) < (b.1.length : Int) by omega), Int.toNat_natCast, dec_t hlt]
      simp only [Bool.and_self, cond_true, cond_false]
      have hs := back_same b hlt
      have hst := back_stand b hlt
      have hvc := hs.vb hv
      have hc : (chkP (backB b i)).2.2.1 = 0 := by rw [hs.chk]; exact h
      have hsub : ∀ {l : List Int}, l.Sublist (standL b) → l.Sublist (standL (backB b i)) := fun hl => hl.trans hst
      have key : ∀ (c n : Nat), n + c = b.2.1.length → Ev fun k => iter cx49 S15 [.bool] 6000 k 0 K15_0 ((((), ((), ((n : Int), ()))), ()), (b, (((), (b.2.1, ())), ((backB b i).1, ())))) = some (true, ()) := by
        intro c
        induction c with
        | zero =>
          intro n hn
          refine iter_ev (Ev.eq (fun _ => Q15_0 _ _ _ _ _) ?_)
          rw [dec_f (by omega), L24]
          exact Ev.all fun _ => by first | rfl | trivial
        | succ c ih =>
          intro n hn
          refine iter_ev (Ev.eq (fun _ => Q15_0 _ _ _ _ _) ?_)
          have hnl : n < b.2.1.length := by omega
          have hih := ih (n + 1) (by omega)
          have hb2 := few_best (stand_pair b) (cut_all hv n)
          have hb3 := few_best (stand_pair (backB b i)) (cut_all hvc n)
          have hcut : ¬ ((refFew (standL (backB b i)) (okC (backB b i) n)).length < (refFew (standL b) (okC b n)).length) := by
            generalize refFew (standL b) (okC b n) = m at *
            generalize refFew (standL (backB b i)) (okC (backB b i) n) = o at *
            intro hlt2
            have ho : ∀ y ∈ o, y ∈ standL (backB b i) := fun y hy => hb3.is.1.subset hy
            have hoin := stand_in ho
            have hmm : ∀ y, y ∈ o.filter (fun y => decide (y ∈ standL b)) ↔ y ∈ o ∧ y ∈ standL b := fun y => by rw [List.mem_filter, decide_eq_true_eq]
            have hle : (o.filter fun y => decide (y ∈ standL b)).length ≤ o.length := List.length_filter_le _ _
            have hsl : (o.filter fun y => decide (y ∈ standL b)).Sublist (standL (backB b i)) := List.filter_sublist.trans hb3.is.1
            generalize o.filter (fun y => decide (y ∈ standL b)) = o' at *
            have hso : o'.Sublist (standL b) := by
              unfold standL at hsl ⊢
              rw [sub_nums hsl, hs.len]
              refine filter_sub (fun j hj => ?_) _
              obtain ⟨k, _, h4, h5⟩ := stand_mem.1 ((hmm _).1 (of_decide_eq_true hj)).2
              obtain rfl : k = j := by omega
              rw [h4]
              rfl
            have hok : okC b n o' = true := by
              have h3 := hb3.is.2
              unfold okC at h3 ⊢
              rw [hs.all] at h3
              have hf : ((allP b (butN (rowsN (backB b i)) (Few.bitsL o))).getD n fd0).1 = false := by simpa using h3
              cases hcc : ((allP b (butN (rowsN b) (Few.bitsL o'))).getD n fd0).1 with
              | false => rfl
              | true =>
                have := stands_mono hv (s := butN (rowsN (backB b i)) (Few.bitsL o)) (fun j hj => by
                  rw [butN_bit, rows_mem, bits_dec fun y hy => (stand_in (fun x h => h) y (hso.subset hy)).1, Bool.and_eq_true, decide_eq_true_eq] at hj
                  have hnm : (j : Int) ∉ o := fun hjo => by
                    rw [dec_t ((hmm _).2 ⟨hjo, hj.1⟩)] at hj
                    cases hj.2
                  rw [butN_bit, rows_mem, bits_dec fun y hy => (hoin y hy).1, dec_t (hst.subset hj.1), dec_f hnm]
                  rfl) n hnl hcc
                rw [hf] at this
                cases this
            exact hb2.first _ ⟨hso, hok⟩ (.inl (by omega))
          have hp : ((backB b i).1, b.2.1, ()) = backB b i := rfl
          rw [dec_t (show (n : Int) < (b.2.1.length : Int) by omega), wrap_succ (n := n) (by omega), hp, L30, L30, L34, L34, cut_in hv h hnl, cut_in hvc hc (by rw [hs.nums]; exact hnl)]
          simp only [Option.bind_some, cond_true, bne_self_eq_false, cond_false]
          rw [dec_f (show ¬ (((refFew (standL (backB b i)) (okC (backB b i) n)).length : Int) < ((refFew (standL b) (okC b n)).length : Int)) by omega)]
          cases hsd : ((allP b (rowsN b)).getD n fd0).1 with
          | false =>
            rw [(ground_no h hnl hsd).1]
            exact hih
          | true =>
            have hsd2 : ((allP (backB b i) (rowsN (backB b i))).getD n fd0).1 = true := by
              rw [hs.all]
              refine stands_mono hv (r := rowsN b) (fun j hj => ?_) n hnl hsd
              rw [rows_mem, decide_eq_true_eq] at hj ⊢
              exact hst.subset hj
            have g1 := few_best (stand_pair b) (ok := okG b n) hsd
            have g2 := few_best (stand_pair (backB b i)) (ok := okG (backB b i) n) hsd2
            rw [ground_in hv h hnl hsd, ground_in hvc hc (by rw [hs.nums]; exact hnl) hsd2]
            have hle : ¬ ((refFew (standL (backB b i)) (okG (backB b i) n)).length > (refFew (standL b) (okG b n)).length) := fun hgt => by
              refine g2.first _ ⟨hsub g1.is.1, ?_⟩ (.inl hgt)
              have := g1.is.2
              unfold okG at this ⊢
              rw [hs.all]
              exact this
            simp only [beq_self_eq_true, cond_true, bne_self_eq_false, cond_false]
            rw [dec_f (show ¬ (((refFew (standL (backB b i)) (okG (backB b i) n)).length : Int) > ((refFew (standL b) (okG b n)).length : Int)) by omega)]
            exact hih
      exact key b.2.1.length 0 (by omega)
  · rw [show ((chkP b).2.2.1 == 0) = false from beq_eq_false_iff_ne.2 h]
    exact Ev.all fun _ => by first | rfl | trivial
end Go.Proofs.Ytallblpnlefpeaa
/- RowBack returns true for every input, and leaves it as it was. Conditions: none beyond the row's own. -/
namespace Go.Proofs.Ytallblpnlefpeaa
open Go Go.Gh Go.ChangeShapes Go.WideShapes Go.ChangeAt Go.RowKit

theorem rowBack_con : ConOK cx49 15 ⟨[tyB, .int .u8], [.bool], F15⟩ := ghost_ok ok49 S15 6000 15 _ _

set_option maxRecDepth 100000 in
theorem rowBack_lifted (os : Os) (started : os.Started) (H : Type) (enc : TypeId × Value → H) :
    ReturnsInHanded {} Try.checked os 15 .any (Rows.rowBackSpec.pre6 enc Try.prog Try.f15 Rows.rowBackRow.domain false)
      (Rows.rowBackSpec.post enc Try.prog Try.f15 false true false false) := by
  refine returnsInHanded_of_change (C := Try.checked) own1 started (by kernel_rfl) Try.func15
    (ChangeSpec.witness6 (enc := enc) (C := Try.checked) false ⟨#[], #[.agg #[.slice none 0 0, .slice none 0 0], .int .u8 0], []⟩ 8 (by kernel_rfl) (by kernel_rfl) (by kernel_rfl) (by kernel_rfl)) ?_
  intro W base args ds gs before hval hW _ _
  exact law_contract rowBack_con laidOut1 (B := 4) (by kernel_rfl) (by kernel_rfl) (by kernel_rfl) (fun ds hds => by
    match ds, hds with
    | [d1, d2], _ => exact ⟨rfl, rfl, rfl⟩) rfl (fun x hx => L15 x.1 x.2.1 (u8_in hx.2.1)) hval hW (glob_ok W rfl)

theorem rowBack_holds : Rows.RowBackSaid :=
  OpenClaim.holds_of_wide 15 Try.f15 rfl rfl rfl rfl rfl rfl rfl ⟨rfl, rfl, rfl, rfl, rfl⟩ rfl rfl rfl rfl rfl (by kernel_rfl) Try.func15 (by kernel_rfl)
    (of_decide_eq_true (by kernel_rfl)) (by unfold Func.isWrapper; first | (rw [if_pos (by decide +kernel)]; kernel_rfl) | (rw [if_neg (by decide +kernel)]; exact ⟨rfl, rfl⟩))
    (fun os started H enc _ => by
      rw [OpenClaim.pre_of_none rfl]
      exact rowBack_lifted os started H enc)
#print axioms rowBack_holds
end Go.Proofs.Ytallblpnlefpeaa
