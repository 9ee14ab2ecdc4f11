/- What the ghost comes to: a law. Conditions: none (equations, each by computation). -/
import Derived.Test.YtallblpnlefpeaaRoF
import Derived.Test.YtallblpnlefpeaaRoGa
import Derived.Test.YtallblpnlefpeaaRoG
namespace Go.Proofs.Ytallblpnlefpeaa
open Go Go.Gh Go.Proofs
def S8 : List Gh.Spec := [{ key := (0, 8, 7, 1), frs := [{ fn := 8, n := 135, regs := [(1, (.dat (.int .u8))), (2, (.dat (.slice (.int .u8)))), (3, (.ptr 80003 [])), (9, (.ptr 80009 [])), (10, (.dat (.int .i64)))], round := none, defers := [] }], heap := [(80003, .box (.dat tBk) false), (80009, .box (.agg [(.row 80036), (.dat (.slice (.slice tWy)))]) false), (80036, .row (.struct [(.int .i64), .bool]) false)] }, { key := (0, 8, 17, 1), frs := [{ fn := 8, n := 135, regs := [(3, (.ptr 80003 [])), (9, (.ptr 80009 [])), (13, (.dat (.slice .bool))), (14, (.dat (.int .i64)))], round := none, defers := [] }], heap := [(80003, .box (.dat tBk) false), (80009, .box (.agg [(.row 80036), (.dat (.slice (.slice tWy)))]) false), (80036, .row (.struct [(.int .i64), .bool]) true)] }]
noncomputable def K8_0 : Kept := { todos := [[.inLoop (cAt Try.f8 [1, 1, 1, 1, 0, 1, 0, 0]), .inBlock 0, .code (cAt Try.f8 [1, 1, 1, 1, 1])]], cs := [noCodes, noCodes, noCodes] }
noncomputable def K8_1 : Kept := { todos := [[.inLoop (cAt Try.f8 [1, 1, 1, 1, 1, 1, 0, 1, 0, 0]), .inBlock 2, .code (cAt Try.f8 [1, 1, 1, 1, 1, 1, 1])]], cs := [noCodes, noCodes, noCodes] }
theorem E8 (G : (n : Nat) → Kept → denK (specAt S8 n) → Option (denL [.bool])) (t0 : Bk) (t1 : Int) (t2 : (List Int)) : enter cx49 S8 [.bool] 6000 some G 8 [tBk, (.int .u8), (.slice (.int .u8))] (t0, (t1, (t2, ()))) =
    Option.bind (F39 (t0, ())) fun (y : Bool × Unit) =>
  bif !Prod.fst y then Option.bind (F20 (t0, 0, ())) fun (y : Int × Int × Unit) => bif Prod.fst (Prod.snd y) != 0 then Option.bind (F24 ()) fun (y : Bool × Unit) => some (Prod.fst y, ()) else some (false, ()) else bif decide (List.length (Prod.fst t0) ≤ 2147483648) then G 0 K8_0 (((t1, t2, (), (), 0, ()), ()), t0, ((), Prod.fst (Prod.snd t0), ()), Prod.fst t0, ()) else none := by kernel_rfl
theorem Q8_0 (G : (n : Nat) → Kept → denK (specAt S8 n) → Option (denL [.bool])) (t1 : Int) (t2 : (List Int)) (t10 : Int) (h0 : Bk) (h1_1 : (List (List Wy))) (h2 : (List Rw)) : seg cx49 S8 [.bool] 6000 some G 0 K8_0 (((t1, (t2, ((), ((), (t10, ()))))), ()), (h0, (((), (h1_1, ())), (h2, ())))) =
    bif decide (t10 < (↑(List.length h2) : Int)) then
  bif decide ((↑(List.length t2) : Int) > 0) then
    Option.bind (F40 (IntKind.wrap IntKind.i64 t1, t10, ())) fun (y : Bool × Unit) =>
      bif !Prod.fst y then G 0 K8_0 (((t1, t2, (), (), IntKind.wrap IntKind.i64 (t10 + 1), ()), ()), h0, ((), h1_1, ()), h2, ())
      else
        bif decide ((↑(List.length t2) : Int) = 0) then none
        else
          bif decide (0 ≤ Int.tmod t10 (↑(List.length t2) : Int)) && decide (Int.tmod t10 (↑(List.length t2) : Int) < (↑(List.length t2) : Int)) then
            bif decide (0 ≤ t10) && decide (t10 < (↑(List.length h2) : Int)) then
              bif decide (Int.toNat t10 < List.length h2) then
                bif decide (0 ≤ t10) && decide (t10 < (↑(List.length h2) : Int)) then
                  bif decide (Int.toNat t10 < List.length h2) then
                    G 0 K8_0 (((t1, t2, (), (), IntKind.wrap IntKind.i64 (t10 + 1), ()), ()), h0, ((), h1_1, ()), List.set h2 (Int.toNat t10) (Int.tmod (IntKind.wrap IntKind.i64 (List.getD t2 (Int.toNat (Int.tmod t10 (↑(List.length t2) : Int))) 0)) 100, Int.tmod (IntKind.wrap IntKind.i64 (List.getD t2 (Int.toNat (Int.tmod t10 (↑(List.length t2) : Int))) 0)) 3 == 0, ()), ())
                  else none
                else none
              else none
            else none
          else none
  else Option.bind (F41 (h0, IntKind.wrap IntKind.i64 t1, ())) fun (y : List Bool × Unit) => G 1 K8_1 ((((), (), Prod.fst y, 0, ()), ()), h0, ((), h1_1, ()), h2, ())
  else Option.bind (F41 (h0, IntKind.wrap IntKind.i64 t1, ())) fun (y : List Bool × Unit) => G 1 K8_1 ((((), (), Prod.fst y, 0, ()), ()), h0, ((), h1_1, ()), h2, ()) := by kernel_rfl
theorem Q8_1 (G : (n : Nat) → Kept → denK (specAt S8 n) → Option (denL [.bool])) (t13 : (List Bool)) (t14 : Int) (h0 : Bk) (h1_1 : (List (List Wy))) (h2 : (List Rw)) : seg cx49 S8 [.bool] 6000 some G 1 K8_1 ((((), ((), (t13, (t14, ())))), ()), (h0, (((), (h1_1, ())), (h2, ())))) =
    bif decide (t14 < (↑(List.length (Prod.fst (Prod.snd h0))) : Int)) then
  Option.bind (F20 (h0, t14, ())) fun (y : Int × Int × Unit) =>
    Option.bind (F20 ((h2, h1_1, ()), t14, ())) fun (y_1 : Int × Int × Unit) =>
      bif Prod.fst (Prod.snd y) != 0 then
        bif Prod.fst (Prod.snd y) != 8 then some (false, ())
        else
          bif Prod.fst (Prod.snd y_1) != 0 then
            bif Prod.fst (Prod.snd y_1) != 8 then some (false, ())
            else
              bif decide (0 ≤ t14) && decide (t14 < (↑(List.length t13) : Int)) then
                bif !List.getD t13 (Int.toNat t14) false then bif Prod.fst y != Prod.fst y_1 then some (false, ()) else bif Prod.fst (Prod.snd y) != Prod.fst (Prod.snd y_1) then some (false, ()) else G 1 K8_1 ((((), (), t13, IntKind.wrap IntKind.i64 (t14 + 1), ()), ()), h0, ((), h1_1, ()), h2, ())
                else G 1 K8_1 ((((), (), t13, IntKind.wrap IntKind.i64 (t14 + 1), ()), ()), h0, ((), h1_1, ()), h2, ())
              else none
          else
            bif decide (0 ≤ t14) && decide (t14 < (↑(List.length t13) : Int)) then
              bif !List.getD t13 (Int.toNat t14) false then bif Prod.fst y != Prod.fst y_1 then some (false, ()) else bif Prod.fst (Prod.snd y) != Prod.fst (Prod.snd y_1) then some (false, ()) else G 1 K8_1 ((((), (), t13, IntKind.wrap IntKind.i64 (t14 + 1), ()), ()), h0, ((), h1_1, ()), h2, ()) else G 1 K8_1 ((((), (), t13, IntKind.wrap IntKind.i64 (t14 + 1), ()), ()), h0, ((), h1_1, ()), h2, ())
            else none
      else
        bif Prod.fst (Prod.snd y_1) != 0 then
          bif Prod.fst (Prod.snd y_1) != 8 then some (false, ())
          else
            bif decide (0 ≤ t14) && decide (t14 < (↑(List.length t13) : Int)) then
              bif !List.getD t13 (Int.toNat t14) false then bif Prod.fst y != Prod.fst y_1 then some (false, ()) else bif Prod.fst (Prod.snd y) != Prod.fst (Prod.snd y_1) then some (false, ()) else G 1 K8_1 ((((), (), t13, IntKind.wrap IntKind.i64 (t14 + 1), ()), ()), h0, ((), h1_1, ()), h2, ()) else G 1 K8_1 ((((), (), t13, IntKind.wrap IntKind.i64 (t14 + 1), ()), ()), h0, ((), h1_1, ()), h2, ())
            else none
        else
          bif decide (0 ≤ t14) && decide (t14 < (↑(List.length t13) : Int)) then
            bif !List.getD t13 (Int.toNat t14) false then bif Prod.fst y != Prod.fst y_1 then some (false, ()) else bif Prod.fst (Prod.snd y) != Prod.fst (Prod.snd y_1) then some (false, ()) else G 1 K8_1 ((((), (), t13, IntKind.wrap IntKind.i64 (t14 + 1), ()), ()), h0, ((), h1_1, ()), h2, ()) else G 1 K8_1 ((((), (), t13, IntKind.wrap IntKind.i64 (t14 + 1), ()), ()), h0, ((), h1_1, ()), h2, ())
          else none
  else Option.bind (F24 ()) fun (y : Bool × Unit) => some (Prod.fst y, ()) := by kernel_rfl
noncomputable def F8 : denL [tBk, (.int .u8), (.slice (.int .u8))] → Option (denL [.bool]) := ghost cx49 S8 6000 8 [tBk, (.int .u8), (.slice (.int .u8))] [.bool]
noncomputable def C8 : Con := ⟨[tBk, (.int .u8), (.slice (.int .u8))], [.bool], F8⟩
end Go.Proofs.Ytallblpnlefpeaa
/- The law on rows that are struck out, or have other values. Conditions: as each lemma states. -/
namespace Go.Proofs.Ytallblpnlefpeaa
open Go Go.Gh Go.Proofs Go.Few
/-- A book of which rows that bits choose are others, all within bounds. -/
structure Oth (b : Bk) (bits : Nat) (rs : List Rw) : Prop where
  len : rs.length = b.1.length
  same : ∀ i, bits.testBit i = false → rs.getD i rw0 = b.1.getD i rw0
  val : ∀ r ∈ rs, 0 ≤ r.1 ∧ r.1 ≤ 99
theorem rowsE_ok : ∀ {l : List Rw} (i : Nat), (∀ r ∈ l, 0 ≤ r.1 ∧ r.1 ≤ 99) → rowsE l i = none
  | [], _, _ => rfl
  | x :: l, i, h => by
    rw [rowsE, if_pos (h x (List.mem_cons_self ..))]
    exact rowsE_ok (i + 1) fun r hr => h r (List.mem_cons_of_mem _ hr)
theorem numE_len {b c : Bk} (h : c.1.length = b.1.length) (i : Nat) : ∀ ws, numE c i ws = numE b i ws
  | [] => rfl
  | w :: ws => by rw [numE, numE, show wayE c i w = wayE b i w by unfold wayE; rw [h], numE_len h i ws]
theorem numsE_len {b c : Bk} (h : c.1.length = b.1.length) : ∀ (l : List (List Wy)) (i : Nat), numsE c l i = numsE b l i
  | [], _ => rfl
  | ws :: l, i => by rw [numsE, numsE, numE_len h, numsE_len h l]
theorem Oth.chk {b : Bk} {bits : Nat} {rs : List Rw} (h : Oth b bits rs) (hb : (chkP b).2.2.1 = 0) : (chkP (rs, b.2.1, ())).2.2.1 = 0 := by
  have hv := VB_of hb
  have h8 := hv.r8
  have h6 := hv.n6
  have hok := chk_ok hb
  unfold chkP at hok ⊢
  rw [if_neg (by omega), rowsE_ok 0 hv.val] at hok
  rw [if_neg (show ¬ 8 < ((rs, b.2.1, ()) : Bk).1.length by show ¬ 8 < rs.length; rw [h.len]; omega), rowsE_ok (l := ((rs, b.2.1, ()) : Bk).1) 0 h.val]
  simp only [endR] at hok ⊢
  rw [if_neg (by omega)] at hok ⊢
  rw [numsE_len (b := b) (c := (rs, b.2.1, ())) h.len, hok]
/-- A number that has to do with no such row stays as it is. -/
theorem Oth.stay {b : Bk} {bits : Nat} {rs : List Rw} (h : Oth b bits rs) (hv : VB b) (hvc : VB (rs, b.2.1, ())) : ∀ n, n < b.2.1.length → (conR b bits (n + 1)).getD n false = false → (allP (rs, b.2.1, ()) (rowsN (rs, b.2.1, ()))).getD n fd0 = (allP b (rowsN b)).getD n fd0 := by
  intro n
  induction n using Nat.strongRecOn with
  | _ n ih =>
    intro hn hc
    have h6 := hv.n6
    rw [allN_at hvc _ hn, allN_at hv _ hn]
    congr 1
    unfold firstP
    congr 1
    refine List.map_congr_left fun w hw => ?_
    have hvw := hv.ways n hn w hw
    have hwc : conW b bits (conR b bits n) n w = false := by
      rw [conR_last, List.any_eq_false] at hc
      simpa using hc w hw
    unfold conW at hwc
    rw [Bool.or_eq_false_iff, List.any_eq_false, List.any_eq_false] at hwc
    obtain ⟨p, hp⟩ := Int.eq_ofNat_of_zero_le hvw.r0
    have h1 := hvw.r1
    rw [hp] at h1
    have h1 : p < 2 ^ b.1.length := by exact_mod_cast h1
    refine makesP_congr2 (fun i hi => ?_) (fun i hi => ?_)
    · have hil : i < b.1.length := by rw [hp, Int.toNat_natCast] at hi; exact bit_lt hi h1
      have hbit : bits.testBit i = false := by
        have := hwc.1 i (List.mem_range'_1.2 (by omega))
        rw [hi, Bool.true_and] at this
        simpa using this
      have hs := h.same i hbit
      refine ⟨?_, ?_⟩
      · rw [Int.toNat_natCast, Int.toNat_natCast, stand_bit, stand_bit, show ((rs, b.2.1, ()) : Bk).1 = rs from rfl, hs, h.len]
      · show (rs.getD i rw0).1 = _
        rw [hs]
    · have hin := hvw.bit hi
      refine ih i hin (by omega) ?_
      have := hwc.2 i (List.mem_range'_1.2 (by omega))
      rw [hi, Bool.true_and, Bool.not_eq_true] at this
      obtain ⟨c, hcc⟩ := Nat.le.dest (show i + 1 ≤ n by omega)
      rw [← hcc, conR_at b _ (by omega) c] at this
      exact this
theorem valA_ok (A : List Fd) (n : Nat) : (valA A n).2.1 = 0 ∨ (valA A n).2.1 = 8 := by
  rw [valA]
  simp only
  split
  · exact .inl rfl
  · exact .inr rfl
theorem L8 (b : Bk) (z : Int) (hz : 0 ≤ z ∧ z ≤ 255) (xs : List Int) (hx : ∀ v ∈ xs, 0 ≤ v ∧ v ≤ 255) : F8 ((b, z, xs, ()) : Bk × Int × List Int × Unit) = some (true, ()) := by
  refine ghost_eq (Ev.eq (fun _ => E8 _ _ _ _) ?_)
  obtain ⟨z, rfl⟩ := Int.eq_ofNat_of_zero_le hz.1
  rw [L39, L20, L24]
  simp only [Option.bind_some]
  by_cases h : (chkP b).2.2.1 = 0
  · have hv := VB_of h
    have h8 := hv.r8
    have h6 := hv.n6
    rw [h, dec_t (show b.1.length ≤ 2147483648 by omega)]
    simp only [beq_self_eq_true, Bool.not_true, cond_false, cond_true]
    have hcl := conR_len b z b.2.1.length
    have hat : ∀ n, n < b.2.1.length → (conR b z b.2.1.length).getD n false = (conR b z (n + 1)).getD n false := fun n hn => by
      obtain ⟨c, hc⟩ := Nat.le.dest (show n + 1 ≤ b.2.1.length by omega)
      rw [← hc, conR_at b _ (by omega) c]
    have last : ∀ rs, Oth b z rs → ∀ (c n : Nat), n + c = b.2.1.length → Ev fun k => iter cx49 S8 [.bool] 6000 k 1 K8_1 ((((), ((), (conR b z b.2.1.length, ((n : Int), ())))), ()), (b, (((), (b.2.1, ())), (rs, ())))) = some (true, ()) := by
      intro rs ho c
      have hc0 := ho.chk h
      have hvc := VB_of hc0
      induction c with
      | zero =>
        intro n hn
        refine iter_ev (Ev.eq (fun _ => Q8_1 _ _ _ _ _ _) ?_)
        rw [dec_f (by omega), L24]
        exact Ev.all fun _ => by first | rfl | trivial
      | succ c ih =>
        intro n hn
        refine iter_ev (Ev.eq (fun _ => Q8_1 _ _ _ _ _ _) ?_)
        have hnl : n < b.2.1.length := by omega
        have hih := ih (n + 1) (by omega)
        have hst := ho.stay hv hvc n hnl
        rw [dec_t (show (n : Int) < (b.2.1.length : Int) by omega), L20, L20, value_b h hnl, value_b (b := (rs, b.2.1, ())) hc0 hnl, wrap_succ (n := n) (by omega), dec_t (show (0 : Int) ≤ (n : Int) by omega), dec_t (show (n : Int) < ((conR b z b.2.1.length).length : Int) by omega), Int.toNat_natCast, hat n hnl]
        simp only [Option.bind_some, cond_true, Bool.and_self]
        have hcase : (bif !(conR b z (n + 1)).getD n false then bif (valA (allP b (rowsN b)) n).1 != (valA (allP (rs, b.2.1, ()) (rowsN (rs, b.2.1, ()))) n).1 then some (false, ()) else bif (valA (allP b (rowsN b)) n).2.1 != (valA (allP (rs, b.2.1, ()) (rowsN (rs, b.2.1, ()))) n).2.1 then some (false, ()) else none else none) = (none : Option (denL [.bool])) := by
          cases hcc : (conR b z (n + 1)).getD n false with
          | true => rfl
          | false =>
            have e : valA (allP (rs, b.2.1, ()) (rowsN (rs, b.2.1, ()))) n = valA (allP b (rowsN b)) n := by unfold valA; rw [hst hcc]
            rw [e, bne_self_eq_false, bne_self_eq_false]
            rfl
        have v1 := valA_ok (allP b (rowsN b)) n
        have v2 := valA_ok (allP (rs, b.2.1, ()) (rowsN (rs, b.2.1, ()))) n
        have e8 : ((8 : Int) != 8) = false := rfl
        have e0 : ((0 : Int) != 0) = false := rfl
        have e80 : ((8 : Int) != 0) = true := rfl
        cases hcc : (conR b z (n + 1)).getD n false with
        | true =>
          rcases v1 with v1 | v1 <;> rcases v2 with v2 | v2 <;> simp only [v1, v2, e8, e0, e80, cond_true, cond_false, Bool.not_true] <;> exact hih
        | false =>
          have e : valA (allP (rs, b.2.1, ()) (rowsN (rs, b.2.1, ()))) n = valA (allP b (rowsN b)) n := by unfold valA; rw [hst hcc]
          rw [e]
          rcases v1 with v1 | v1 <;> simp only [v1, e8, e0, e80, cond_true, cond_false, Bool.not_false, bne_self_eq_false] <;> exact hih
    have first : ∀ (c i : Nat) (rs : List Rw), i + c = b.1.length → Oth b z rs → Ev fun k => iter cx49 S8 [.bool] 6000 k 0 K8_0 ((((z : Int), (xs, ((), ((), ((i : Int), ()))))), ()), (b, (((), (b.2.1, ())), (rs, ())))) = some (true, ()) := by
      intro c
      induction c with
      | zero =>
        intro i rs hi ho
        refine iter_ev (Ev.eq (fun _ => Q8_0 _ _ _ _ _ _ _) ?_)
        rw [ho.len, dec_f (by omega), wrap_id (x := (z : Int)) (by omega) (by omega), L41 b hv z (by omega)]
        exact last rs ho b.2.1.length 0 (by omega)
      | succ c ih =>
        intro i rs hi ho
        refine iter_ev (Ev.eq (fun _ => Q8_0 _ _ _ _ _ _ _) ?_)
        have hil : i < b.1.length := by omega
        rw [ho.len, dec_t (show (i : Int) < (b.1.length : Int) by omega), wrap_id (x := (z : Int)) (by omega) (by omega), L41 b hv z (by omega), L40 z (by omega) i (by omega), wrap_succ (n := i) (by omega), dec_t (show (0 : Int) ≤ (i : Int) by omega), Int.toNat_natCast, dec_t hil]
        simp only [cond_true, Bool.and_self, Option.bind_some]
        by_cases hxl : xs.length = 0
        · rw [dec_f (show ¬ ((xs.length : Int) > 0) by omega)]
          exact last rs ho b.2.1.length 0 (by omega)
        · rw [dec_t (show (xs.length : Int) > 0 by omega)]
          simp only [cond_true]
          cases hb : z.testBit i with
          | false => exact ih (i + 1) rs (by omega) ho
          | true =>
            have hlt : i % xs.length < xs.length := Nat.mod_lt _ (by omega)
            have hvx := hx _ (List.getElem_mem hlt)
            rw [dec_f (show ¬ ((xs.length : Int) = 0) by omega), tmod_nat, dec_t (show (0 : Int) ≤ ((i % xs.length : Nat) : Int) by omega), dec_t (show ((i % xs.length : Nat) : Int) < (xs.length : Int) by omega), Int.toNat_natCast, getD_lt hlt, wrap_id (x := xs[i % xs.length]) (by omega) (by omega)]
            simp only [cond_true, cond_false, Bool.not_true, Bool.and_self]
            refine ih (i + 1) _ (by omega) ⟨by rw [List.length_set]; exact ho.len, fun j hj => ?_, fun r hr => ?_⟩
            · rw [getD_set' (by rw [ho.len]; exact hil), if_neg (fun e => by rw [← e, hb] at hj; cases hj)]
              exact ho.same j hj
            · rcases List.mem_or_eq_of_mem_set hr with hr | rfl
              · exact ho.val r hr
              · simp only
                rw [Int.tmod_eq_emod_of_nonneg hvx.1]
                omega
    exact first b.1.length 0 b.1 (by omega) ⟨rfl, fun _ _ => rfl, hv.val⟩
  · have hve : (valueP b 0).2.1 = (chkP b).2.2.1 := (show standE b 0 = (chkP b).2.2.1 by unfold standE; rw [enter_bad h, if_pos h])
    rw [hve, show ((chkP b).2.2.1 == 0) = false from beq_eq_false_iff_ne.2 h, bne_iff_ne.2 h]
    exact Ev.all fun _ => by first | rfl | trivial
end Go.Proofs.Ytallblpnlefpeaa
/- RowRows returns true for every input, and leaves it as it was. Conditions: none beyond the row's own. -/
namespace Go.Proofs.Ytallblpnlefpeaa
open Go Go.Gh Go.ChangeShapes Go.WideShapes Go.ChangeAt Go.RowKit

theorem rowRows_con : ConOK cx49 8 ⟨[tyB, .int .u8, .slice (.int .u8)], [.bool], F8⟩ := ghost_ok ok49 S8 6000 8 _ _

set_option maxRecDepth 100000 in
theorem rowRows_lifted (os : Os) (started : os.Started) (H : Type) (enc : TypeId × Value → H) :
    ReturnsInHanded {} Try.checked os 8 .any (Rows.rowRowsSpec.pre6 enc Try.prog Try.f8 Rows.rowRowsRow.domain false)
      (Rows.rowRowsSpec.post enc Try.prog Try.f8 false true false false) := by
  refine returnsInHanded_of_change (C := Try.checked) own1 started (by kernel_rfl) Try.func8
    (ChangeSpec.witness6 (enc := enc) (C := Try.checked) false ⟨#[], #[.agg #[.slice none 0 0, .slice none 0 0], .int .u8 0, .slice none 0 0], []⟩ 8 (by kernel_rfl) (by kernel_rfl) (by kernel_rfl) (by kernel_rfl)) ?_
  intro W base args ds gs before hval hW _ _
  exact law_contract rowRows_con laidOut1 (B := 4) (by kernel_rfl) (by kernel_rfl) (by kernel_rfl) (fun ds hds => by
    match ds, hds with
    | [d1, d2, d3], _ => exact ⟨rfl, rfl, rfl⟩) rfl (fun x hx => L8 x.1 x.2.1 (u8_in hx.2.1) x.2.2.1 (u8l_in hx.2.2.1)) hval hW (glob_ok W rfl)

theorem rowRows_holds : Rows.RowRowsSaid :=
  OpenClaim.holds_of_wide 8 Try.f8 rfl rfl rfl rfl rfl rfl rfl ⟨rfl, rfl, rfl, rfl, rfl⟩ rfl rfl rfl rfl rfl (by kernel_rfl) Try.func8 (by kernel_rfl)
    (of_decide_eq_true (by kernel_rfl)) (by unfold Func.isWrapper; first | (rw [if_pos (by decide +kernel)]; kernel_rfl) | (rw [if_neg (by decide +kernel)]; exact ⟨rfl, rfl⟩))
    (fun os started H enc _ => by
      rw [OpenClaim.pre_of_none rfl]
      exact rowRows_lifted os started H enc)
#print axioms rowRows_holds
end Go.Proofs.Ytallblpnlefpeaa
