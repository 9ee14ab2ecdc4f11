/- The states at the cuts of the reference (b). Conditions: none (abbreviations). -/
import Derived.Test.YtkbephbhajplhaaDoorCyR
import Derived.Test.YtkbephbhajplhaaDoorGhI
import Derived.Test.YtkbephbhajplhaaDoorCyN
namespace Go.Proofs.YtkbephbhajplhaaDoor
open Go Go.Gh Go.Proofs
noncomputable abbrev T31_0 (t2 : Int) (t12 : (List (List Int))) (t14 : Int) (h0 : Se) (h1 : Sp) (h2 : (List Int)) (f : Nat) : Option (denL [(.slice (.int .i64)), (.int .i64)]) := iter cx49 S31 [(.slice (.int .i64)), (.int .i64)] 6000 f 0 K31_0 (((t2, ((), ((), (t12, ((), (t14, ())))))), ()), (h0, (h1, (h2, ()))))
theorem U31_0 (t2 : Int) (t12 : (List (List Int))) (t14 : Int) (h0 : Se) (h1 : Sp) (h2 : (List Int)) {y : denL [(.slice (.int .i64)), (.int .i64)]} (h : Ev fun k => seg cx49 S31 [(.slice (.int .i64)), (.int .i64)] 6000 some (iter cx49 S31 [(.slice (.int .i64)), (.int .i64)] 6000 k) 0 K31_0 (((t2, ((), ((), (t12, ((), (t14, ())))))), ()), (h0, (h1, (h2, ())))) = some y) : Ev fun k => T31_0 t2 t12 t14 h0 h1 h2 k = some y := iter_ev h
noncomputable abbrev T31_1 (t2 : Int) (t12 : (List (List Int))) (t14 : Int) (t15 : Bool) (t16 : Int) (h0 : Se) (h1 : Sp) (h2 : (List Int)) (f : Nat) : Option (denL [(.slice (.int .i64)), (.int .i64)]) := iter cx49 S31 [(.slice (.int .i64)), (.int .i64)] 6000 f 1 K31_1 (((t2, ((), ((), (t12, ((), (t14, (t15, (t16, ())))))))), ()), (h0, (h1, (h2, ()))))
theorem U31_1 (t2 : Int) (t12 : (List (List Int))) (t14 : Int) (t15 : Bool) (t16 : Int) (h0 : Se) (h1 : Sp) (h2 : (List Int)) {y : denL [(.slice (.int .i64)), (.int .i64)]} (h : Ev fun k => seg cx49 S31 [(.slice (.int .i64)), (.int .i64)] 6000 some (iter cx49 S31 [(.slice (.int .i64)), (.int .i64)] 6000 k) 1 K31_1 (((t2, ((), ((), (t12, ((), (t14, (t15, (t16, ())))))))), ()), (h0, (h1, (h2, ())))) = some y) : Ev fun k => T31_1 t2 t12 t14 t15 t16 h0 h1 h2 k = some y := iter_ev h
end Go.Proofs.YtkbephbhajplhaaDoor
/- The equations at the cuts of the reference, with the states' names (b). Conditions: none. (Printed by rest.py.) -/
namespace Go.Proofs.YtkbephbhajplhaaDoor
open Go Go.Gh Go.Proofs
theorem N49 (t0 : (List Int)) (t1 : Int) (t2 : Sp) (t3 : Int) {y : denL [.bool]} (h : Ev fun _ =>
  (bif decide (0 ≤ t1) && decide (t1 < (↑(List.length t0) : Int)) then
  Option.bind (F42 (List.getD t0 (Int.toNat t1) 0, t2, ())) fun (y : Bool × Unit) =>
    bif !Prod.fst y then some (false, ())
    else
      bif t3 == 1 then
        bif decide (t1 > 0) then
          bif decide (0 ≤ t1) && decide (t1 < (↑(List.length t0) : Int)) then
            bif decide (0 ≤ if IntKind.wrap IntKind.i64 (t1 - 1) > 0 then IntKind.wrap IntKind.i64 (t1 - 1) else 0) && decide ((if IntKind.wrap IntKind.i64 (t1 - 1) > 0 then IntKind.wrap IntKind.i64 (t1 - 1) else 0) < (↑(List.length t0) : Int)) then
              some (decide (List.getD t0 (Int.toNat t1) 0 > List.getD t0 (Int.toNat (if IntKind.wrap IntKind.i64 (t1 - 1) > 0 then IntKind.wrap IntKind.i64 (t1 - 1) else 0)) 0), ())
            else none
          else none
        else some (false, ())
      else
        bif t3 == 2 then
          bif decide (t1 > 0) then
            bif decide (0 ≤ t1) && decide (t1 < (↑(List.length t0) : Int)) then
              bif decide (0 ≤ if IntKind.wrap IntKind.i64 (t1 - 1) > 0 then IntKind.wrap IntKind.i64 (t1 - 1) else 0) && decide ((if IntKind.wrap IntKind.i64 (t1 - 1) > 0 then IntKind.wrap IntKind.i64 (t1 - 1) else 0) < (↑(List.length t0) : Int)) then
                some (decide (List.getD t0 (Int.toNat t1) 0 < List.getD t0 (Int.toNat (if IntKind.wrap IntKind.i64 (t1 - 1) > 0 then IntKind.wrap IntKind.i64 (t1 - 1) else 0)) 0), ())
              else none
            else none
          else some (false, ())
        else some (true, ())
  else none : Option (denL [.bool])) = some y) : F49 (t0, (t1, (t2, (t3, ())))) = some y := ghost_eq (Ev.eq (fun _ => E49 _ _ _ _ _) h)
theorem R31_0 (t2 : Int) (t12 : (List (List Int))) (t14 : Int) (h0 : Se) (h1 : Sp) (h2 : (List Int)) {y : denL [(.slice (.int .i64)), (.int .i64)]} (h : Ev fun k =>
  (bif decide (t14 < (↑(List.length (Prod.fst h0)) : Int)) then T31_1 t2 t12 t14 false 0 h0 h1 h2 k else some (h2, 0, ()) : Option (denL [(.slice (.int .i64)), (.int .i64)])) = some y) : Ev fun k => T31_0 t2 t12 t14 h0 h1 h2 k = some y := U31_0 _ _ _ _ _ _ (Ev.eq (fun _ => Q31_0 _ _ _ _ _ _ _) h)
theorem R31_1 (t2 : Int) (t12 : (List (List Int))) (t14 : Int) (t15 : Bool) (t16 : Int) (h0 : Se) (h1 : Sp) (h2 : (List Int)) {y : denL [(.slice (.int .i64)), (.int .i64)]} (h : Ev fun k =>
  (bif decide (t16 < (↑(List.length t12) : Int)) then
  bif t15 then T31_1 t2 t12 t14 true (IntKind.wrap IntKind.i64 (t16 + 1)) h0 h1 h2 k
  else bif decide (0 ≤ t16) && decide (t16 < (↑(List.length t12) : Int)) then Option.bind (F49 (List.getD t12 (Int.toNat t16) [], t14, h1, t2, ())) fun (y : Bool × Unit) => T31_1 t2 t12 t14 (Prod.fst y) (IntKind.wrap IntKind.i64 (t16 + 1)) h0 h1 h2 k else none
  else bif t15 then bif decide (List.length h2 + List.length (List.set (List.replicate 1 0) 0 t14) ≤ 2147483648) then T31_0 t2 t12 (IntKind.wrap IntKind.i64 (t14 + 1)) h0 h1 (h2 ++ List.set (List.replicate 1 0) 0 t14) k else none else T31_0 t2 t12 (IntKind.wrap IntKind.i64 (t14 + 1)) h0 h1 h2 k : Option (denL [(.slice (.int .i64)), (.int .i64)])) = some y) : Ev fun k => T31_1 t2 t12 t14 t15 t16 h0 h1 h2 k = some y := U31_1 _ _ _ _ _ _ _ _ (Ev.eq (fun _ => Q31_1 _ _ _ _ _ _ _ _ _) h)
theorem N31 (t0 : Se) (t1 : Sp) (t2 : Int) {y : denL [(.slice (.int .i64)), (.int .i64)]} (h : Ev fun k =>
  (Option.bind (F18 (t0, ())) fun (y : Int × Int × Int × Unit) =>
  Option.bind (F86 (t1, 0, 99, ())) fun (y_1 : Int × Unit) =>
    bif Prod.fst (Prod.snd (Prod.snd y)) == 0 then
      bif Prod.fst y_1 == 7 then Option.bind (F90 (t0, 7, ())) fun (y : List (List Int) × Int × Unit) => bif Prod.fst (Prod.snd y) != 0 then some ([], Prod.fst (Prod.snd y), ()) else T31_0 t2 (Prod.fst y) 0 t0 t1 ([]) k
      else
        Option.bind (F85 (t2, 0, 2, ())) fun (y_2 : Bool × Unit) =>
          bif !Prod.fst y_2 then Option.bind (F90 (t0, 7, ())) fun (y : List (List Int) × Int × Unit) => bif Prod.fst (Prod.snd y) != 0 then some ([], Prod.fst (Prod.snd y), ()) else T31_0 t2 (Prod.fst y) 0 t0 t1 ([]) k
          else
            bif Prod.fst (Prod.snd (Prod.snd y)) == 0 then Option.bind (F90 (t0, Prod.fst y_1, ())) fun (y : List (List Int) × Int × Unit) => bif Prod.fst (Prod.snd y) != 0 then some ([], Prod.fst (Prod.snd y), ()) else T31_0 t2 (Prod.fst y) 0 t0 t1 ([]) k
            else Option.bind (F90 (t0, Prod.fst (Prod.snd (Prod.snd y)), ())) fun (y : List (List Int) × Int × Unit) => bif Prod.fst (Prod.snd y) != 0 then some ([], Prod.fst (Prod.snd y), ()) else T31_0 t2 (Prod.fst y) 0 t0 t1 ([]) k
    else
      bif Prod.fst (Prod.snd (Prod.snd y)) == 0 then Option.bind (F90 (t0, Prod.fst y_1, ())) fun (y : List (List Int) × Int × Unit) => bif Prod.fst (Prod.snd y) != 0 then some ([], Prod.fst (Prod.snd y), ()) else T31_0 t2 (Prod.fst y) 0 t0 t1 ([]) k
      else Option.bind (F90 (t0, Prod.fst (Prod.snd (Prod.snd y)), ())) fun (y : List (List Int) × Int × Unit) => bif Prod.fst (Prod.snd y) != 0 then some ([], Prod.fst (Prod.snd y), ()) else T31_0 t2 (Prod.fst y) 0 t0 t1 ([]) k : Option (denL [(.slice (.int .i64)), (.int .i64)])) = some y) : F31 (t0, (t1, (t2, ()))) = some y := ghost_eq (Ev.eq (fun _ => E31 _ _ _ _) h)
end Go.Proofs.YtkbephbhajplhaaDoor
/- The reference's 'Turns', 'Gaps' and 'Next' are the program's. Conditions: as each lemma states. -/
namespace Go.Proofs.YtkbephbhajplhaaDoor
open Go Go.Gh Go.Proofs
theorem known_nil (s : Se) : (knownP s (chkP s).2.2.1).2.1 = errP s 0 [] := by
  unfold knownP errP
  by_cases hc : (chkP s).2.2.1 = 0
  · rw [if_pos hc, if_pos hc]
    simp only [List.any_nil, Bool.false_eq_true, if_false, if_true]
    by_cases ht : truthsR s 0 = []
    · rw [if_pos ht, if_pos ((truths_none (chk_zero hc)).2 ht)]
    · rw [if_neg ht, if_neg (fun h => ht ((truths_none (chk_zero hc)).1 h))]
  · rw [if_neg hc, if_neg hc]
end Go.Proofs.YtkbephbhajplhaaDoor
/- The reference's 'Next' and 'Wreck' are the program's. Conditions: as each lemma states. -/
namespace Go.Proofs.YtkbephbhajplhaaDoor
open Go Go.Gh Go.Proofs
theorem L49 (q : List Int) (m : Nat) (x : Sp) (seen : Nat) (hm : m < q.length) (h7 : q.length ≤ 7) (hs : seen ≤ 2) (hb : ∀ v ∈ q, 0 ≤ v ∧ v ≤ 99) : F49 ((q, (m : Int), x, (seen : Int), ()) : List Int × Int × Sp × Int × Unit) = some (metAt x seen q m, ()) := by
  refine N49 _ _ _ _ ?_
  rw [dec_t (show (0 : Int) ≤ (m : Int) by omega), dec_t (show (m : Int) < (q.length : Int) by omega), Int.toNat_natCast, L42]
  simp only [Bool.and_self, cond_true, Option.bind_some]
  unfold metAt metP
  cases inGap x (q.getD m 0) with
  | false => exact Ev.all fun _ => rfl
  | true =>
    have h3 : seen = 0 ∨ seen = 1 ∨ seen = 2 := by omega
    have hx : ∀ j, j < q.length → 0 ≤ q.getD j 0 := fun j hj => by rw [getD_lt hj]; exact (hb _ (List.getElem_mem hj)).1
    rcases h3 with rfl | rfl | rfl
    · exact Ev.all fun _ => rfl
    · rw [show (((1 : Nat) : Int) == 1) = true from rfl]
      simp only [Bool.not_true, cond_false, cond_true, Bool.true_and]
      by_cases h0 : m = 0
      · subst h0
        rw [dec_f (show ¬ ((0 : Nat) : Int) > 0 by omega), if_pos rfl, dec_f (show ¬ (-1 : Int) ≥ 0 by omega)]
        exact Ev.all fun _ => rfl
      · have e : (if IntKind.wrap IntKind.i64 ((m : Int) - 1) > 0 then IntKind.wrap IntKind.i64 ((m : Int) - 1) else 0) = ((m - 1 : Nat) : Int) := by
          rw [wrap_pred (n := m) (by omega) (by omega)]; split <;> omega
        rw [e, dec_t (show (m : Int) > 0 by omega), dec_t (show (0 : Int) ≤ ((m - 1 : Nat) : Int) by omega), dec_t (show ((m - 1 : Nat) : Int) < (q.length : Int) by omega), Int.toNat_natCast, if_neg h0, dec_t (show q.getD (m - 1) 0 ≥ 0 from hx _ (by omega))]
        exact Ev.all fun _ => rfl
    · rw [show (((2 : Nat) : Int) == 1) = false from rfl, show (((2 : Nat) : Int) == 2) = true from rfl]
      simp only [Bool.not_true, cond_false, cond_true, Bool.true_and]
      by_cases h0 : m = 0
      · subst h0
        have := hx 0 hm
        rw [dec_f (show ¬ ((0 : Nat) : Int) > 0 by omega), if_pos rfl, dec_f (show ¬ (-1 : Int) > q.getD 0 0 by omega)]
        exact Ev.all fun _ => rfl
      · have e : (if IntKind.wrap IntKind.i64 ((m : Int) - 1) > 0 then IntKind.wrap IntKind.i64 ((m : Int) - 1) else 0) = ((m - 1 : Nat) : Int) := by
          rw [wrap_pred (n := m) (by omega) (by omega)]; split <;> omega
        rw [e, dec_t (show (m : Int) > 0 by omega), dec_t (show (0 : Int) ≤ ((m - 1 : Nat) : Int) by omega), dec_t (show ((m - 1 : Nat) : Int) < (q.length : Int) by omega), Int.toNat_natCast, if_neg h0]
        exact Ev.all fun _ => rfl
theorem met_pad {s : Se} {q : List Int} (hq : q.length = s.1.length) (x : Sp) (seen i : Nat) (hi : i < s.1.length) : metAt x seen (pad q) i = metAt x seen q i := by
  have g : ∀ j, j < s.1.length → (pad q).getD j 0 = q.getD j 0 := fun j hj => by
    unfold pad
    rw [List.getD_eq_getElem?_getD, List.getD_eq_getElem?_getD, List.getElem?_append_left (by omega)]
  unfold metAt
  rw [g i hi]
  by_cases h0 : i = 0
  · rw [if_pos h0, if_pos h0]
  · rw [if_neg h0, if_neg h0, g (i - 1) (by omega)]
theorem any_congr' {α : Type} {p q : α → Bool} {l : List α} (h : ∀ a ∈ l, p a = q a) : l.any p = l.any q := by
  induction l with
  | nil => rfl
  | cons a l ih => rw [List.any_cons, List.any_cons, h a (by simp), ih fun b hb => h b (by simp [hb])]
def werP (s : Se) (x : Sp) (seen : Int) : Int := if (chkP s).2.2.1 = 0 then (if endsP x 0 99 = 7 ∨ seen < 0 ∨ seen > 2 then 7 else endsP x 0 99) else (chkP s).2.2.1
theorem known_wreck (s : Se) (x : Sp) (seen : Int) : (knownP s (werP s x seen)).2.1 = errP s (wErr x seen) [] := by
  have nz : ∀ e : Int, e ≠ 0 → (knownP s e).2.1 = e := fun e he => by
    unfold knownP
    rw [if_neg he]
  have pe : ∀ e : Int, e ≠ 0 → (chkP s).2.2.1 = 0 → errP s e [] = e := fun e he hc => by
    unfold errP
    rw [if_pos hc, if_neg (by simp), if_neg he]
  by_cases hc : (chkP s).2.2.1 = 0
  · by_cases hr : seen < 0 ∨ seen > 2
    · have e1 : werP s x seen = 7 := by unfold werP; rw [if_pos hc, if_pos (.inr hr)]
      have e2 : wErr x seen = 7 := if_pos hr
      rw [e1, e2, nz 7 (by decide), pe 7 (by decide) hc]
    · have e2 : wErr x seen = endsP x 0 99 := if_neg hr
      by_cases h7 : endsP x 0 99 = 7
      · have e1 : werP s x seen = 7 := by unfold werP; rw [if_pos hc, if_pos (.inl h7)]
        rw [e1, e2, h7, nz 7 (by decide), pe 7 (by decide) hc]
      · have e1 : werP s x seen = endsP x 0 99 := by unfold werP; rw [if_pos hc, if_neg (fun h => h.elim h7 hr)]
        rw [e1, e2]
        by_cases h0 : endsP x 0 99 = 0
        · rw [h0]
          have := known_nil s
          rw [hc] at this
          exact this
        · rw [nz _ h0, pe _ h0 hc]
  · have e1 : werP s x seen = (chkP s).2.2.1 := by unfold werP; rw [if_neg hc]
    rw [e1, nz _ hc]
    unfold errP
    rw [if_neg hc]
theorem L31 (s : Se) (x : Sp) (seen : Int) : F31 ((s, x, seen, ()) : Se × Sp × Int × Unit) = some (wreckP s x seen) := by
  refine N31 _ _ _ ?_
  rw [L18 s, L86]
  simp only [Option.bind_some]
  have tail : ∀ (e : Int), werP s x seen = e → Ev fun k => ((Option.bind (F90 ((s, e, ()) : Se × Int × Unit)) fun (y : List (List Int) × Int × Unit) => bif y.2.1 != 0 then some ([], y.2.1, ()) else T31_0 seen y.1 0 s x [] k : Option (denL [(.slice (.int .i64)), (.int .i64)]))) = some (wreckP s x seen) := by
    intro e hm
    have hz : e = 0 → VS s := fun h => by
      rw [← hm] at h
      unfold werP at h
      by_cases hc : (chkP s).2.2.1 = 0
      · exact chk_zero hc
      · rw [if_neg hc] at h; exact absurd h hc
    rw [L90 s e hz]
    simp only [Option.bind_some]
    have hk := known_wreck s x seen
    rw [hm] at hk
    by_cases he : errP s (wErr x seen) [] = 0
    · rw [he] at hk
      obtain ⟨h0, ht, e1⟩ := known_ok hk
      have hs := hz h0
      have h7 := hs.hi
      have hse : 0 ≤ seen ∧ seen ≤ 2 := by
        rw [← hm] at h0
        unfold werP at h0
        by_cases hc : (chkP s).2.2.1 = 0
        · rw [if_pos hc] at h0
          by_cases hr : endsP x 0 99 = 7 ∨ seen < 0 ∨ seen > 2
          · rw [if_pos hr] at h0; omega
          · omega
        · rw [if_neg hc] at h0; exact absurd h0 hc
      obtain ⟨sn, rfl⟩ := Int.eq_ofNat_of_zero_le hse.1
      have hlen := truthsR_len hs 0
      have hwf : ∀ t ∈ truthsR s 0, t.length = s.1.length ∧ (∀ x ∈ t, 0 ≤ x ∧ x ≤ 99) := fun t h => truthsR_wf hs h
      have hv : wreckP s x (sn : Int) = (numsL (fun i => (truthsR s 0).any fun t => metAt x sn t i) s.1.length, 0, ()) := by
        unfold wreckP
        rw [if_pos he, Int.toNat_natCast]
        congr 1
        refine numsL_congr fun i hi => ?_
        rw [truths_eq hs 0, List.any_map]
        exact any_congr' fun t ht => met_pad (hwf t ht).1 x sn i hi
      rw [e1, hv]
      simp only [bne_self_eq_false, cond_false]
      generalize truthsR s 0 = A at hlen hwf
      have outer : ∀ (c i : Nat), i + c = s.1.length → Ev fun k => T31_0 sn A i s x (numsL (fun i => A.any fun t => metAt x sn t i) i) k = some (numsL (fun i => A.any fun t => metAt x sn t i) s.1.length, 0, ()) := by
        intro c
        induction c with
        | zero =>
          intro i hi
          obtain rfl : i = s.1.length := by omega
          refine R31_0 _ _ _ _ _ _ ?_
          rw [dec_f (by omega)]
          exact Ev.all fun _ => rfl
        | succ c ih =>
          intro i hi
          have ih := ih (i + 1) (by omega)
          have hP := numsL_len (fun i => A.any fun t => metAt x sn t i) i
          rw [numsL_succ] at ih
          generalize numsL (fun i => A.any fun t => metAt x sn t i) i = P at ih hP
          refine R31_0 _ _ _ _ _ _ ?_
          rw [dec_t (show (i : Int) < (s.1.length : Int) by omega)]
          simp only [cond_true]
          have inner : ∀ (d j : Nat) (b : Bool), j + d = A.length → (b || (A.drop j).any fun t => metAt x sn t i) = (A.any fun t => metAt x sn t i) → Ev fun k => T31_1 sn A i b j s x P k = some (numsL (fun i => A.any fun t => metAt x sn t i) s.1.length, 0, ()) := by
            intro d
            induction d with
            | zero =>
              intro j b hj hb
              rw [List.drop_eq_nil_of_le (by omega), List.any_nil, Bool.or_false] at hb
              refine R31_1 _ _ _ _ _ _ _ _ ?_
              rw [dec_f (by omega), one_set, dec_t (show P.length + [(i : Int)].length ≤ 2147483648 by simp only [List.length_cons, List.length_nil]; omega), wrap_succ (n := i) (by omega)]
              simp only [cond_true, cond_false]
              rw [← hb] at ih
              cases b with
              | true => exact ih
              | false => exact ih
            | succ d ihd =>
              intro j b hj hb
              have hlt : j < A.length := by omega
              have hq := hwf _ (List.getElem_mem hlt)
              rw [List.drop_eq_getElem_cons hlt, List.any_cons] at hb
              refine R31_1 _ _ _ _ _ _ _ _ ?_
              rw [dec_t (show (j : Int) < (A.length : Int) by omega), dec_t (show (0 : Int) ≤ (j : Int) by omega), Int.toNat_natCast, getD_lt hlt, wrap_succ (n := j) (by omega), L49 _ i x sn (by omega) (by omega) (by omega) hq.2]
              simp only [Bool.and_self, cond_true, Option.bind_some]
              cases b with
              | true => exact ihd (j + 1) true (by omega) (by rw [← hb]; simp)
              | false => exact ihd (j + 1) _ (by omega) (by rw [← hb, Bool.false_or])
          exact inner A.length 0 false (by omega) (by rw [List.drop_zero, Bool.false_or])
      exact outer s.1.length 0 (by omega)
    · have hv : wreckP s x seen = ([], errP s (wErr x seen) [], ()) := if_neg he
      rw [hv, ← hk, show ((knownP s e).2.1 != 0) = true from bne_iff_ne.2 (by rw [hk]; exact he)]
      exact Ev.all fun _ => rfl
  unfold werP at tail
  by_cases hc : (chkP s).2.2.1 = 0
  · rw [if_pos hc] at tail
    rw [hc]
    simp only [beq_self_eq_true, cond_true]
    by_cases h7 : endsP x 0 99 = 7
    · rw [if_pos (.inl h7)] at tail
      rw [h7]
      exact tail 7 rfl
    · rw [show (endsP x 0 99 == 7) = false from beq_eq_false_iff_ne.2 h7]
      simp only [cond_false]
      rw [L85]
      simp only [Option.bind_some]
      by_cases hr : seen < 0 ∨ seen > 2
      · rw [if_pos (.inr hr)] at tail
        have : (decide (0 ≤ seen) && decide (seen ≤ 2)) = false := by
          rw [Bool.and_eq_false_iff, decide_eq_false_iff_not, decide_eq_false_iff_not]; omega
        rw [this]
        exact tail 7 rfl
      · rw [if_neg (fun h => h.elim h7 hr)] at tail
        rw [dec_t (show 0 ≤ seen by omega), dec_t (show seen ≤ 2 by omega)]
        exact tail _ rfl
  · rw [if_neg hc] at tail
    rw [show ((chkP s).2.2.1 == 0) = false from beq_eq_false_iff_ne.2 hc]
    exact tail _ rfl
end Go.Proofs.YtkbephbhajplhaaDoor
