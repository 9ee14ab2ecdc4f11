/- The reference's parts. Conditions: as each lemma states. -/
import Derived.Test.YtkhhbpocmmmnmaaTuN
import Derived.Test.YtkhhbpocmmmnmaaTuE
namespace Go.Proofs.Ytkhhbpocmmmnmaa
open Go Go.Gh Go.Proofs
open Go.Few
theorem L55 (x lo hi : Int) : F55 ((x, lo, hi, ()) : Int × Int × Int × Unit) = some (!notIn lo hi x, ()) := by
 refine N55 _ _ _ ?_
 unfold notIn
 by_cases h : lo ≤ x
 ·rw [dec_t h, dec_f (show ¬ x < lo by omega)]
  by_cases h2 : x ≤ hi
  ·rw [dec_t h2, dec_f (show ¬ x > hi by omega)]; exact Ev.all fun _ => by first | rfl | trivial
  ·rw [dec_f h2, dec_t (show x > hi by omega)]; exact Ev.all fun _ => by first | rfl | trivial
 ·rw [dec_f h, dec_t (show x < lo by omega)]; exact Ev.all fun _ => by first | rfl | trivial
def endsP (x : Sp) : Int := if (notIn 0 16 x.1 || notIn 0 16 x.2.1) = true then 7 else if x.1 > x.2.1 then 2 else 0
theorem L83 (x : Sp) : F83 ((x, 0, 16, ()) : Sp × Int × Int × Unit) = some (endsP x, ()) := by
 refine N83 _ _ _ ?_
 rw [L55, L55]
 simp only [Option.bind_some]
 unfold endsP
 cases notIn 0 16 x.1 with
 | true => exact Ev.all fun _ => by first | rfl | trivial
 | false =>
  cases notIn 0 16 x.2.1 with
  | true => exact Ev.all fun _ => by first | rfl | trivial
  | false =>
   by_cases h : x.1 > x.2.1
   ·rw [dec_t h, if_pos h]; exact Ev.all fun _ => by first | rfl | trivial
   ·rw [dec_f h, if_neg h]; exact Ev.all fun _ => by first | rfl | trivial
theorem L20_2 (s : Su) (h5 : s.2.2.1.length ≤ 5) (h3 : s.2.2.2.1.length ≤ 3) : ∀ (c i : Nat), i + c = s.2.2.2.1.length → Ev fun k => T20_2 i s k = some (match firstE (tErr s.2.2.1.length) (s.2.2.2.1.drop i) i with
  | some (i, e) => (4, (i : Int), e, ())
  | none => (0, 0, 0, ())) := by
 intro c
 induction c with
 | zero =>
  intro i hi
  refine R20_2 _ _ ?_
  rw [dec_f (by omega), List.drop_eq_nil_of_le (by omega)]
  exact Ev.all fun _ => by first | rfl | trivial
 | succ c ih =>
  intro i hi
  have hlt : i < s.2.2.2.1.length := by omega
  refine R20_2 _ _ ?_
  have ih := ih (i + 1) (by omega)
  rw [dec_t (show (i : Int) < (s.2.2.2.1.length : Int) by omega), dec_t (show (0 : Int) ≤ (i : Int) by omega), wrap_succ (n := i) (by omega), Int.toNat_natCast, getD_lt hlt, wrap_below (n := s.2.2.1.length) (by omega), List.drop_eq_getElem_cons hlt, L55, L55]
  simp only [Bool.and_self, cond_true, Option.bind_some, Bool.not_not]
  generalize s.2.2.2.1[i] = x
  rw [← outP_eq, ← outP_eq]
  cases c1 : outP s.2.2.1.length x.1 with
  | true =>
   have hf : tErr s.2.2.1.length x = 4 := by unfold tErr; rw [c1, Bool.true_or, if_pos rfl]
   rw [firstE_stop hf (by decide)]
   exact Ev.all fun _ => by first | rfl | trivial
  | false =>
   cases c2 : outP s.2.2.1.length x.2.1 with
   | true =>
    have hf : tErr s.2.2.1.length x = 4 := by unfold tErr; rw [c2, Bool.or_true, if_pos rfl]
    rw [firstE_stop hf (by decide)]
    exact Ev.all fun _ => by first | rfl | trivial
   | false =>
    by_cases he : x.1 = x.2.1
    ·have hf : tErr s.2.2.1.length x = 2 := by unfold tErr; rw [c1, c2, if_neg (by simp), if_pos he]
     rw [bq he, firstE_stop hf (by decide)]
     exact Ev.all fun _ => by first | rfl | trivial
    ·have hf : tErr s.2.2.1.length x = 0 := by unfold tErr; rw [c1, c2, if_neg (by simp), if_neg he]
     rw [bqf he, firstE_pass hf]
     exact ih
theorem L20_1 (s : Su) (h1 : s.1.length ≤ 3) (h5 : s.2.2.1.length ≤ 5) : ∀ (c i : Nat), i + c = s.2.2.1.length → Ev fun k => T20_1 i s k = some (match firstE (sErr s.1.length) (s.2.2.1.drop i) i with
  | some (i, e) => (3, (i : Int), e, ())
  | none => chkT s) := by
 intro c
 induction c with
 | zero =>
  intro i hi
  refine R20_1 _ _ ?_
  rw [dec_f (by omega), List.drop_eq_nil_of_le (by omega)]
  simp only [cond_false, firstE]
  unfold chkT
  by_cases h : s.2.2.2.1.length > 3
  ·rw [if_pos h, dec_t (show (s.2.2.2.1.length : Int) > 3 by omega)]
   exact Ev.all fun _ => by first | rfl | trivial
  ·rw [if_neg h, dec_f (show ¬ (s.2.2.2.1.length : Int) > 3 by omega)]
   have := L20_2 s h5 (by omega) s.2.2.2.1.length 0 (by omega)
   rw [List.drop_zero] at this
   exact this
 | succ c ih =>
  intro i hi
  have hlt : i < s.2.2.1.length := by omega
  refine R20_1 _ _ ?_
  have ih := ih (i + 1) (by omega)
  rw [dec_t (show (i : Int) < (s.2.2.1.length : Int) by omega), dec_t (show (0 : Int) ≤ (i : Int) by omega), wrap_succ (n := i) (by omega), Int.toNat_natCast, getD_lt hlt, wrap_below (n := s.1.length) (by omega), List.drop_eq_getElem_cons hlt, L55, L55, L55]
  simp only [Bool.and_self, cond_true, Option.bind_some, Bool.not_not]
  generalize s.2.2.1[i] = x
  rw [← outP_eq]
  cases c1 : notIn 0 30 x.1 with
  | true =>
   have hf : sErr s.1.length x = 7 := by unfold sErr; rw [if_pos c1]
   rw [firstE_stop hf (by decide)]
   exact Ev.all fun _ => by first | rfl | trivial
  | false =>
   cases c2 : notIn (-90) 90 x.2.2.1 with
   | true =>
    have hf : sErr s.1.length x = 7 := by unfold sErr; rw [if_neg (by rw [c1]; decide), if_pos c2]
    rw [firstE_stop hf (by decide)]
    exact Ev.all fun _ => by first | rfl | trivial
   | false =>
    cases c3 : outP s.1.length x.2.1 with
    | true =>
     have hf : sErr s.1.length x = 4 := by unfold sErr; rw [if_neg (by rw [c1]; decide), if_neg (by rw [c2]; decide), if_pos c3]
     rw [firstE_stop hf (by decide)]
     exact Ev.all fun _ => by first | rfl | trivial
    | false =>
     have hf : sErr s.1.length x = 0 := by unfold sErr; rw [if_neg (by rw [c1]; decide), if_neg (by rw [c2]; decide), if_neg (by rw [c3]; decide)]
     rw [firstE_pass hf]
     exact ih
theorem bErr_ends (x : Sp) : bErr x = if endsP x = 0 then (if x.2.1 > x.1 + 3 then 2 else 0) else endsP x := by
 unfold bErr endsP
 cases h : (notIn 0 16 x.1 || notIn 0 16 x.2.1) with
 | true => rfl
 | false =>
  simp only [Bool.false_eq_true, if_false]
  by_cases h1 : x.1 > x.2.1
  ·rw [if_pos h1, show notIn 0 3 (x.2.1 - x.1) = true from notIn_t.2 (by omega)]; rfl
  ·rw [if_neg h1, if_pos rfl]
   by_cases h2 : x.2.1 > x.1 + 3
   ·rw [if_pos h2, show notIn 0 3 (x.2.1 - x.1) = true from notIn_t.2 (by omega)]; rfl
   ·rw [if_neg h2, show notIn 0 3 (x.2.1 - x.1) = false from notIn_f.2 (by omega)]; rfl
theorem endsP_bd {x : Sp} (h : endsP x = 0) : 0 ≤ x.1 ∧ x.1 ≤ 16 := by
 unfold endsP at h
 cases h2 : (notIn 0 16 x.1 || notIn 0 16 x.2.1) with
 | true => rw [h2, if_pos rfl] at h; exact absurd h (by decide)
 | false =>
  rw [Bool.or_eq_false_iff, notIn_f] at h2
  exact h2.1
theorem L20 (s : Su) : F20 ((s, ()) : Su × Unit) = some (chkP s) := by
 refine N20 _ ?_
 rw [L55]
 simp only [Option.bind_some, Bool.not_not]
 unfold chkP
 by_cases hl : s.1.length < 1 ∨ s.1.length > 3
 ·rw [if_pos hl, show notIn 1 3 (s.1.length : Int) = true from notIn_t.2 (by omega)]
  exact Ev.all fun _ => by first | rfl | trivial
 ·rw [if_neg hl, show notIn 1 3 (s.1.length : Int) = false from notIn_f.2 (by omega)]
  simp only [cond_false]
  have key : ∀ (c i : Nat), i + c = s.1.length → Ev fun k => T20_0 i s k = some (match firstE bErr (s.1.drop i) i with
    | some (i, e) => (1, (i : Int), e, ())
    | none => chkO s) := by
   intro c
   induction c with
   | zero =>
    intro i hi
    refine R20_0 _ _ ?_
    rw [dec_f (by omega), List.drop_eq_nil_of_le (by omega)]
    simp only [cond_false, firstE]
    rw [L55]
    simp only [Option.bind_some, Bool.not_not]
    unfold chkO chkS
    cases notIn 0 9 s.2.1 with
    | true => exact Ev.all fun _ => by first | rfl | trivial
    | false =>
     simp only [cond_false, Bool.false_eq_true, if_false]
     by_cases h : s.2.2.1.length > 5
     ·rw [if_pos h, dec_t (show (s.2.2.1.length : Int) > 5 by omega)]
      exact Ev.all fun _ => by first | rfl | trivial
     ·rw [if_neg h, dec_f (show ¬ (s.2.2.1.length : Int) > 5 by omega)]
      have := L20_1 s (by omega) (by omega) s.2.2.1.length 0 (by omega)
      rw [List.drop_zero] at this
      exact this
   | succ c ih =>
    intro i hi
    have hlt : i < s.1.length := by omega
    refine R20_0 _ _ ?_
    have ih := ih (i + 1) (by omega)
    rw [dec_t (show (i : Int) < (s.1.length : Int) by omega), dec_t (show (0 : Int) ≤ (i : Int) by omega), wrap_succ (n := i) (by omega), Int.toNat_natCast, getD_lt hlt, List.drop_eq_getElem_cons hlt, L83]
    simp only [Bool.and_self, cond_true, Option.bind_some]
    generalize s.1[i] = x
    by_cases he : endsP x = 0
    ·have hb := endsP_bd he
     rw [bq he, wrap_id (x := x.1 + 3) (by omega) (by omega)]
     by_cases hu : x.2.1 > x.1 + 3
     ·have hf : bErr x = 2 := by rw [bErr_ends, if_pos he, if_pos hu]
      rw [dec_t hu, firstE_stop hf (by decide)]
      exact Ev.all fun _ => by first | rfl | trivial
     ·have hf : bErr x = 0 := by rw [bErr_ends, if_pos he, if_neg hu]
      rw [dec_f hu, nbq he, firstE_pass hf]
      exact ih
    ·have hf : bErr x = endsP x := by rw [bErr_ends, if_neg he]
     rw [bqf he, nbqf he, firstE_stop hf he]
     exact Ev.all fun _ => by first | rfl | trivial
  have := key s.1.length 0 (by omega)
  rw [List.drop_zero] at this
  exact this
def RB (r : List Int) : Prop := ∀ v ∈ r, 0 ≤ v ∧ v ≤ 16
theorem RB.at {r : List Int} (h : RB r) (i : Nat) : 0 ≤ r.getD i 0 ∧ r.getD i 0 ≤ 16 := by
 rw [List.getD_eq_getElem?_getD]
 cases hq : r[i]? with
 | none => simp
 | some x => exact h x (List.mem_of_getElem? hq)
def inL (l : List Int) (i : Nat) : Bool := decide ((i : Int) ∈ l)
end Go.Proofs.Ytkhhbpocmmmnmaa
/- The reference's lists: rates, ways to part, truths. Conditions: as each lemma states. -/
namespace Go.Proofs.Ytkhhbpocmmmnmaa
open Go Go.Gh Go.Proofs
open Go.Few
def rNext (s : Su) (i : Nat) (p : List Int) : List (List Int) := ((upto (s.1.getD i sp0).1 ((s.1.getD i sp0).2.1 + 1)).filter fun v => i == 0 || decide (v ≤ p.getD (i - 1) 0)).map fun v => p ++ [v]
theorem rLev_succ (s : Su) (i : Nat) : rLev s (i + 1) = (rLev s i).flatMap (rNext s i) := rfl
def gNext (i : Nat) (p : List Int) : List (List Int) := ((List.range (i + 1)).filter fun k : Nat => k == i || p.getD k 0 == (k : Int)).map fun k : Nat => p ++ [(k : Int)]
theorem gLev_succ (i : Nat) : gLev (i + 1) = (gLev i).flatMap (gNext i) := rfl
abbrev Tr := List Int × List Int × Unit
def trU (t : List Int × List Int) : Tr := (t.1, t.2, ())
def truNext (s : Su) (but : Nat → Bool) (r : List Int) : List Tr := ((gLev s.2.2.1.length).filter fun g => soP s but g && fitsP (canP s r) g).map fun g => (r, g, ())
def refT (s : Su) (but : Nat → Bool) : List Tr := (rLev s s.1.length).flatMap (truNext s but)
theorem refT_eq (s : Su) (but : Nat → Bool) : refT s but = (refTruths s but).map trU := by
 unfold refT refTruths truNext trU
 rw [map_flatMap]
 refine flatMap_same fun r _ => ?_
 rw [List.map_map]
 rfl
end Go.Proofs.Ytkhhbpocmmmnmaa
