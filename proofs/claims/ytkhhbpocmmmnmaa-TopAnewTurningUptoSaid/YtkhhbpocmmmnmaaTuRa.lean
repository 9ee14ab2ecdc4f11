/- The reference's parts. Conditions: as each lemma states. -/
import Derived.Test.YtkhhbpocmmmnmaaTuN
import Derived.Test.YtkhhbpocmmmnmaaTuE
namespace Go.Proofs.Ytkhhbpocmmmnmaa
open Go Go.Gh Go.Proofs
open Go.Few
theorem L55 (x lo hi : Int) : F55 ((x, lo, hi, ()) : Int × Int × Int × Unit) = some (!notIn lo hi x, ()) := by
 refine N55 _ _ _ ?_
 unfold notIn
 by_cases h : lo ≤ x
 ·rw [dec_t h, dec_f (show ¬ x < lo by omega)]
  by_cases h2 : x ≤ hi
  ·rw [dec_t h2, dec_f (show ¬ x > hi by omega)]; exact Ev.all fun _ => by first | rfl | trivial
  ·rw [dec_f h2, dec_t (show x > hi by omega)]; exact Ev.all fun _ => by first | rfl | trivial
 ·rw [dec_f h, dec_t (show x < lo by omega)]; exact Ev.all fun _ => by first | rfl | trivial
theorem L20_2 (s : Su) (h5 : s.2.2.1.length ≤ 5) (h3 : s.2.2.2.1.length ≤ 3) : ∀ (c i : Nat), i + c = s.2.2.2.1.length → Ev fun k => T20_2 i s k = some (match firstE (tErr s.2.2.1.length) (s.2.2.2.1.drop i) i with
  | some (i, e) => (4, (i : Int), e, ())
  | none => (0, 0, 0, ())) := by
 intro c
 induction c with
 | zero =>
  intro i hi
  refine R20_2 _ _ ?_
  rw [dec_f (by omega), List.drop_eq_nil_of_le (by omega)]
  exact Ev.all fun _ => by first | rfl | trivial
 | succ c ih =>
  intro i hi
  have hlt : i < s.2.2.2.1.length := by omega
  refine R20_2 _ _ ?_
  have ih := ih (i + 1) (by omega)
  rw [dec_t (show (i : Int) < (s.2.2.2.1.length : Int) by omega), dec_t (show (0 : Int) ≤ (i : Int) by omega), wrap_succ (n := i) (by omega), Int.toNat_natCast, getD_lt hlt, wrap_below (n := s.2.2.1.length) (by omega), List.drop_eq_getElem_cons hlt, L55, L55]
  simp only [Bool.and_self, cond_true, Option.bind_some, Bool.not_not]
  generalize s.2.2.2.1[i] = x
  rw [← outP_eq, ← outP_eq]
  cases c1 : outP s.2.2.1.length x.1 with
  | true =>
   have hf : tErr s.2.2.1.length x = 4 := by unfold tErr; rw [c1, Bool.true_or, if_pos rfl]
   rw [firstE_stop hf (by decide)]
   exact Ev.all fun _ => by first | rfl | trivial
  | false =>
   cases c2 : outP s.2.2.1.length x.2.1 with
   | true =>
    have hf : tErr s.2.2.1.length x = 4 := by unfold tErr; rw [c2, Bool.or_true, if_pos rfl]
    rw [firstE_stop hf (by decide)]
    exact Ev.all fun _ => by first | rfl | trivial
   | false =>
    by_cases he : x.1 = x.2.1
    ·have hf : tErr s.2.2.1.length x = 2 := by unfold tErr; rw [c1, c2, if_neg (by simp), if_pos he]
     rw [bq he, firstE_stop hf (by decide)]
     exact Ev.all fun _ => by first | rfl | trivial
    ·have hf : tErr s.2.2.1.length x = 0 := by unfold tErr; rw [c1, c2, if_neg (by simp), if_neg he]
     rw [bqf he, firstE_pass hf]
     exact ih
def RB (r : List Int) : Prop := ∀ v ∈ r, 0 ≤ v ∧ v ≤ 16
theorem RB.at {r : List Int} (h : RB r) (i : Nat) : 0 ≤ r.getD i 0 ∧ r.getD i 0 ≤ 16 := by
 rw [List.getD_eq_getElem?_getD]
 cases hq : r[i]? with
 | none => simp
 | some x => exact h x (List.mem_of_getElem? hq)
end Go.Proofs.Ytkhhbpocmmmnmaa
/- The reference's lists: rates, ways to part, truths. Conditions: as each lemma states. -/
namespace Go.Proofs.Ytkhhbpocmmmnmaa
open Go Go.Gh Go.Proofs
open Go.Few
abbrev Tr := List Int × List Int × Unit
end Go.Proofs.Ytkhhbpocmmmnmaa
