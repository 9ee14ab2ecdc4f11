/- The examples. Conditions: as each lemma states. -/
import Derived.Test.YtkbephbhajplhaaDoorCyV
import Derived.Test.YtkbephbhajplhaaDoorCyG
import Derived.Test.YtkbephbhajplhaaDoorCyT
namespace Go.Proofs.YtkbephbhajplhaaDoor
open Go Go.Gh Go.Proofs
theorem L36 (a b : Int) : F36 ((a, b, ()) : Int × Int × Unit) = some ((a, b, ()), ()) := ghost_eq (Ev.eq (fun _ => E36 _ _ _) (Ev.all fun _ => rfl))
theorem L37 (a b : Int) : F37 ((a, b, ()) : Int × Int × Unit) = some ((a, b, ()), ()) := ghost_eq (Ev.eq (fun _ => E37 _ _ _) (Ev.all fun _ => rfl))
theorem L94 (a b c d : Int) : F94 ((a, b, c, d, ()) : Int × Int × Int × Int × Unit) = some ((a, b, (c, d, ()), ()), ()) := by
 refine ghost_eq (Ev.eq (fun _ => E94 _ _ _ _ _) ?_)
 rw [L36]
 exact Ev.all fun _ => rfl
theorem L32 (l k : List Int) (hl : l.length < 1000000) : F32 ((l, k, ()) : List Int × List Int × Unit) = some (decide (l = k), ()) := by
 refine N32 _ _ ?_
 by_cases hlen : l.length = k.length
 ·rw [show ((l.length : Int) == (k.length : Int)) = true from beq_iff_eq.2 (by omega)]
  have key : ∀ (c i : Nat) (b : Bool), i + c = l.length → (b = true → l.take i = k.take i) → (b = false → l ≠ k) → Ev fun f => T32_0 l k b i f = some (decide (l = k), ()) := by
   intro c
   induction c with
   | zero =>
    intro i b hi h1 h2
    refine R32_0 _ _ _ _ ?_
    rw [dec_f (show ¬ (i : Int) < (l.length : Int) by omega)]
    cases b with
    | true =>
     have := h1 rfl
     rw [List.take_of_length_le (by omega), List.take_of_length_le (by omega)] at this
     rw [dec_t this]; exact Ev.all fun _ => rfl
    | false => rw [dec_f (h2 rfl)]; exact Ev.all fun _ => rfl
   | succ c ih =>
    intro i b hi h1 h2
    have hlt : i < l.length := by omega
    have hkt : i < k.length := by omega
    refine R32_0 _ _ _ _ ?_
    cases b with
    | false => rw [dec_f (h2 rfl)]; exact Ev.all fun _ => rfl
    | true =>
     rw [dec_t (show (i : Int) < (l.length : Int) by omega), dec_t (show (0 : Int) ≤ (i : Int) by omega), dec_t (show (i : Int) < (k.length : Int) by omega), Int.toNat_natCast, getD_lt hlt, getD_lt hkt, wrap_succ (n := i) (by omega)]
     simp only [Bool.and_self, cond_true]
     refine ih (i + 1) _ (by omega) (fun h => ?_) (fun h hn => ?_)
     ·rw [List.take_add_one, List.take_add_one, h1 rfl, List.getElem?_eq_getElem hlt, List.getElem?_eq_getElem hkt, eq_of_beq h]
     ·subst hn
      simp at h
  exact key l.length 0 true (by omega) (fun _ => rfl) (fun h => by cases h)
 ·rw [show ((l.length : Int) == (k.length : Int)) = false from beq_eq_false_iff_ne.2 (by omega), dec_f (fun h => hlen (by rw [h]))]
  refine R32_0 _ _ _ _ ?_
  exact Ev.all fun _ => rfl
def serP (more : List Sm) : Se := ([(10, 10, ()), (30, 32, ()), (20, 21, ()), (5, 5, ()), (25, 28, ()), (26, 27, ()), (12, 12, ())], (4, 5, (54, 54, ()), ()) :: more, (2, 3, ()), ())
theorem L35 (more : List Sm) (h : more.length < 1000) : F35 ((more, ()) : List Sm × Unit) = some (serP more, ()) := by
 refine ghost_eq (Ev.eq (fun _ => E35 _ _) ?_)
 simp only [L36, L94, Option.bind_some]
 rw [dec_t (by simp; omega)]
 exact Ev.all fun _ => rfl
theorem a1 : numberP (serP []) 4 = ((27, 28, ()), 0, ()) := by kernel_rfl
theorem a2 : meanP (serP []) 0 3 = ((65, 4, ()), (17, 1, ()), 0, ()) := by kernel_rfl
theorem a3 : turnsP (serP []) 1 = (1, 2, 0, ()) := by kernel_rfl
theorem a4 : turnsP (serP []) 3 = (2, 1, 0, ()) := by kernel_rfl
theorem a5 : turnsP (serP []) 4 = (0, 2, 0, ()) := by kernel_rfl
theorem a6 : gapsP (serP []) = ((3, 3, ()), 0, ()) := by kernel_rfl
theorem a7 : nextP (serP []) = ((7, 7, ()), 0, ()) := by kernel_rfl
theorem a8 : wreckP (serP []) (20, 30, ()) 1 = ([1, 4], 0, ()) := by kernel_rfl
theorem a9 : wreckP (serP []) (20, 30, ()) 2 = ([2, 5], 0, ()) := by kernel_rfl
theorem a10 : wrongP (serP [(1, 2, (60, 70, ()), ())]) = ([1], 0, ()) := by kernel_rfl
theorem a11 : (nextP (serP [(1, 2, (60, 70, ()), ())])).2.1 = 8 := by kernel_rfl
theorem L23 : F23 () = some (true, ()) := by
 refine ghost_eq (Ev.eq (fun _ => E23 _) ?_)
 rw [L35 [] (by simp), L94]
 simp only [Option.bind_some]
 rw [show List.set (List.replicate 1 ((0, 0, (0, 0, ()), ()) : Sm)) 0 (1, 2, (60, 70, ()), ()) = [(1, 2, (60, 70, ()), ())] from rfl, L35 _ (by simp)]
 simp only [Option.bind_some, L36, L37, L19, L21, L24, L26, L28, L30, L33, a1, a2, a3, a4, a5, a6, a7, a8, a9, a10, a11]
 simp only [L32 [1, 4] _ (by simp), L32 [2, 5] _ (by simp), L32 [1] _ (by simp)]
 refine Ev.all fun _ => ?_
 simp [eqSp]
theorem b1 : numberP (serP []) 1 = ((30, 32, ()), 0, ()) := by kernel_rfl
theorem b2 : numberP (serP []) 5 = ((26, 27, ()), 0, ()) := by kernel_rfl
theorem b3 : meanP (serP []) 4 5 = ((27, 1, ()), (27, 1, ()), 0, ()) := by kernel_rfl
theorem b5 : wrongP (serP []) = ([], 0, ()) := by kernel_rfl
end Go.Proofs.YtkbephbhajplhaaDoor
