/- The reference: its small functions, maxima, and all truths. Conditions: as each lemma states. -/
import Derived.Test.YtkbephbhajplhaaDoorCyG
import Derived.Test.YtkbephbhajplhaaDoorCyTC
namespace Go.Proofs.YtkbephbhajplhaaDoor
open Go Go.Gh Go.Proofs
theorem L85 (n lo hi : Int) : F85 ((n, lo, hi, ()) : Int × Int × Int × Unit) = some (decide (lo ≤ n) && decide (n ≤ hi), ()) := by
 refine N85 _ _ _ ?_
 by_cases h : lo ≤ n
 ·rw [dec_t h]; exact Ev.all fun _ => by first | rfl | simp
 ·rw [dec_f h]; exact Ev.all fun _ => by first | rfl | simp
theorem L86 (x : Sp) (lo hi : Int) : F86 ((x, lo, hi, ()) : Sp × Int × Int × Unit) = some (endsP x lo hi, ()) := by
 refine N86 _ _ _ ?_
 rw [L85, L85]
 simp only [Option.bind_some]
 unfold endsP
 by_cases h1 : lo ≤ x.1 ∧ x.1 ≤ hi
 ·rw [dec_t h1.1, dec_t h1.2, dec_f (show ¬ x.1 < lo by omega), dec_f (show ¬ x.1 > hi by omega)]
  by_cases h2 : lo ≤ x.2.1 ∧ x.2.1 ≤ hi
  ·rw [dec_t h2.1, dec_t h2.2, dec_f (show ¬ x.2.1 < lo by omega), dec_f (show ¬ x.2.1 > hi by omega), if_neg (by simp)]
   by_cases h3 : x.1 > x.2.1
   ·rw [dec_t h3, if_pos h3]; exact Ev.all fun _ => rfl
   ·rw [dec_f h3, if_neg h3]; exact Ev.all fun _ => rfl
  ·have e1 : (decide (lo ≤ x.2.1) && decide (x.2.1 ≤ hi)) = false := by
    rw [Bool.and_eq_false_iff, decide_eq_false_iff_not, decide_eq_false_iff_not]; omega
   have e2 : (decide (x.2.1 < lo) || decide (x.2.1 > hi)) = true := by
    rw [Bool.or_eq_true, decide_eq_true_eq, decide_eq_true_eq]; omega
   rw [e1, e2, if_pos (by simp)]; exact Ev.all fun _ => rfl
 ·have e1 : (decide (lo ≤ x.1) && decide (x.1 ≤ hi)) = false := by
   rw [Bool.and_eq_false_iff, decide_eq_false_iff_not, decide_eq_false_iff_not]; omega
  have e2 : (decide (x.1 < lo) || decide (x.1 > hi)) = true := by
   rw [Bool.or_eq_true, decide_eq_true_eq, decide_eq_true_eq]; omega
  rw [e1, e2, if_pos (by simp)]; exact Ev.all fun _ => rfl
theorem yes_year (n : Nat) (a : Int) : (decide (0 ≤ a) && decide (a ≤ (n : Int) - 1)) = !noYear n a := by
 unfold noYear
 rw [Bool.eq_iff_iff]
 simp only [Bool.and_eq_true, decide_eq_true_eq, Bool.not_eq_true', Bool.or_eq_false_iff, decide_eq_false_iff_not]
 omega
theorem L87 (s : Se) (a : Int) (hl : s.1.length < 1000000) : F87 ((s, a, ()) : Se × Int × Unit) = some (!noYear s.1.length a, ()) := by
 refine N87 _ _ ?_
 rw [wrap_id (x := (s.1.length : Int) - 1) (by omega) (by omega), L85, yes_year]
 exact Ev.all fun _ => rfl
theorem L18_1 (s : Se) (h7 : s.1.length ≤ 7) (h3 : 3 ≤ s.1.length) (h4 : s.2.1.length ≤ 4) : ∀ (c i : Nat), i + c = s.2.1.length → Ev fun k => T18_1 i s k = some (match firstE (sErr s.1.length) (s.2.1.drop i) i with
  | some (i, e) => (2, (i : Int), e, ())
  | none => chk3 s) := by
 intro c
 induction c with
 | zero =>
  intro i hi
  refine R18_1 _ _ ?_
  rw [dec_f (by omega), List.drop_eq_nil_of_le (by omega)]
  simp only [cond_false, firstE]
  rw [L86]
  simp only [Option.bind_some]
  unfold chk3
  by_cases h : endsP s.2.2.1 2 7 = 0
  ·rw [if_pos h, h]; exact Ev.all fun _ => rfl
  ·rw [if_neg h, show (endsP s.2.2.1 2 7 != 0) = true from bne_iff_ne.2 h]; exact Ev.all fun _ => rfl
 | succ c ih =>
  intro i hi
  have hlt : i < s.2.1.length := by omega
  refine R18_1 _ _ ?_
  have ih := ih (i + 1) (by omega)
  rw [dec_t (show (i : Int) < (s.2.1.length : Int) by omega), dec_t (show (0 : Int) ≤ (i : Int) by omega), wrap_succ (n := i) (by omega), Int.toNat_natCast, getD_lt hlt, List.drop_eq_getElem_cons hlt, L87 s _ (by omega)]
  simp only [Bool.and_self, cond_true, Option.bind_some]
  generalize s.2.1[i] = x
  cases hn : noYear s.1.length x.1 with
  | true =>
   have hf : sErr s.1.length x = 4 := by unfold sErr; rw [hn, if_pos (by simp)]
   rw [firstE_stop hf (by decide)]
   exact Ev.all fun _ => rfl
  | false =>
   simp only [Bool.not_false, Bool.not_true, cond_false]
   rw [L87 s _ (by omega)]
   simp only [Option.bind_some]
   cases hm : noYear s.1.length x.2.1 with
   | true =>
    have hf : sErr s.1.length x = 4 := by unfold sErr; rw [hm, if_pos (by simp)]
    rw [firstE_stop hf (by decide)]
    exact Ev.all fun _ => rfl
   | false =>
    simp only [Bool.not_false, Bool.not_true, cond_false]
    rw [L86]
    simp only [Option.bind_some]
    by_cases he : endsP x.2.2.1 0 999 = 0
    ·by_cases hu : x.1 > x.2.1
     ·have hf : sErr s.1.length x = 2 := by unfold sErr; rw [hn, hm, if_neg (by simp), if_pos he, if_pos hu]
      rw [he, dec_t hu, firstE_stop hf (by decide)]
      exact Ev.all fun _ => rfl
     ·have hf : sErr s.1.length x = 0 := by unfold sErr; rw [hn, hm, if_neg (by simp), if_pos he, if_neg hu]
      rw [he, dec_f hu, firstE_pass hf]
      exact ih
    ·have hf : sErr s.1.length x = endsP x.2.2.1 0 999 := by unfold sErr; rw [hn, hm, if_neg (by simp), if_neg he]
     rw [show (endsP x.2.2.1 0 999 == 0) = false from by simpa using he, show (endsP x.2.2.1 0 999 != 0) = true from bne_iff_ne.2 he, firstE_stop hf he]
     exact Ev.all fun _ => rfl
theorem L18 (s : Se) : F18 ((s, ()) : Se × Unit) = some (chkP s) := by
 refine N18 _ ?_
 rw [L85]
 simp only [Option.bind_some]
 unfold chkP
 by_cases hl : s.1.length < 3 ∨ s.1.length > 7
 ·rw [if_pos hl]
  have : (decide ((3 : Int) ≤ (s.1.length : Int)) && decide ((s.1.length : Int) ≤ 7)) = false := by
   rw [Bool.and_eq_false_iff, decide_eq_false_iff_not, decide_eq_false_iff_not]; omega
  rw [this]
  exact Ev.all fun _ => rfl
 ·rw [if_neg hl, dec_t (show (3 : Int) ≤ (s.1.length : Int) by omega), dec_t (show (s.1.length : Int) ≤ 7 by omega)]
  simp only [Bool.and_self, Bool.not_true, cond_false]
  have key : ∀ (c i : Nat), i + c = s.1.length → Ev fun k => T18_0 i s k = some (match firstE yErr (s.1.drop i) i with
    | some (i, e) => (1, (i : Int), e, ())
    | none => chk2 s) := by
   intro c
   induction c with
   | zero =>
    intro i hi
    refine R18_0 _ _ ?_
    rw [dec_f (by omega), List.drop_eq_nil_of_le (by omega)]
    simp only [cond_false, firstE]
    unfold chk2
    by_cases h4 : s.2.1.length > 4
    ·rw [if_pos h4, dec_t (show (s.2.1.length : Int) > 4 by omega)]
     exact Ev.all fun _ => rfl
    ·rw [if_neg h4, dec_f (show ¬ (s.2.1.length : Int) > 4 by omega)]
     have := L18_1 s (by omega) (by omega) (by omega) s.2.1.length 0 (by omega)
     rw [List.drop_zero] at this
     exact this
   | succ c ih =>
    intro i hi
    have hlt : i < s.1.length := by omega
    refine R18_0 _ _ ?_
    have ih := ih (i + 1) (by omega)
    rw [dec_t (show (i : Int) < (s.1.length : Int) by omega), dec_t (show (0 : Int) ≤ (i : Int) by omega), wrap_succ (n := i) (by omega), Int.toNat_natCast, getD_lt hlt, List.drop_eq_getElem_cons hlt, L86]
    simp only [Bool.and_self, cond_true, Option.bind_some]
    generalize s.1[i] = x
    by_cases he : endsP x 0 99 = 0
    ·have hb := endsP_zero.1 he
     rw [wrap_id (x := x.2.1 - x.1) (by omega) (by omega)]
     by_cases hu : x.2.1 - x.1 > 3
     ·have hf : yErr x = 2 := by unfold yErr; rw [if_pos he, if_pos hu]
      rw [he, dec_t hu, firstE_stop hf (by decide)]
      exact Ev.all fun _ => rfl
     ·have hf : yErr x = 0 := by unfold yErr; rw [if_pos he, if_neg hu]
      rw [he, dec_f hu, firstE_pass hf]
      exact ih
    ·have hf : yErr x = endsP x 0 99 := by unfold yErr; rw [if_neg he]
     rw [show (endsP x 0 99 == 0) = false from by simpa using he, show (endsP x 0 99 != 0) = true from bne_iff_ne.2 he, firstE_stop hf he]
     exact Ev.all fun _ => rfl
  have := key s.1.length 0 (by omega)
  rw [List.drop_zero] at this
  exact this
def allB (s : Se) : Nat → List (List Int)
 | 0 => [[]]
 | i + 1 => (allB s i).flatMap fun p => (valsOf s i).map fun v => p ++ [v]
theorem allB_mem {s : Se} : ∀ {i : Nat} {p : List Int}, p ∈ allB s i → p.length = i
 | 0, p, h => by simp [allB] at h; simp [h]
 | i + 1, p, h => by
  simp only [allB, List.mem_flatMap, List.mem_map] at h
  obtain ⟨q, hq, v, _, rfl⟩ := h
  simp [allB_mem hq]
end Go.Proofs.YtkbephbhajplhaaDoor
/- The reference: maxima, sums, and all truths, which are those of the program. Conditions: as each lemma states. -/
namespace Go.Proofs.YtkbephbhajplhaaDoor
open Go Go.Gh Go.Proofs
theorem isTop_end {n i : Nat} {t : List Int} (h : n ≤ i + 1) : isTop n t i = false := by
 unfold isTop
 rw [dec_f (show ¬ i + 1 < n by omega)]; simp
theorem isBot_end {n i : Nat} {t : List Int} (h : n ≤ i + 1) : isBot n t i = false := by
 unfold isBot
 rw [dec_f (show ¬ i + 1 < n by omega)]; simp
theorem isTop_mid {n i : Nat} {t : List Int} (h0 : 0 < i) (h1 : i + 1 < n) : isTop n t i = (decide (t.getD i 0 > t.getD (i - 1) 0) && decide (t.getD i 0 > t.getD (i + 1) 0)) := by
 unfold isTop
 rw [dec_t h0, dec_t h1]
 simp only [topP, Bool.true_and]
theorem isBot_mid {n i : Nat} {t : List Int} (h0 : 0 < i) (h1 : i + 1 < n) : isBot n t i = (decide (t.getD i 0 < t.getD (i - 1) 0) && decide (t.getD i 0 < t.getD (i + 1) 0)) := by
 unfold isBot
 rw [dec_t h0, dec_t h1]
 simp only [Bool.true_and]
 rw [Bool.eq_iff_iff, Bool.and_eq_true, decide_eq_true_eq, decide_eq_true_eq, decide_eq_true_eq]
 split <;> omega
theorem tops_lt {n : Nat} {l : List Int} {k v : Nat} (h : v ∈ topsFrom n l k) : v < n := by
 unfold topsFrom at h
 have := List.mem_range'_1.1 (List.mem_filter.1 h).1
 omega
def okSumR (s : Se) (but : Nat) (q : List Int) (k : Nat) : Bool := but.testBit k || inGap (s.2.1.getD k sm0).2.2.1 (sumL q (s.2.1.getD k sm0).1.toNat (s.2.1.getD k sm0).2.1.toNat)
def okAll (s : Se) (but : Nat) (q : List Int) : Bool := gapChk s.2.2.1 (-1) (topsFrom s.1.length q 0) && (List.range s.2.1.length).all (okSumR s but q)
def exts (s : Se) : Nat → List Int → List (List Int)
 | 0, p => [p]
 | c + 1, p => (valsOf s p.length).flatMap fun v => exts s c (p ++ [v])
theorem exts_mem {s : Se} : ∀ {c : Nat} {p q : List Int}, q ∈ exts s c p → q.take p.length = p ∧ q.length = p.length + c
 | 0, p, q, h => by simp [exts] at h; subst h; simp
 | c + 1, p, q, h => by
  simp only [exts, List.mem_flatMap] at h
  obtain ⟨v, _, h⟩ := h
  obtain ⟨h1, h2⟩ := exts_mem h
  rw [List.length_append] at h1 h2
  refine ⟨?_, by simp at h2; omega⟩
  have : (q.take (p.length + [v].length)).take p.length = p := by rw [h1]; simp
  rw [List.take_take] at this
  simpa using this
theorem flat_congr {α β : Type} : ∀ {l : List α} {f g : α → List β}, (∀ a ∈ l, f a = g a) → l.flatMap f = l.flatMap g
 | [], _, _, _ => rfl
 | a :: l, f, g, h => by
  rw [List.flatMap_cons, List.flatMap_cons, h a (by simp), flat_congr fun b hb => h b (by simp [hb])]
theorem allB_exts (s : Se) : ∀ (i c : Nat), (allB s i).flatMap (exts s c) = exts s (i + c) []
 | 0, c => by simp [allB]
 | i + 1, c => by
  rw [show i + 1 + c = i + (c + 1) by omega, ← allB_exts s i (c + 1)]
  simp only [allB, List.flatMap_assoc]
  refine flat_congr fun p hp => ?_
  rw [List.flatMap_map]
  simp only [exts, allB_mem hp]
theorem allB_eq (s : Se) (n : Nat) : allB s n = exts s n [] := by
 have := allB_exts s n 0
 have e : exts s 0 = fun p => [p] := rfl
 rw [e, List.flatMap_singleton', Nat.add_zero] at this
 exact this
theorem okFrom_all (s : Se) (but : Nat) (t : List Int) (i : Nat) : ∀ c k, okFrom s but t i c k = (List.range' k c).all fun j => !denS s but t i j
 | 0, _ => rfl
 | c + 1, k => by rw [okFrom, okFrom_all s but t i c (k + 1), List.range'_succ, List.all_cons]
def okRest (s : Se) (but : Nat) (i : Nat) (q : List Int) : Bool := gapsOK s (pad q) && (List.range s.2.1.length).all fun k => decide ((s.2.1.getD k sm0).2.1 < (i : Int)) || okSumR s but q k
theorem ext_eq {s : Se} (hs : VS s) (but : Nat) : ∀ (c : Nat) (p : List Int), p.length + c = s.1.length → ext s but c p = ((exts s c p).filter (okRest s but p.length)).map pad
 | 0, p, h => by
  have e : okRest s but p.length p = gapsOK s (pad p) := by
   unfold okRest
   have : ((List.range s.2.1.length).all fun k => decide ((s.2.1.getD k sm0).2.1 < (p.length : Int)) || okSumR s but p k) = true := by
    rw [List.all_eq_true]
    intro k hk
    have := hs.sums k (List.mem_range.1 hk)
    rw [dec_t (by omega), Bool.true_or]
   rw [this, Bool.and_true]
  simp only [ext, exts, List.filter_cons, e, List.filter_nil]
  split <;> rfl
 | c + 1, p, h => by
  simp only [ext, exts, List.filter_flatMap, List.map_flatMap]
  refine flat_congr fun v _ => ?_
  have hq : (p ++ [v]).length = p.length + 1 := by simp
  have step : ∀ q ∈ exts s c (p ++ [v]), okRest s but p.length q = (okS s but (p ++ [v]) p.length && okRest s but (p ++ [v]).length q) := by
   intro q hm
   obtain ⟨h1, _⟩ := exts_mem hm
   rw [hq] at h1
   unfold okRest okS
   rw [okFrom_all, ← List.range_eq_range', hq]
   have e2 : ((List.range s.2.1.length).all fun k => decide ((s.2.1.getD k sm0).2.1 < (p.length : Int)) || okSumR s but q k) = (((List.range s.2.1.length).all fun j => !denS s but (p ++ [v]) p.length j) && ((List.range s.2.1.length).all fun k => decide ((s.2.1.getD k sm0).2.1 < ((p.length + 1 : Nat) : Int)) || okSumR s but q k)) := by
    rw [Bool.eq_iff_iff, Bool.and_eq_true, List.all_eq_true, List.all_eq_true, List.all_eq_true]
    suffices key : ∀ k, k ∈ List.range s.2.1.length → ((decide ((s.2.1.getD k sm0).2.1 < (p.length : Int)) || okSumR s but q k) = true ↔ (!denS s but (p ++ [v]) p.length k) = true ∧ (decide ((s.2.1.getD k sm0).2.1 < ((p.length + 1 : Nat) : Int)) || okSumR s but q k) = true) from
     ⟨fun h => ⟨fun k hk => ((key k hk).1 (h k hk)).1, fun k hk => ((key k hk).1 (h k hk)).2⟩, fun h k hk => (key k hk).2 ⟨h.1 k hk, h.2 k hk⟩⟩
    intro k hk
    have hsm := hs.sums k (List.mem_range.1 hk)
    rw [← Bool.and_eq_true, ← Bool.eq_iff_iff, ← denS_take h1 hq]
    unfold denS okSumR
    by_cases g1 : (s.2.1.getD k sm0).2.1 < (p.length : Int)
    ·rw [dec_t g1, dec_t (show (s.2.1.getD k sm0).2.1 < ((p.length + 1 : Nat) : Int) by omega), show ((s.2.1.getD k sm0).2.1 == (p.length : Int)) = false from beq_eq_false_iff_ne.2 (by omega)]
     simp
    ·by_cases g2 : (s.2.1.getD k sm0).2.1 = (p.length : Int)
     ·rw [dec_f g1, dec_t (show (s.2.1.getD k sm0).2.1 < ((p.length + 1 : Nat) : Int) by omega), show ((s.2.1.getD k sm0).2.1 == (p.length : Int)) = true from beq_iff_eq.2 g2, show (s.2.1.getD k sm0).2.1.toNat = p.length by omega, not_gap]
      cases but.testBit k <;> simp
     ·rw [dec_f g1, dec_f (show ¬ (s.2.1.getD k sm0).2.1 < ((p.length + 1 : Nat) : Int) by omega), show ((s.2.1.getD k sm0).2.1 == (p.length : Int)) = false from beq_eq_false_iff_ne.2 g2]
      simp
   rw [e2]
   cases gapsOK s (pad q) <;> simp
  have hf : (exts s c (p ++ [v])).filter (okRest s but p.length) = (exts s c (p ++ [v])).filter fun q => okS s but (p ++ [v]) p.length && okRest s but (p ++ [v]).length q := List.filter_congr step
  rw [hf, ext_eq hs but c (p ++ [v]) (by rw [hq]; omega)]
  cases okS s but (p ++ [v]) p.length with
  | true => simp
  | false => simp
theorem isTop_pad {n : Nat} {q : List Int} (hq : q.length = n) (i : Nat) : isTop n (pad q) i = isTop n q i := by
 by_cases h1 : 0 < i ∧ i + 1 < n
 ·have g : ∀ j, j < n → (pad q).getD j 0 = q.getD j 0 := fun j hj => by
   unfold pad
   rw [List.getD_eq_getElem?_getD, List.getD_eq_getElem?_getD, List.getElem?_append_left (by omega)]
  rw [isTop_mid h1.1 h1.2, isTop_mid h1.1 h1.2, g i (by omega), g (i - 1) (by omega), g (i + 1) (by omega)]
 ·unfold isTop
  have : (decide (0 < i) && decide (i + 1 < n)) = false := by
   rw [Bool.and_eq_false_iff, decide_eq_false_iff_not, decide_eq_false_iff_not]; omega
  rw [this]; rfl
theorem tops_pad {n : Nat} {q : List Int} (hq : q.length = n) (k : Nat) : topsFrom n (pad q) k = topsFrom n q k := by
 unfold topsFrom
 exact List.filter_congr fun i _ => isTop_pad hq i
def truthsR (s : Se) (but : Nat) : List (List Int) := (allB s s.1.length).filter (okAll s but)
theorem truths_eq {s : Se} (hs : VS s) (but : Nat) : truthsP s but = (truthsR s but).map pad := by
 unfold truthsP truthsR
 rw [ext_eq hs but s.1.length [] (by simp), allB_eq]
 congr 1
 refine List.filter_congr fun q hq => ?_
 have hl := (exts_mem hq).2
 unfold okRest okAll gapsOK
 rw [tops_pad (by simpa using hl)]
 congr 1
 rw [Bool.eq_iff_iff, List.all_eq_true, List.all_eq_true]
 refine forall_congr' fun k => forall_congr' fun hk => ?_
 have := hs.sums k (List.mem_range.1 hk)
 rw [dec_f (show ¬ (s.2.1.getD k sm0).2.1 < ((([] : List Int).length : Nat) : Int) by simp only [List.length_nil]; omega), Bool.false_or]
theorem allB_bd {s : Se} (hs : VS s) : ∀ {i : Nat} {p : List Int}, i ≤ s.1.length → p ∈ allB s i → ∀ x ∈ p, 0 ≤ x ∧ x ≤ 99
 | 0, p, _, h => by simp [allB] at h; subst h; simp
 | i + 1, p, hi, h => by
  simp only [allB, List.mem_flatMap, List.mem_map] at h
  obtain ⟨q, hq, v, hv, rfl⟩ := h
  have hy := hs.years i (by omega)
  unfold valsOf at hv
  rw [Few.mem_upto] at hv
  intro x hx
  rw [List.mem_append, List.mem_singleton] at hx
  rcases hx with hx | rfl
  ·exact allB_bd hs (by omega) hq x hx
  ·omega
theorem truthsR_wf {s : Se} (hs : VS s) {but : Nat} {q : List Int} (h : q ∈ truthsR s but) : q.length = s.1.length ∧ ∀ x ∈ q, 0 ≤ x ∧ x ≤ 99 :=
 ⟨allB_mem (List.mem_filter.1 h).1, allB_bd hs (Nat.le_refl _) (List.mem_filter.1 h).1⟩
end Go.Proofs.YtkbephbhajplhaaDoor
/- The reference's 'Number' and 'Mean' are the program's. Conditions: as each lemma states. -/
namespace Go.Proofs.YtkbephbhajplhaaDoor
open Go Go.Gh Go.Proofs
theorem chk_zero {s : Se} (h : (chkP s).2.2.1 = 0) : VS s := (chkP_ok s).1 h
theorem truths_none {s : Se} (hs : VS s) : truthsP s 0 = [] ↔ truthsR s 0 = [] := by rw [truths_eq hs 0]; simp
theorem sumL_pad {q : List Int} {a b : Nat} (hb : b < q.length) : sumL (pad q) a b = sumL q a b := by
 unfold sumL pad
 rw [List.take_append_of_le_length (by omega)]
theorem sumL_one {q : List Int} {n : Nat} (hn : n < q.length) : sumL q n n = q.getD n 0 := by
 unfold sumL
 rw [List.take_add_one, List.getElem?_eq_getElem hn, List.drop_append_of_le_length (by rw [List.length_take]; omega), List.drop_eq_nil_of_le (by rw [List.length_take]; omega), getD_lt hn]
 simp [sumI]
theorem nums_ref {s : Se} (hs : VS s) {p q : Nat} (hq : q < s.1.length) : numsP s p q = ((truthsR s 0).map fun t => sumL t p q).foldl wide noneP := by
 rw [nums_map, truths_eq hs 0, List.map_map]
 congr 1
 refine List.map_congr_left fun t ht => ?_
 exact sumL_pad (by rw [(truthsR_wf hs ht).1]; exact hq)
theorem sumR_bd {l : List Int} (h7 : l.length ≤ 7) (h : ∀ x ∈ l, 0 ≤ x ∧ x ≤ 99) (a b : Nat) : 0 ≤ sumL l a b ∧ sumL l a b ≤ 1000000 := by
 have h1 := sumI_bd (l := (l.take (b + 1)).drop a) fun x hx => h x (List.mem_of_mem_take (List.mem_of_mem_drop hx))
 have h2 : ((l.take (b + 1)).drop a).length ≤ 7 := by
  rw [List.length_drop, List.length_take]; omega
 unfold sumL
 omega
end Go.Proofs.YtkbephbhajplhaaDoor
