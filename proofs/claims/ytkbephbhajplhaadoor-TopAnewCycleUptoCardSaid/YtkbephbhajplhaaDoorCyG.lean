/- Questions about all truths: is there one; a sum's ends. Conditions: as each lemma states. -/
import Derived.Test.YtkbephbhajplhaaDoorCyF
import Derived.Test.YtkbephbhajplhaaDoorCyT
namespace Go.Proofs.YtkbephbhajplhaaDoor
open Go Go.Gh Go.Proofs
theorem fin107 {s : Se} {but : Nat} {l4 : Int} {C : Bool} {t : List Int} {b : Bool} : a2_107s122 s but l4 s.1.length C t b (p_107s122 s but false true t t) := by
 refine U107s122_2 _ _ _ _ _ _ _ _ _ _ (Ev.eq (fun _ => Q107s122_2 _ _ _ _ _ _ _ _ _ _ _ _) ?_)
 rw [dec_f (show ¬ ((s.1.length : Int) < (s.1.length : Int)) by omega)]
 exact Ev.all fun _ => rfl
theorem fold_none {C X : Type} (c' c : C) : ∀ (l : List X), foldT (fun _ _ => (c', false)) l c = if l = [] then (c, true) else (c', false)
 | [] => rfl
 | _ :: _ => rfl
theorem L107 (s : Se) (but : Nat) (hs : VS s) (hbut : but < 1000000000000) : F107 ((some ((s, (but : Int), ()) : Sb), ()) : Option Sb × Unit) = some (decide (truthsP s but ≠ []), ()) := by
 refine ghost_eq (Ev.eq (fun _ => E107 _ _) ?_)
 obtain ⟨t', l', _, h⟩ := (dfs_107s122 s but hs hbut (fun _ _ => (true, false)) (fun _ => fin107)).start hs false
 rw [fold_none] at h
 have key : ∀ {y : R107s122}, a0_107s122 s but 0 false (List.replicate 7 0) (-1 :: List.replicate 6 0) y → G107s122 Y107s122 (((0, (), (), (), (), (), (), ()), ()), false, ((), ()), some ((s, (but : Int), ()) : Sb), (), ((some ((s, (but : Int), ()) : Sb), ()), ()), List.replicate 7 0, -1 :: List.replicate 6 0, u8, ()) = some y := fun h => gsub_eq h
 by_cases hq : truthsP s but = []
 ·rw [if_pos hq] at h
  rw [dec_f (show ¬ truthsP s but ≠ [] from fun h => h hq), key h]
  exact Ev.all fun _ => rfl
 ·rw [if_neg hq] at h
  rw [dec_t hq, key h]
  exact Ev.all fun _ => rfl
def wide (x : Sp) (n : Int) : Sp := (if n < x.1 then n else x.1, if n > x.2.1 then n else x.2.1, ())
theorem fin89 {s : Se} {but p q : Nat} (hpq : p ≤ q) (hq : q < 7) {l4 : Int} {x0 C : Sp} {t : List Int} {b : Bool} (ht : Good t) : a2_89s122 s but p q x0 l4 s.1.length C t b (p_89s122 s but p q x0 true (wide C (sumL t p q)) t t) := by
 refine U89s122_2 _ _ _ _ _ _ _ _ _ _ _ _ _ (Ev.eq (fun _ => Q89s122_2 _ _ _ _ _ _ _ _ _ _ _ _ _ _ _) ?_)
 rw [dec_f (show ¬ ((s.1.length : Int) < (s.1.length : Int)) by omega)]
 simp only [cond_false]
 rw [L120 ht p q hpq hq]
 simp only [Option.bind_some]
 rw [L100]
 exact Ev.all fun _ => rfl
theorem fold_all {C X : Type} (f : C → X → C) : ∀ (l : List X) (c : C), foldT (fun c x => (f c x, true)) l c = (l.foldl f c, true)
 | [], _ => rfl
 | x :: l, c => fold_all f l (f c x)
theorem L89 (s : Se) (but p q : Nat) (hs : VS s) (hbut : but < 1000000000000) (hpq : p ≤ q) (hq : q < 7) : F89 ((some ((s, (but : Int), ()) : Sb), (p : Int), (q : Int), ()) : Option Sb × Int × Int × Unit) = some ((truthsP s but).foldl (fun c t => wide c (sumL t p q)) noneP, ()) := by
 refine ghost_eq (Ev.eq (fun _ => E89 _ _ _ _) ?_)
 obtain ⟨t', l', _, h⟩ := (dfs_89s122 s but p q (0, 0, ()) hs hbut (fun c t => (wide c (sumL t p q), true)) (fun ht => fin89 hpq hq ht)).start hs noneP
 rw [fold_all] at h
 have e : G89s122 Y89s122 (((0, (), (), (), (), (), (), ()), ()), (p : Int), (q : Int), (0, 0, ()), (1099511627776, -1, ()), ((), (), (), ()), some ((s, (but : Int), ()) : Sb), (), ((some ((s, (but : Int), ()) : Sb), ()), ()), List.replicate 7 0, -1 :: List.replicate 6 0, u8, ()) = some _ := gsub_eq h
 rw [e]
 exact Ev.all fun _ => rfl
end Go.Proofs.YtkbephbhajplhaaDoor
/- 'Check', and the entry to all questions. Conditions: as each lemma states. -/
namespace Go.Proofs.YtkbephbhajplhaaDoor
open Go Go.Gh Go.Proofs
def firstE {α : Type} (f : α → Int) : List α → Nat → Option (Nat × Int)
 | [], _ => none
 | x :: r, i => if f x = 0 then firstE f r (i + 1) else some (i, f x)
theorem firstE_pass {α : Type} {f : α → Int} {x : α} {r : List α} {i : Nat} (h : f x = 0) : firstE f (x :: r) i = firstE f r (i + 1) := if_pos h
theorem firstE_stop {α : Type} {f : α → Int} {x : α} {r : List α} {i : Nat} {e : Int} (h : f x = e) (he : e ≠ 0) : firstE f (x :: r) i = some (i, e) := by
 subst h
 exact if_neg he
def yErr (x : Sp) : Int := if endsP x 0 99 = 0 then (if x.2.1 - x.1 > 3 then 2 else 0) else endsP x 0 99
def noYear (n : Nat) (a : Int) : Bool := decide (a < 0) || decide (a > (n : Int) - 1)
def sErr (n : Nat) (x : Sm) : Int := if (noYear n x.1 || noYear n x.2.1) = true then 4 else if endsP x.2.2.1 0 999 = 0 then (if x.1 > x.2.1 then 2 else 0) else endsP x.2.2.1 0 999
def chk3 (s : Se) : Int × Int × Int × Unit := if endsP s.2.2.1 2 7 = 0 then (0, 0, 0, ()) else (3, 0, endsP s.2.2.1 2 7, ())
def chk2 (s : Se) : Int × Int × Int × Unit := if s.2.1.length > 4 then (2, 0, 3, ()) else match firstE (sErr s.1.length) s.2.1 0 with
 | some (i, e) => (2, i, e, ())
 | none => chk3 s
def chkP (s : Se) : Int × Int × Int × Unit := if s.1.length < 3 ∨ s.1.length > 7 then (1, 0, 3, ()) else match firstE yErr s.1 0 with
 | some (i, e) => (1, i, e, ())
 | none => chk2 s
theorem L17_1 (s : Se) (h7 : s.1.length ≤ 7) (h3 : 3 ≤ s.1.length) (h4 : s.2.1.length ≤ 4) : ∀ (c i : Nat), i + c = s.2.1.length → Ev fun k => T17_1 s.2.1 s.2.1.length i s.2.1 s k = some (match firstE (sErr s.1.length) (s.2.1.drop i) i with
  | some (i, e) => (2, (i : Int), e, ())
  | none => chk3 s) := by
 intro c
 induction c with
 | zero =>
  intro i hi
  refine R17_1 _ _ _ _ _ ?_
  rw [dec_f (by omega), List.drop_eq_nil_of_le (by omega)]
  simp only [cond_false, firstE]
  rw [L81]
  simp only [Option.bind_some]
  unfold chk3
  by_cases h : endsP s.2.2.1 2 7 = 0
  ·rw [if_pos h, h]; exact Ev.all fun _ => rfl
  ·rw [if_neg h, show (endsP s.2.2.1 2 7 != 0) = true from bne_iff_ne.2 h]; exact Ev.all fun _ => rfl
 | succ c ih =>
  intro i hi
  have hlt : i < s.2.1.length := by omega
  refine R17_1 _ _ _ _ _ ?_
  have ih := ih (i + 1) (by omega)
  rw [dec_t (show (i : Int) < (s.2.1.length : Int) by omega), dec_t (show (0 : Int) ≤ (i : Int) by omega), wrap_succ (n := i) (by omega), Int.toNat_natCast, getD_lt hlt, wrap_pred (n := s.1.length) (by omega) (by omega), List.drop_eq_getElem_cons hlt, L84_2]
  simp only [Bool.and_self, cond_true, Option.bind_some]
  generalize s.2.1[i] = x
  have hyr : (decide (x.1 < 0) || decide (x.1 > ((s.1.length - 1 : Nat) : Int)) || (decide (x.2.1 < 0) || decide (x.2.1 > ((s.1.length - 1 : Nat) : Int)))) = (noYear s.1.length x.1 || noYear s.1.length x.2.1) := by
   unfold noYear
   rw [show ((s.1.length - 1 : Nat) : Int) = (s.1.length : Int) - 1 by omega]
  rw [hyr]
  cases hn : (noYear s.1.length x.1 || noYear s.1.length x.2.1) with
  | true =>
   have hf : sErr s.1.length x = 4 := by unfold sErr; rw [if_pos hn]
   rw [firstE_stop hf (by decide)]
   exact Ev.all fun _ => rfl
  | false =>
   simp only [cond_false]
   rw [L81]
   simp only [Option.bind_some]
   by_cases he : endsP x.2.2.1 0 999 = 0
   ·by_cases hu : x.1 > x.2.1
    ·have hf : sErr s.1.length x = 2 := by unfold sErr; rw [hn, if_neg (by simp), if_pos he, if_pos hu]
     rw [he, dec_t hu, firstE_stop hf (by decide)]
     exact Ev.all fun _ => rfl
    ·have hf : sErr s.1.length x = 0 := by unfold sErr; rw [hn, if_neg (by simp), if_pos he, if_neg hu]
     rw [he, dec_f hu, firstE_pass hf]
     exact ih
   ·have hf : sErr s.1.length x = endsP x.2.2.1 0 999 := by unfold sErr; rw [hn, if_neg (by simp), if_neg he]
    rw [show (endsP x.2.2.1 0 999 != 0) = true from bne_iff_ne.2 he, firstE_stop hf he]
    exact Ev.all fun _ => rfl
theorem L17_2 (s : Se) (h7 : s.1.length ≤ 7) (h3 : 3 ≤ s.1.length) {y : denL [(.int .i64), (.int .i64), (.int .i64)]} (h : chk2 s = y) : Ev fun k => ((Option.bind (F84 ((0, 4, List.set (List.replicate 1 0) 0 (s.2.1.length : Int), ()) : Int × Int × List Int × Unit)) fun (y : Bool × Unit) => bif y.1 then some (2, 0, 3, ()) else T17_1 s.2.1 s.2.1.length 0 s.2.1 s k : Option (denL [(.int .i64), (.int .i64), (.int .i64)]))) = some y := by
 rw [L84_1]
 simp only [Option.bind_some]
 rw [← h]
 unfold chk2
 by_cases h4 : s.2.1.length > 4
 ·rw [if_pos h4, dec_t (show (s.2.1.length : Int) > 4 by omega), Bool.or_true]
  exact Ev.all fun _ => rfl
 ·rw [if_neg h4, dec_f (show ¬ (s.2.1.length : Int) > 4 by omega), dec_f (show ¬ (s.2.1.length : Int) < 0 by omega)]
  have := L17_1 s h7 h3 (by omega) s.2.1.length 0 (by omega)
  rw [List.drop_zero] at this
  exact this
theorem L17 (s : Se) : F17 ((s, ()) : Se × Unit) = some (chkP s) := by
 refine N17 _ ?_
 rw [L84_1]
 simp only [Option.bind_some]
 unfold chkP
 by_cases hl : s.1.length < 3 ∨ s.1.length > 7
 ·rw [if_pos hl]
  have : (decide ((s.1.length : Int) < 3) || decide ((s.1.length : Int) > 7)) = true := by
   rw [Bool.or_eq_true, decide_eq_true_eq, decide_eq_true_eq]; omega
  rw [this]
  exact Ev.all fun _ => rfl
 ·rw [if_neg hl, dec_f (show ¬ (s.1.length : Int) < 3 by omega), dec_f (show ¬ (s.1.length : Int) > 7 by omega)]
  simp only [Bool.or_self, cond_false]
  have key : ∀ (c i : Nat), i + c = s.1.length → Ev fun k => T17_0 s.1 s.1.length i s.1 s k = some (match firstE yErr (s.1.drop i) i with
    | some (i, e) => (1, (i : Int), e, ())
    | none => chk2 s) := by
   intro c
   induction c with
   | zero =>
    intro i hi
    refine R17_0 _ _ _ _ _ ?_
    rw [dec_f (by omega), List.drop_eq_nil_of_le (by omega)]
    simp only [cond_false, firstE]
    exact L17_2 s (by omega) (by omega) rfl
   | succ c ih =>
    intro i hi
    have hlt : i < s.1.length := by omega
    refine R17_0 _ _ _ _ _ ?_
    have ih := ih (i + 1) (by omega)
    rw [dec_t (show (i : Int) < (s.1.length : Int) by omega), dec_t (show (0 : Int) ≤ (i : Int) by omega), wrap_succ (n := i) (by omega), Int.toNat_natCast, getD_lt hlt, List.drop_eq_getElem_cons hlt, L81]
    simp only [Bool.and_self, cond_true, Option.bind_some]
    generalize s.1[i] = x
    by_cases he : endsP x 0 99 = 0
    ·have hb : 0 ≤ x.1 ∧ x.1 ≤ 99 ∧ 0 ≤ x.2.1 ∧ x.2.1 ≤ 99 := by
      unfold endsP at he
      split at he
      ·omega
      ·rename_i h
       rw [Bool.not_eq_true, Bool.or_eq_false_iff, Bool.or_eq_false_iff, Bool.or_eq_false_iff] at h
       simp only [decide_eq_false_iff_not] at h
       omega
     rw [wrap_id (x := x.2.1 - x.1) (by omega) (by omega)]
     by_cases hu : x.2.1 - x.1 > 3
     ·have hf : yErr x = 2 := by unfold yErr; rw [if_pos he, if_pos hu]
      rw [he, dec_t hu, firstE_stop hf (by decide)]
      exact Ev.all fun _ => rfl
     ·have hf : yErr x = 0 := by unfold yErr; rw [if_pos he, if_neg hu]
      rw [he, dec_f hu, firstE_pass hf]
      exact ih
    ·have hf : yErr x = endsP x 0 99 := by unfold yErr; rw [if_neg he]
     rw [show (endsP x 0 99 != 0) = true from bne_iff_ne.2 he, firstE_stop hf he]
     exact Ev.all fun _ => rfl
  have := key s.1.length 0 (by omega)
  rw [List.drop_zero] at this
  exact this
theorem endsP_zero {x : Sp} {lo hi : Int} : endsP x lo hi = 0 ↔ lo ≤ x.1 ∧ x.1 ≤ x.2.1 ∧ x.2.1 ≤ hi := by
 unfold endsP
 split
 ·rename_i h
  rw [Bool.or_eq_true, Bool.or_eq_true, Bool.or_eq_true] at h
  simp only [decide_eq_true_eq] at h
  omega
 ·rename_i h
  rw [Bool.not_eq_true, Bool.or_eq_false_iff, Bool.or_eq_false_iff, Bool.or_eq_false_iff] at h
  simp only [decide_eq_false_iff_not] at h
  split <;> omega
theorem firstE_none {α : Type} (f : α → Int) (d : α) : ∀ (l : List α) (i : Nat), firstE f l i = none ↔ ∀ k, k < l.length → f (l.getD k d) = 0
 | [], _ => by simp [firstE]
 | x :: l, i => by
  by_cases hx : f x = 0
  ·rw [firstE_pass hx, firstE_none f d l (i + 1)]
   constructor
   ·intro h k hk
    cases k with
    | zero => exact hx
    | succ k => exact h k (by simpa using hk)
   ·intro h k hk
    exact h (k + 1) (by simpa using hk)
  ·rw [firstE_stop rfl hx]
   exact ⟨fun h => (by cases h), fun h => absurd (h 0 (by simp)) hx⟩
theorem firstE_some {α : Type} (f : α → Int) : ∀ (l : List α) (i j : Nat) (e : Int), firstE f l i = some (j, e) → e ≠ 0
 | [], _, _, _, h => by simp [firstE] at h
 | x :: l, i, j, e, h => by
  by_cases hx : f x = 0
  ·rw [firstE_pass hx] at h
   exact firstE_some f l (i + 1) j e h
  ·rw [firstE_stop rfl hx] at h
   cases h
   exact hx
theorem yErr_zero {x : Sp} : yErr x = 0 ↔ 0 ≤ x.1 ∧ x.1 ≤ x.2.1 ∧ x.2.1 ≤ 99 ∧ x.2.1 - x.1 ≤ 3 := by
 unfold yErr
 by_cases he : endsP x 0 99 = 0
 ·rw [if_pos he]
  have := endsP_zero.1 he
  split <;> omega
 ·rw [if_neg he]
  exact ⟨fun h => absurd h he, fun h => absurd (endsP_zero.2 ⟨h.1, h.2.1, h.2.2.1⟩) he⟩
theorem sErr_zero {n : Nat} {x : Sm} : sErr n x = 0 ↔ 0 ≤ x.1 ∧ x.1 ≤ x.2.1 ∧ x.2.1 < n ∧ 0 ≤ x.2.2.1.1 ∧ x.2.2.1.1 ≤ x.2.2.1.2.1 ∧ x.2.2.1.2.1 ≤ 999 := by
 unfold sErr noYear
 split
 ·rename_i h
  rw [Bool.or_eq_true, Bool.or_eq_true, Bool.or_eq_true] at h
  simp only [decide_eq_true_eq] at h
  omega
 ·rename_i h
  rw [Bool.not_eq_true, Bool.or_eq_false_iff, Bool.or_eq_false_iff, Bool.or_eq_false_iff] at h
  simp only [decide_eq_false_iff_not] at h
  by_cases he : endsP x.2.2.1 0 999 = 0
  ·rw [if_pos he]
   have := endsP_zero.1 he
   split <;> omega
  ·rw [if_neg he]
   exact ⟨fun h => absurd h he, fun h => absurd (endsP_zero.2 ⟨h.2.2.2.1, h.2.2.2.2.1, h.2.2.2.2.2⟩) he⟩
theorem chkP_ok (s : Se) : (chkP s).2.2.1 = 0 ↔ VS s := by
 unfold chkP
 by_cases hl : s.1.length < 3 ∨ s.1.length > 7
 ·rw [if_pos hl]
  exact ⟨fun h => absurd h (by decide), fun h => by have := h.lo; have := h.hi; omega⟩
 rw [if_neg hl]
 cases h1 : firstE yErr s.1 0 with
 | some p =>
  have := firstE_some _ _ _ _ _ h1
  refine ⟨fun h => absurd h this, fun h => ?_⟩
  have : firstE yErr s.1 0 = none := (firstE_none yErr sp0 _ _).2 fun k hk => yErr_zero.2 (h.years k hk)
  rw [h1] at this; cases this
 | none =>
  have hy := (firstE_none yErr sp0 _ _).1 h1
  simp only [chk2]
  by_cases h4 : s.2.1.length > 4
  ·rw [if_pos h4]
   exact ⟨fun h => absurd h (by decide), fun h => by have := h.many; omega⟩
  rw [if_neg h4]
  cases h2 : firstE (sErr s.1.length) s.2.1 0 with
  | some p =>
   have := firstE_some _ _ _ _ _ h2
   refine ⟨fun h => absurd h this, fun h => ?_⟩
   have : firstE (sErr s.1.length) s.2.1 0 = none := (firstE_none _ sm0 _ _).2 fun k hk => sErr_zero.2 (h.sums k hk)
   rw [h2] at this; cases this
  | none =>
   have hsm := (firstE_none (sErr s.1.length) sm0 _ _).1 h2
   simp only [chk3]
   by_cases hg : endsP s.2.2.1 2 7 = 0
   ·rw [if_pos hg]
    exact ⟨fun _ => ⟨by omega, by omega, fun i hi => yErr_zero.1 (hy i hi), by omega, fun k hk => sErr_zero.1 (hsm k hk), endsP_zero.1 hg⟩, fun _ => rfl⟩
   ·rw [if_neg hg]
    exact ⟨fun h => absurd h hg, fun h => absurd (endsP_zero.2 h.gap) hg⟩
def errP (s : Se) (e : Int) (l : List Int) : Int := if (chkP s).2.2.1 = 0 then (if l.any (noYear s.1.length) = true then 4 else if e = 0 then (if truthsP s 0 = [] then 8 else 0) else e) else (chkP s).2.2.1
theorem L88 (s : Se) (e : Int) (l : List Int) (hl : l.length < 1000000) : F88 ((s, e, l, ()) : Se × Int × List Int × Unit) = some (if errP s e l = 0 then some ((s, 0, ()) : Sb) else none, errP s e l, ()) := by
 refine N88 _ _ _ ?_
 rw [L17]
 simp only [Option.bind_some]
 by_cases hc : (chkP s).2.2.1 = 0
 ·have hs := (chkP_ok s).1 hc
  have h7 := hs.hi
  have h3 := hs.lo
  rw [hc, wrap_pred (n := s.1.length) (by omega) (by omega), L84 _ _ _ (by omega)]
  simp only [bne_self_eq_false, cond_false, Option.bind_some]
  have hny : (l.any fun n => decide (n < 0) || decide (n > ((s.1.length - 1 : Nat) : Int))) = l.any (noYear s.1.length) := by
   unfold noYear
   rw [show ((s.1.length - 1 : Nat) : Int) = (s.1.length : Int) - 1 by omega]
  rw [hny]
  cases ha : l.any (noYear s.1.length) with
  | true =>
   have hv : errP s e l = 4 := by unfold errP; rw [if_pos hc, if_pos ha]
   rw [hv]
   exact Ev.all fun _ => rfl
  | false =>
   simp only [cond_false]
   by_cases he : e = 0
   ·subst he
    rw [show F106 ((s, 0, ()) : Se × Int × Unit) = some (some ((s, ((0 : Nat) : Int), ()) : Sb), ()) from L106 s 0]
    simp only [Option.bind_some]
    rw [L107 s 0 hs (by omega)]
    simp only [Option.bind_some, bne_self_eq_false, cond_false]
    by_cases ht : truthsP s 0 = []
    ·have hv : errP s 0 l = 8 := by unfold errP; rw [if_pos hc, ha, if_neg (by simp), if_pos rfl, if_pos ht]
     rw [hv, dec_f (fun h => h ht)]; exact Ev.all fun _ => rfl
    ·have hv : errP s 0 l = 0 := by unfold errP; rw [if_pos hc, ha, if_neg (by simp), if_pos rfl, if_neg ht]
     rw [hv, dec_t ht]; exact Ev.all fun _ => rfl
   ·have hv : errP s e l = e := by unfold errP; rw [if_pos hc, ha, if_neg (by simp), if_neg he]
    rw [hv, show (e != 0) = true from bne_iff_ne.2 he, if_neg he]
    exact Ev.all fun _ => rfl
 ·have hv : errP s e l = (chkP s).2.2.1 := by unfold errP; rw [if_neg hc]
  rw [hv, show ((chkP s).2.2.1 != 0) = true from bne_iff_ne.2 hc, if_neg hc]
  exact Ev.all fun _ => rfl
theorem errP_ok {s : Se} {e : Int} {l : List Int} (h : errP s e l = 0) : VS s ∧ (∀ x ∈ l, 0 ≤ x ∧ x < s.1.length) ∧ e = 0 ∧ truthsP s 0 ≠ [] := by
 unfold errP at h
 by_cases hc : (chkP s).2.2.1 = 0
 ·rw [if_pos hc] at h
  by_cases ha : l.any (noYear s.1.length) = true
  ·rw [if_pos ha] at h; omega
  rw [if_neg ha] at h
  by_cases he : e = 0
  ·rw [if_pos he] at h
   by_cases ht : truthsP s 0 = []
   ·rw [if_pos ht] at h; omega
   refine ⟨(chkP_ok s).1 hc, fun x hx => ?_, he, ht⟩
   rw [Bool.not_eq_true, List.any_eq_false] at ha
   have := ha x hx
   unfold noYear at this
   rw [Bool.not_eq_true, Bool.or_eq_false_iff, decide_eq_false_iff_not, decide_eq_false_iff_not] at this
   omega
  ·rw [if_neg he] at h; exact absurd h he
 ·rw [if_neg hc] at h; exact absurd h hc
def numsP (s : Se) (p q : Nat) : Sp := (truthsP s 0).foldl (fun c t => wide c (sumL t p q)) noneP
def numberP (s : Se) (n : Int) : Sp × Int × Unit := if errP s 0 [n] = 0 then (numsP s n.toNat n.toNat, 0, ()) else (sp0, errP s 0 [n], ())
theorem L89' {s : Se} (hs : VS s) {p q : Int} (hp : 0 ≤ p) (hpq : p ≤ q) (hq : q < s.1.length) : F89 ((some ((s, 0, ()) : Sb), p, q, ()) : Option Sb × Int × Int × Unit) = some (numsP s p.toNat q.toNat, ()) := by
 have h7 := hs.hi
 have := L89 s 0 p.toNat q.toNat hs (by omega) (by omega) (by omega)
 rw [Int.toNat_of_nonneg hp, Int.toNat_of_nonneg (by omega)] at this
 exact this
theorem L19 (s : Se) (n : Int) : F19 ((s, n, ()) : Se × Int × Unit) = some (numberP s n) := by
 refine ghost_eq (Ev.eq (fun _ => E19 _ _ _) ?_)
 rw [show List.set (List.replicate 1 (0 : Int)) 0 n = [n] from rfl, L88 _ _ _ (by simp)]
 simp only [Option.bind_some]
 by_cases he : errP s 0 [n] = 0
 ·obtain ⟨hs, hn, _, _⟩ := errP_ok he
  have hn := hn n (by simp)
  have hv : numberP s n = (numsP s n.toNat n.toNat, 0, ()) := if_pos he
  rw [hv, if_pos he, he]
  simp only [bne_self_eq_false, cond_false]
  rw [L89' hs hn.1 (Int.le_refl _) hn.2]
  exact Ev.all fun _ => rfl
 ·have hv : numberP s n = (sp0, errP s 0 [n], ()) := if_neg he
  rw [hv, show (errP s 0 [n] != 0) = true from bne_iff_ne.2 he]
  exact Ev.all fun _ => rfl
end Go.Proofs.YtkbephbhajplhaaDoor
/- Maxima, minima, and how far apart maxima are. Conditions: as each lemma states. -/
namespace Go.Proofs.YtkbephbhajplhaaDoor
open Go Go.Gh Go.Proofs
theorem bit_val (k i : Nat) (hk : k < 1000000000000) (hi : i ≤ 64) : bitF BinOp.and IntKind.i64 (Int.fdiv (k : Int) (2 ^ min i 64)) 1 = if k.testBit i = true then 1 else 0 := by
 have h1 := bit_ok k i hk hi
 have h2 := bit_no k i hk hi
 cases hb : k.testBit i with
 | true => rw [hb] at h1; rw [if_pos rfl]; exact eq_of_beq h1
 | false => rw [hb] at h2; rw [if_neg (by simp)]; exact eq_of_beq h2
def isBot (n : Nat) (t : List Int) (i : Nat) : Bool := decide (0 < i) && decide (i + 1 < n) && decide (t.getD i 0 < if t.getD (i + 1) 0 < t.getD (i - 1) 0 then t.getD (i + 1) 0 else t.getD (i - 1) 0)
def count24 (n p : Nat) (C : Int × Int × Int) (t : List Int) : Int × Int × Int :=
 (IntKind.wrap IntKind.i64 (C.1 + if isTop n t p = true then 1 else 0), if isBot n t p = true then IntKind.wrap IntKind.i64 (C.2.1 + 1) else C.2.1, IntKind.wrap IntKind.i64 (C.2.2 + 1))
theorem fin24 {s : Se} (hs : VS s) {but p : Nat} (hp : p < s.1.length) {l4 : Int} {C : Int × Int × Int} {t : List Int} {b : Bool} : a2_24s122 s but p l4 s.1.length C t b (p_24s122 s but p true (count24 s.1.length p C t) t t) := by
 have h7 := hs.hi
 have h3 := hs.lo
 have hlt := topsP_lt s.1.length t
 have h128 : 2 ^ s.1.length ≤ 128 := Nat.pow_le_pow_right (by decide) h7
 refine U24s122_2 _ _ _ _ _ _ _ _ _ _ _ _ _ _ _ (Ev.eq (fun _ => Q24s122_2 _ _ _ _ _ _ _ _ _ _ _ _ _ _ _ _ _) ?_)
 rw [dec_f (show ¬ ((s.1.length : Int) < (s.1.length : Int)) by omega)]
 simp only [cond_false]
 rw [L96 s but t h3 h7]
 simp only [Option.bind_some]
 rw [dec_f (show ¬ (p : Int) < 0 by omega), Int.toNat_natCast, bit_val _ p (by omega) (by omega), topsP_bit, wrap_succ (n := p) (by omega)]
 simp only [cond_false]
 by_cases h0 : 0 < p
 ·rw [dec_t (show (p : Int) > 0 by omega), wrap_pred (n := p) (by omega) h0]
  simp only [cond_true]
  by_cases h1 : p + 1 < s.1.length
  ·rw [dec_t (show ((p + 1 : Nat) : Int) < (s.1.length : Int) by omega), dec_t (show (0 : Int) ≤ (p : Int) by omega), dec_t (show (p : Int) < 7 by omega), dec_t (show p < 7 by omega), dec_t (show (0 : Int) ≤ ((p - 1 : Nat) : Int) by omega), dec_t (show ((p - 1 : Nat) : Int) < 7 by omega), Int.toNat_natCast, dec_t (show p - 1 < 7 by omega),
    dec_t (show (0 : Int) ≤ ((p + 1 : Nat) : Int) by omega), dec_t (show ((p + 1 : Nat) : Int) < 7 by omega), Int.toNat_natCast, dec_t (show p + 1 < 7 by omega)]
   simp only [Bool.and_self, cond_true]
   have e : isBot s.1.length t p = decide (t.getD p 0 < if t.getD (p + 1) 0 < t.getD (p - 1) 0 then t.getD (p + 1) 0 else t.getD (p - 1) 0) := by
    unfold isBot
    rw [dec_t h0, dec_t h1]; rfl
   rw [← e]
   unfold count24
   cases isBot s.1.length t p with
   | true => exact Ev.all fun _ => rfl
   | false => exact Ev.all fun _ => rfl
  ·have e : isBot s.1.length t p = false := by
    unfold isBot
    rw [dec_f h1]; simp
   rw [dec_f (show ¬ ((p + 1 : Nat) : Int) < (s.1.length : Int) by omega)]
   unfold count24
   rw [e]
   exact Ev.all fun _ => rfl
 ·have e : isBot s.1.length t p = false := by
   unfold isBot
   rw [dec_f h0]; simp
  rw [dec_f (show ¬ (p : Int) > 0 by omega)]
  unfold count24
  rw [e]
  exact Ev.all fun _ => rfl
theorem ext_len {s : Se} (hs : VS s) (but : Nat) : ∀ (c : Nat) (p : List Int), p.length + c = s.1.length → (ext s but c p).length ≤ 4 ^ c
 | 0, p, _ => by
  simp only [ext]
  split <;> simp
 | c + 1, p, h => by
  simp only [ext]
  have hy := hs.years p.length (by omega)
  have h4 : (valsOf s p.length).length ≤ 4 := by
   unfold valsOf
   rw [Few.upto_len]
   omega
  have := Few.flat_len (fun v => if okS s but (p ++ [v]) p.length = true then ext s but c (p ++ [v]) else []) (4 ^ c) (valsOf s p.length) (fun v _ => by
   split
   ·exact ext_len hs but c (p ++ [v]) (by simp; omega)
   ·simp)
  refine Nat.le_trans this ?_
  rw [Nat.pow_succ, Nat.mul_comm]
  exact Nat.mul_le_mul (Nat.le_refl _) h4
theorem truths_len {s : Se} (hs : VS s) (but : Nat) : (truthsP s but).length ≤ 16384 := by
 refine Nat.le_trans (ext_len hs but s.1.length [] (by simp)) ?_
 exact Nat.le_trans (Nat.pow_le_pow_right (by decide) hs.hi) (by decide)
theorem count_eq (n p : Nat) : ∀ (l : List (List Int)) (a b c : Nat), a ≤ 1000000 → b ≤ 1000000 → c ≤ 1000000 → a + l.length ≤ 1000000 → b + l.length ≤ 1000000 → c + l.length ≤ 1000000 →
  l.foldl (count24 n p) ((a : Int), (b : Int), (c : Int)) = (((a + l.countP (isTop n · p) : Nat) : Int), ((b + l.countP (isBot n · p) : Nat) : Int), ((c + l.length : Nat) : Int))
 | [], _, _, _, _, _, _, _, _, _ => rfl
 | t :: l, a, b, c, ha, hb, hc, h1, h2, h3 => by
  simp only [List.length_cons] at h1 h2 h3
  have e : count24 n p ((a : Int), (b : Int), (c : Int)) t = (((a + (if isTop n t p = true then 1 else 0) : Nat) : Int), ((b + (if isBot n t p = true then 1 else 0) : Nat) : Int), ((c + 1 : Nat) : Int)) := by
   unfold count24
   simp only
   rw [wrap_succ (n := b) (by omega), wrap_succ (n := c) (by omega)]
   cases isTop n t p <;> cases isBot n t p <;> simp only [if_true, Bool.false_eq_true, if_false] <;> (rw [wrap_id (by omega) (by omega)]; simp)
  rw [List.foldl_cons, e, count_eq n p l _ _ _ (by split <;> omega) (by split <;> omega) (by omega) (by split <;> omega) (by split <;> omega) (by omega)]
  rw [List.countP_cons, List.countP_cons, List.length_cons]
  refine Prod.ext ?_ (Prod.ext ?_ ?_)
  ·simp only; congr 1; omega
  ·simp only; congr 1; omega
  ·simp only; congr 1; omega
def turnsP (s : Se) (n : Int) : Int × Int × Int × Unit := if errP s 0 [n] = 0 then
  (settledP ((truthsP s 0).countP (isTop s.1.length · n.toNat) : Nat) ((truthsP s 0).length : Nat), settledP ((truthsP s 0).countP (isBot s.1.length · n.toNat) : Nat) ((truthsP s 0).length : Nat), 0, ())
 else (0, 0, errP s 0 [n], ())
theorem L24 (s : Se) (n : Int) : F24 ((s, n, ()) : Se × Int × Unit) = some (turnsP s n) := by
 refine ghost_eq (Ev.eq (fun _ => E24 _ _ _) ?_)
 rw [show List.set (List.replicate 1 (0 : Int)) 0 n = [n] from rfl, L88 _ _ _ (by simp)]
 simp only [Option.bind_some]
 by_cases he : errP s 0 [n] = 0
 ·obtain ⟨hs, hn, _, _⟩ := errP_ok he
  have hn := hn n (by simp)
  have h7 := hs.hi
  have hl := truths_len hs 0
  obtain ⟨t', l', _, h⟩ := (dfs_24s122 s 0 n.toNat hs (by omega) (fun c t => (count24 s.1.length n.toNat c t, true)) (fun _ => fin24 hs (by omega))).start hs ((0 : Nat), (0 : Nat), (0 : Nat))
  rw [fold_all, count_eq _ _ _ _ _ _ (by omega) (by omega) (by omega) (by omega) (by omega) (by omega)] at h
  have hv : turnsP s n = (settledP ((truthsP s 0).countP (isTop s.1.length · n.toNat) : Nat) ((truthsP s 0).length : Nat), settledP ((truthsP s 0).countP (isBot s.1.length · n.toNat) : Nat) ((truthsP s 0).length : Nat), 0, ()) := if_pos he
  have key : ∀ {y : R24s122}, a0_24s122 s 0 n.toNat 0 (0, 0, 0) (List.replicate 7 0) (-1 :: List.replicate 6 0) y →
    G24s122 Y24s122 (((0, (), (), (), (), (), (), ()), ()), s, n, 0, 0, some ((s, 0, ()) : Sb), 0, ((), (), (), (), (), (), ()), some ((s, 0, ()) : Sb), (), ((some ((s, 0, ()) : Sb), ()), ()), List.replicate 7 0, -1 :: List.replicate 6 0, u8, ()) = some y := fun h => by
   have := gsub_eq h
   rw [Int.toNat_of_nonneg hn.1] at this
   exact this
  rw [hv, if_pos he, he]
  simp only [bne_self_eq_false, cond_false]
  rw [key h]
  rw [Nat.zero_add, Nat.zero_add, Nat.zero_add]
  show Ev fun _ => ((Option.bind (F97 ((((truthsP s 0).countP (isTop s.1.length · n.toNat) : Nat), ((truthsP s 0).length : Nat), ()) : Int × Int × Unit)) fun (y1 : Int × Unit) => Option.bind (F97 ((((truthsP s 0).countP (isBot s.1.length · n.toNat) : Nat), ((truthsP s 0).length : Nat), ()) : Int × Int × Unit)) fun (y : Int × Unit) => some (y1.1, y.1, 0, ())) : Option (Int × Int × Int × Unit)) = some _
  rw [L97, L97]
  exact Ev.all fun _ => rfl
 ·have hv : turnsP s n = (0, 0, errP s 0 [n], ()) := if_neg he
  rw [hv, show (errP s 0 [n] != 0) = true from bne_iff_ne.2 he]
  exact Ev.all fun _ => rfl
def gapW : Sp → Int → List Nat → Sp
 | C, _, [] => C
 | C, l, k :: r => gapW (if l < 0 then C else wide C ((k : Int) - l)) k r
theorem fin26 {s : Se} (hs : VS s) {but : Nat} {x0 : Sp} {l4 : Int} {C : Sp} {t : List Int} {b : Bool} : a2_26s122 s but x0 l4 s.1.length C t b (p_26s122 s but x0 true (gapW C (-1) (topsFrom s.1.length t 0)) t t) := by
 have h7 := hs.hi
 have h3 := hs.lo
 have hlt := topsP_lt s.1.length t
 have h128 : 2 ^ s.1.length ≤ 128 := Nat.pow_le_pow_right (by decide) h7
 refine U26s122_2 _ _ _ _ _ _ _ _ _ _ _ _ (Ev.eq (fun _ => Q26s122_2 _ _ _ _ _ _ _ _ _ _ _ _ _ _) ?_)
 rw [dec_f (show ¬ ((s.1.length : Int) < (s.1.length : Int)) by omega)]
 simp only [cond_false]
 rw [L96 s but t h3 h7]
 simp only [Option.bind_some]
 have key : ∀ (c k : Nat) (l4 : Int) (C : Sp), k + c = s.1.length → -1 ≤ l4 → l4 ≤ 7 → Ev fun f => T26s122_4 l4 s.1.length k t x0 (some ((s, (but : Int), ()) : Sb)) C (some ((s, (but : Int), ()) : Sb)) (some ((s, (but : Int), ()) : Sb)) t t b ((topsP s.1.length t : Nat) : Int) f = some (p_26s122 s but x0 true (gapW C l4 (topsFrom s.1.length t k)) t t) := by
  intro c
  induction c with
  | zero =>
   intro k l4 C hk _ _
   obtain rfl : k = s.1.length := by omega
   refine U26s122_4 _ _ _ _ _ _ _ _ _ _ _ _ _ (Ev.eq (fun _ => Q26s122_4 _ _ _ _ _ _ _ _ _ _ _ _ _ _ _) ?_)
   rw [dec_f (show ¬ ((s.1.length : Int) < (s.1.length : Int)) by omega), show topsFrom s.1.length t s.1.length = [] by simp [topsFrom]]
   exact Ev.all fun _ => rfl
  | succ c ih =>
   intro k l4 C hk h1 h2
   have hlt : k < s.1.length := by omega
   have hcons : topsFrom s.1.length t k = if isTop s.1.length t k = true then k :: topsFrom s.1.length t (k + 1) else topsFrom s.1.length t (k + 1) := by
    unfold topsFrom
    rw [show s.1.length - k = (s.1.length - (k + 1)) + 1 from by omega, List.range'_succ, List.filter_cons]
   refine U26s122_4 _ _ _ _ _ _ _ _ _ _ _ _ _ (Ev.eq (fun _ => Q26s122_4 _ _ _ _ _ _ _ _ _ _ _ _ _ _ _) ?_)
   rw [dec_t (show (k : Int) < (s.1.length : Int) by omega), dec_f (show ¬ ((k : Int) < 0) by omega), Int.toNat_natCast, bit_no _ k (by omega) (by omega), topsP_bit, wrap_succ (n := k) (by omega), wrap_id (x := (k : Int) - l4) (by omega) (by omega), L100]
   simp only [cond_true, cond_false, Option.bind_some]
   cases ht : isTop s.1.length t k with
   | false =>
    rw [ht, if_neg (by simp)] at hcons
    rw [hcons]
    exact ih (k + 1) l4 C (by omega) h1 h2
   | true =>
    rw [ht, if_pos rfl] at hcons
    rw [hcons]
    simp only [Bool.not_true, cond_false, gapW]
    by_cases h4 : l4 < 0
    ·rw [dec_f (show ¬ l4 ≥ 0 by omega), if_pos h4]
     exact ih (k + 1) k C (by omega) (by omega) (by omega)
    ·rw [dec_t (show l4 ≥ 0 by omega), if_neg h4]
     exact ih (k + 1) k (wide C ((k : Int) - l4)) (by omega) (by omega) (by omega)
 exact key s.1.length 0 (-1) C (by omega) (by omega) (by omega)
def spanP (x : Sp) : Sp × Int × Unit := if x = noneP then (sp0, 9, ()) else (x, 0, ())
def gapsP (s : Se) : Sp × Int × Unit := if errP s 0 [] = 0 then spanP ((truthsP s 0).foldl (fun C t => gapW C (-1) (topsFrom s.1.length t 0)) noneP) else (sp0, errP s 0 [], ())
theorem L26 (s : Se) : F26 ((s, ()) : Se × Unit) = some (gapsP s) := by
 refine ghost_eq (Ev.eq (fun _ => E26 _ _) ?_)
 rw [L88 _ _ _ (by simp)]
 simp only [Option.bind_some]
 by_cases he : errP s 0 [] = 0
 ·obtain ⟨hs, _, _, _⟩ := errP_ok he
  obtain ⟨t', l', _, h⟩ := (dfs_26s122 s 0 (0, 0, ()) hs (by omega) (fun C t => (gapW C (-1) (topsFrom s.1.length t 0), true)) (fun _ => fin26 hs)).start hs noneP
  rw [fold_all] at h
  have hv : gapsP s = spanP ((truthsP s 0).foldl (fun C t => gapW C (-1) (topsFrom s.1.length t 0)) noneP) := if_pos he
  generalize (truthsP s 0).foldl (fun C t => gapW C (-1) (topsFrom s.1.length t 0)) noneP = z at h hv
  have key : ∀ {y : R26s122}, a0_26s122 s 0 (0, 0, ()) 0 noneP (List.replicate 7 0) (-1 :: List.replicate 6 0) y →
    G26s122 Y26s122 (((0, (), (), (), (), (), (), ()), ()), (0, 0, ()), some ((s, 0, ()) : Sb), (1099511627776, -1, ()), ((), (), ()), some ((s, 0, ()) : Sb), (), ((some ((s, 0, ()) : Sb), ()), ()), List.replicate 7 0, -1 :: List.replicate 6 0, u8, ()) = some y := fun h => gsub_eq h
  rw [hv, if_pos he, he]
  simp only [bne_self_eq_false, cond_false]
  rw [key h]
  show Ev fun _ => ((Option.bind (F101 ((z, ()) : Sp × Unit)) fun (y : Sp × Int × Unit) => some (y.1, y.2.1, ())) : Option (Sp × Int × Unit)) = some _
  rw [L101]
  unfold spanP
  by_cases hz : z = noneP
  ·rw [if_pos hz]; exact Ev.all fun _ => rfl
  ·rw [if_neg hz]; exact Ev.all fun _ => rfl
 ·have hv : gapsP s = (sp0, errP s 0 [], ()) := if_neg he
  rw [hv, show (errP s 0 [] != 0) = true from bne_iff_ne.2 he]
  exact Ev.all fun _ => rfl
end Go.Proofs.YtkbephbhajplhaaDoor
/- When the next maximum can be, and which year a wreck can have been. Conditions: as each lemma states. -/
namespace Go.Proofs.YtkbephbhajplhaaDoor
open Go Go.Gh Go.Proofs
def lastT (n : Nat) (t : List Int) (k : Nat) (l : Int) : Int := match (topsFrom n t k).getLast? with
 | some x => x
 | none => l
def maxI (a b : Int) : Int := if a > b then a else b
def nextW (s : Se) (C : Sp) (t : List Int) : Sp :=
 let l := lastT s.1.length t 0 (-1)
 if l < 0 then C else
  let y := maxI (l + s.2.2.1.1) (if t.getD (s.1.length - 1) 0 > t.getD (s.1.length - 2) 0 then ((s.1.length - 1 : Nat) : Int) else (s.1.length : Int))
  if y ≤ l + s.2.2.1.2.1 then wide (wide C y) (l + s.2.2.1.2.1) else C
theorem tops_cons {n k : Nat} (t : List Int) (h : k < n) : topsFrom n t k = if isTop n t k = true then k :: topsFrom n t (k + 1) else topsFrom n t (k + 1) := by
 unfold topsFrom
 rw [show n - k = (n - (k + 1)) + 1 from by omega, List.range'_succ, List.filter_cons]
theorem tops_nil (n : Nat) (t : List Int) : topsFrom n t n = [] := by simp [topsFrom]
theorem lastT_top {n k : Nat} {t : List Int} (l : Int) (h : k < n) (ht : isTop n t k = true) : lastT n t k l = lastT n t (k + 1) k := by
 unfold lastT
 rw [tops_cons t h, if_pos ht, List.getLast?_cons]
 cases (topsFrom n t (k + 1)).getLast? <;> rfl
theorem lastT_no {n k : Nat} {t : List Int} (l : Int) (h : k < n) (ht : isTop n t k = false) : lastT n t k l = lastT n t (k + 1) l := by
 unfold lastT
 rw [tops_cons t h, ht, if_neg (by simp)]
theorem fin28 {s : Se} (hs : VS s) {but : Nat} {x0 : Sp} {l4 : Int} {C : Sp} {t : List Int} {b : Bool} : a2_28s122 s but x0 l4 s.1.length C t b (p_28s122 s but x0 true (nextW s C t) t t) := by
 have h7 := hs.hi
 have h3 := hs.lo
 have hg := hs.gap
 have hlt := topsP_lt s.1.length t
 have h128 : 2 ^ s.1.length ≤ 128 := Nat.pow_le_pow_right (by decide) h7
 refine U28s122_2 _ _ _ _ _ _ _ _ _ _ _ _ _ _ (Ev.eq (fun _ => Q28s122_2 _ _ _ _ _ _ _ _ _ _ _ _ _ _ _ _) ?_)
 rw [dec_f (show ¬ ((s.1.length : Int) < (s.1.length : Int)) by omega)]
 simp only [cond_false]
 have key : ∀ (c k : Nat) (l : Int), k + c = s.1.length → -1 ≤ l → l < 7 → lastT s.1.length t k l = lastT s.1.length t 0 (-1) → Ev fun f => T28s122_4 l s.1.length k t s x0 (some ((s, (but : Int), ()) : Sb)) C ((s.1.length - 1 : Nat) : Int) (some ((s, (but : Int), ()) : Sb)) (some ((s, (but : Int), ()) : Sb)) t t b t f = some (p_28s122 s but x0 true (nextW s C t) t t) := by
  intro c
  induction c with
  | zero =>
   intro k l hk hl0 hl7 hl
   obtain rfl : k = s.1.length := by omega
   have hl : lastT s.1.length t 0 (-1) = l := by
    rw [← hl]
    unfold lastT
    rw [tops_nil]; rfl
   refine U28s122_4 _ _ _ _ _ _ _ _ _ _ _ _ _ _ _ (Ev.eq (fun _ => Q28s122_4 _ _ _ _ _ _ _ _ _ _ _ _ _ _ _ _ _) ?_)
   rw [dec_f (show ¬ ((s.1.length : Int) < (s.1.length : Int)) by omega)]
   simp only [cond_false]
   unfold nextW
   simp only [hl]
   by_cases hn : l < 0
   ·rw [dec_t hn, if_pos hn]
    exact Ev.all fun _ => rfl
   ·rw [dec_f hn, if_neg hn]
    rw [dec_t (show (0 : Int) ≤ ((s.1.length - 1 : Nat) : Int) by omega), dec_t (show ((s.1.length - 1 : Nat) : Int) < 7 by omega), Int.toNat_natCast, dec_t (show s.1.length - 1 < 7 by omega), wrap_pred (n := s.1.length - 1) (by omega) (by omega), dec_t (show (0 : Int) ≤ ((s.1.length - 1 - 1 : Nat) : Int) by omega), dec_t (show ((s.1.length - 1 - 1 : Nat) : Int) < 7 by omega), Int.toNat_natCast, dec_t (show s.1.length - 1 - 1 < 7 by omega),
     wrap_id (x := l + s.2.2.1.1) (by omega) (by omega), wrap_id (x := l + s.2.2.1.2.1) (by omega) (by omega), wrap_succ (n := s.1.length - 1) (by omega), show s.1.length - 1 - 1 = s.1.length - 2 by omega, show s.1.length - 1 + 1 = s.1.length by omega]
    simp only [Bool.and_self, cond_true, cond_false]
    by_cases hr : t.getD (s.1.length - 1) 0 > t.getD (s.1.length - 2) 0
    ·rw [dec_t hr, if_pos hr]
     simp only [cond_true]
     rw [show (if l + s.2.2.1.1 > ((s.1.length - 1 : Nat) : Int) then l + s.2.2.1.1 else ((s.1.length - 1 : Nat) : Int)) = maxI (l + s.2.2.1.1) ((s.1.length - 1 : Nat) : Int) from rfl]
     generalize maxI (l + s.2.2.1.1) ((s.1.length - 1 : Nat) : Int) = y
     by_cases hy : y ≤ l + s.2.2.1.2.1
     ·rw [dec_t hy, if_pos hy, L100]
      simp only [cond_true, Option.bind_some]
      rw [L100]
      exact Ev.all fun _ => rfl
     ·rw [dec_f hy, if_neg hy]
      exact Ev.all fun _ => rfl
    ·rw [dec_f hr, if_neg hr]
     simp only [cond_false]
     rw [show (if l + s.2.2.1.1 > (s.1.length : Int) then l + s.2.2.1.1 else (s.1.length : Int)) = maxI (l + s.2.2.1.1) (s.1.length : Int) from rfl]
     generalize maxI (l + s.2.2.1.1) (s.1.length : Int) = y
     by_cases hy : y ≤ l + s.2.2.1.2.1
     ·rw [dec_t hy, if_pos hy, L100]
      simp only [cond_true, Option.bind_some]
      rw [L100]
      exact Ev.all fun _ => rfl
     ·rw [dec_f hy, if_neg hy]
      exact Ev.all fun _ => rfl
  | succ c ih =>
   intro k l hk hl0 hl7 hl
   have hlt : k < s.1.length := by omega
   refine U28s122_4 _ _ _ _ _ _ _ _ _ _ _ _ _ _ _ (Ev.eq (fun _ => Q28s122_4 _ _ _ _ _ _ _ _ _ _ _ _ _ _ _ _ _) ?_)
   rw [dec_t (show (k : Int) < (s.1.length : Int) by omega), L96 s but t h3 h7]
   simp only [cond_true, Option.bind_some]
   rw [dec_f (show ¬ ((k : Int) < 0) by omega), Int.toNat_natCast, bit_ok _ k (by omega) (by omega), topsP_bit, wrap_succ (n := k) (by omega)]
   simp only [cond_false]
   cases ht : isTop s.1.length t k with
   | false =>
    exact ih (k + 1) l (by omega) hl0 hl7 (by rw [← hl, lastT_no l hlt ht])
   | true =>
    exact ih (k + 1) k (by omega) (by omega) (by omega) (by rw [← hl, lastT_top l hlt ht])
 exact key s.1.length 0 (-1) (by omega) (by omega) (by omega) rfl
def nextP (s : Se) : Sp × Int × Unit := if errP s 0 [] = 0 then spanP ((truthsP s 0).foldl (nextW s) noneP) else (sp0, errP s 0 [], ())
theorem L28 (s : Se) : F28 ((s, ()) : Se × Unit) = some (nextP s) := by
 refine ghost_eq (Ev.eq (fun _ => E28 _ _) ?_)
 rw [L88 _ _ _ (by simp)]
 simp only [Option.bind_some]
 by_cases he : errP s 0 [] = 0
 ·obtain ⟨hs, _, _, _⟩ := errP_ok he
  have h3 := hs.lo
  have h7 := hs.hi
  obtain ⟨t', l', _, h⟩ := (dfs_28s122 s 0 (0, 0, ()) hs (by omega) (fun C t => (nextW s C t, true)) (fun _ => fin28 hs)).start hs noneP
  rw [fold_all] at h
  have hv : nextP s = spanP ((truthsP s 0).foldl (nextW s) noneP) := if_pos he
  have e0 : (truthsP s 0).foldl (fun C t => nextW s C t) noneP = (truthsP s 0).foldl (nextW s) noneP := rfl
  rw [e0] at h
  generalize (truthsP s 0).foldl (nextW s) noneP = z at h hv
  have key : ∀ {y : R28s122}, a0_28s122 s 0 (0, 0, ()) 0 noneP (List.replicate 7 0) (-1 :: List.replicate 6 0) y →
    G28s122 Y28s122 (((0, (), (), (), (), (), (), ()), ()), s, (0, 0, ()), some ((s, 0, ()) : Sb), (1099511627776, -1, ()), ((s.1.length - 1 : Nat) : Int), ((), (), (), (), ()), some ((s, 0, ()) : Sb), (), ((some ((s, 0, ()) : Sb), ()), ()), List.replicate 7 0, -1 :: List.replicate 6 0, u8, ()) = some y := fun h => gsub_eq h
  rw [hv, if_pos he, he, wrap_pred (n := s.1.length) (by omega) (by omega)]
  simp only [bne_self_eq_false, cond_false]
  rw [key h]
  show Ev fun _ => ((Option.bind (F101 ((z, ()) : Sp × Unit)) fun (y : Sp × Int × Unit) => some (y.1, y.2.1, ())) : Option (Sp × Int × Unit)) = some _
  rw [L101]
  unfold spanP
  by_cases hz : z = noneP
  ·rw [if_pos hz]; exact Ev.all fun _ => rfl
  ·rw [if_neg hz]; exact Ev.all fun _ => rfl
 ·have hv : nextP s = (sp0, errP s 0 [], ()) := if_neg he
  rw [hv, show (errP s 0 [] != 0) = true from bne_iff_ne.2 he]
  exact Ev.all fun _ => rfl
def metP (x : Sp) (seen : Nat) (prev v : Int) : Bool := inGap x v && (match seen with
 | 0 => true
 | 1 => decide (prev ≥ 0) && decide (prev < v)
 | _ => decide (prev > v))
def wrkW (x : Sp) (seen : Nat) : Nat → Int → List Int → Int → Int
 | _, _, [], C => C
 | i, prev, v :: r, C => wrkW x seen (i + 1) v r (if metP x seen prev v = true then bitF BinOp.or IntKind.i64 C (IntKind.wrap IntKind.i64 (1 * 2 ^ min i 64)) else C)
theorem not_in (x : Sp) (v : Int) : (decide (v < x.1) || decide (v > x.2.1)) = !inGap x v := not_gap x v
theorem fin30_0 {s : Se} (hs : VS s) {but : Nat} {x : Sp} {l4 : Int} {C : Int} {t : List Int} {b : Bool} (ht : Good t) : a2_30s122v0 s but x l4 s.1.length C t b (p_30s122v0 s but x true (wrkW x 0 0 (-1) (t.take s.1.length) C) t t) := by
 have h7 := hs.hi
 have h3 := hs.lo
 have hlen : (t.take s.1.length).length = s.1.length := by rw [List.length_take, ht.len]; omega
 refine U30s122v0_2 _ _ _ _ _ _ _ _ _ _ _ _ (Ev.eq (fun _ => Q30s122v0_2 _ _ _ _ _ _ _ _ _ _ _ _ _ _) ?_)
 rw [dec_f (show ¬ ((s.1.length : Int) < (s.1.length : Int)) by omega)]
 simp only [cond_false]
 rw [dec_t (show (0 : Int) ≤ (s.1.length : Int) by omega), dec_t (show (s.1.length : Int) ≤ 7 by omega), Int.toNat_natCast]
 simp only [Bool.and_self, cond_true]
 have key : ∀ (t u : List Int), t.length = s.1.length → ∀ (c i : Nat) (prev C : Int), i + c = s.1.length → Ev fun k => T30s122v0_4 prev t t.length i u s x C (some ((s, (but : Int), ()) : Sb)) (some ((s, (but : Int), ()) : Sb)) u u b k = some (p_30s122v0 s but x true (wrkW x 0 i prev (t.drop i) C) u u) := by
  intro t u hl c
  induction c with
  | zero =>
   intro i prev C hi
   refine U30s122v0_4 _ _ _ _ _ _ _ _ _ _ _ _ _ (Ev.eq (fun _ => Q30s122v0_4 _ _ _ _ _ _ _ _ _ _ _ _ _ _ _) ?_)
   rw [dec_f (show ¬ ((i : Int) < (t.length : Int)) by omega), List.drop_eq_nil_of_le (by omega)]
   exact Ev.all fun _ => rfl
  | succ c ih =>
   intro i prev C hi
   have hlt : i < t.length := by omega
   refine U30s122v0_4 _ _ _ _ _ _ _ _ _ _ _ _ _ (Ev.eq (fun _ => Q30s122v0_4 _ _ _ _ _ _ _ _ _ _ _ _ _ _ _) ?_)
   have ih := ih (i + 1) t[i] (if metP x 0 prev t[i] = true then bitF BinOp.or IntKind.i64 C (IntKind.wrap IntKind.i64 (1 * 2 ^ min i 64)) else C) (by omega)
   rw [dec_t (show (i : Int) < (t.length : Int) by omega), dec_t (show (0 : Int) ≤ (i : Int) by omega), dec_f (show ¬ ((i : Int) < 0) by omega), wrap_succ (n := i) (by omega), Int.toNat_natCast, getD_lt hlt, List.drop_eq_getElem_cons hlt, L84_1, not_in]
   simp only [Bool.and_self, cond_true, cond_false, Option.bind_some, wrkW]
   simp only [Bool.not_not]
   have hm : metP x 0 prev t[i] = inGap x t[i] := by simp [metP]
   cases hq : inGap x t[i] with
   | true =>
    rw [hq] at hm
    rw [hm] at ih ⊢
    exact ih
   | false =>
    rw [hq] at hm
    rw [hm] at ih ⊢
    exact ih
 have := key (t.take s.1.length) t hlen s.1.length 0 (-1) C (by omega)
 rw [List.drop_zero] at this
 exact this
theorem fin30_1 {s : Se} (hs : VS s) {but : Nat} {x : Sp} {l4 : Int} {C : Int} {t : List Int} {b : Bool} (ht : Good t) : a2_30s122v1 s but x l4 s.1.length C t b (p_30s122v1 s but x true (wrkW x 1 0 (-1) (t.take s.1.length) C) t t) := by
 have h7 := hs.hi
 have h3 := hs.lo
 have hlen : (t.take s.1.length).length = s.1.length := by rw [List.length_take, ht.len]; omega
 refine U30s122v1_2 _ _ _ _ _ _ _ _ _ _ _ _ (Ev.eq (fun _ => Q30s122v1_2 _ _ _ _ _ _ _ _ _ _ _ _ _ _) ?_)
 rw [dec_f (show ¬ ((s.1.length : Int) < (s.1.length : Int)) by omega)]
 simp only [cond_false]
 rw [dec_t (show (0 : Int) ≤ (s.1.length : Int) by omega), dec_t (show (s.1.length : Int) ≤ 7 by omega), Int.toNat_natCast]
 simp only [Bool.and_self, cond_true]
 have key : ∀ (t u : List Int), t.length = s.1.length → ∀ (c i : Nat) (prev C : Int), i + c = s.1.length → Ev fun k => T30s122v1_4 prev t t.length i u s x C (some ((s, (but : Int), ()) : Sb)) (some ((s, (but : Int), ()) : Sb)) u u b k = some (p_30s122v1 s but x true (wrkW x 1 i prev (t.drop i) C) u u) := by
  intro t u hl c
  induction c with
  | zero =>
   intro i prev C hi
   refine U30s122v1_4 _ _ _ _ _ _ _ _ _ _ _ _ _ (Ev.eq (fun _ => Q30s122v1_4 _ _ _ _ _ _ _ _ _ _ _ _ _ _ _) ?_)
   rw [dec_f (show ¬ ((i : Int) < (t.length : Int)) by omega), List.drop_eq_nil_of_le (by omega)]
   exact Ev.all fun _ => rfl
  | succ c ih =>
   intro i prev C hi
   have hlt : i < t.length := by omega
   refine U30s122v1_4 _ _ _ _ _ _ _ _ _ _ _ _ _ (Ev.eq (fun _ => Q30s122v1_4 _ _ _ _ _ _ _ _ _ _ _ _ _ _ _) ?_)
   have ih := ih (i + 1) t[i] (if metP x 1 prev t[i] = true then bitF BinOp.or IntKind.i64 C (IntKind.wrap IntKind.i64 (1 * 2 ^ min i 64)) else C) (by omega)
   rw [dec_t (show (i : Int) < (t.length : Int) by omega), dec_t (show (0 : Int) ≤ (i : Int) by omega), dec_f (show ¬ ((i : Int) < 0) by omega), wrap_succ (n := i) (by omega), Int.toNat_natCast, getD_lt hlt, List.drop_eq_getElem_cons hlt, L84_1, not_in]
   simp only [Bool.and_self, cond_true, cond_false, Option.bind_some, wrkW]
   simp only [Bool.not_not]
   have hm : metP x 1 prev t[i] = (inGap x t[i] && (decide (prev ≥ 0) && decide (prev < t[i]))) := rfl
   cases hq : inGap x t[i] with
   | true =>
    rw [hq, Bool.true_and] at hm
    by_cases h1 : prev ≥ 0
    ·rw [dec_t h1, Bool.true_and] at hm
     rw [dec_t h1]
     by_cases h2 : prev < t[i]
     ·rw [dec_t h2] at hm
      rw [dec_t h2]
      rw [hm] at ih ⊢
      exact ih
     ·rw [dec_f h2] at hm
      rw [dec_f h2]
      rw [hm] at ih ⊢
      exact ih
    ·rw [dec_f h1, Bool.false_and] at hm
     rw [dec_f h1]
     rw [hm] at ih ⊢
     exact ih
   | false =>
    rw [hq, Bool.false_and] at hm
    rw [hm] at ih ⊢
    exact ih
 have := key (t.take s.1.length) t hlen s.1.length 0 (-1) C (by omega)
 rw [List.drop_zero] at this
 exact this
theorem fin30_2 {s : Se} (hs : VS s) {but : Nat} {x : Sp} {l4 : Int} {C : Int} {t : List Int} {b : Bool} (ht : Good t) : a2_30s122v2 s but x l4 s.1.length C t b (p_30s122v2 s but x true (wrkW x 2 0 (-1) (t.take s.1.length) C) t t) := by
 have h7 := hs.hi
 have h3 := hs.lo
 have hlen : (t.take s.1.length).length = s.1.length := by rw [List.length_take, ht.len]; omega
 refine U30s122v2_2 _ _ _ _ _ _ _ _ _ _ _ _ (Ev.eq (fun _ => Q30s122v2_2 _ _ _ _ _ _ _ _ _ _ _ _ _ _) ?_)
 rw [dec_f (show ¬ ((s.1.length : Int) < (s.1.length : Int)) by omega)]
 simp only [cond_false]
 rw [dec_t (show (0 : Int) ≤ (s.1.length : Int) by omega), dec_t (show (s.1.length : Int) ≤ 7 by omega), Int.toNat_natCast]
 simp only [Bool.and_self, cond_true]
 have key : ∀ (t u : List Int), t.length = s.1.length → ∀ (c i : Nat) (prev C : Int), i + c = s.1.length → Ev fun k => T30s122v2_4 prev t t.length i u s x C (some ((s, (but : Int), ()) : Sb)) (some ((s, (but : Int), ()) : Sb)) u u b k = some (p_30s122v2 s but x true (wrkW x 2 i prev (t.drop i) C) u u) := by
  intro t u hl c
  induction c with
  | zero =>
   intro i prev C hi
   refine U30s122v2_4 _ _ _ _ _ _ _ _ _ _ _ _ _ (Ev.eq (fun _ => Q30s122v2_4 _ _ _ _ _ _ _ _ _ _ _ _ _ _ _) ?_)
   rw [dec_f (show ¬ ((i : Int) < (t.length : Int)) by omega), List.drop_eq_nil_of_le (by omega)]
   exact Ev.all fun _ => rfl
  | succ c ih =>
   intro i prev C hi
   have hlt : i < t.length := by omega
   refine U30s122v2_4 _ _ _ _ _ _ _ _ _ _ _ _ _ (Ev.eq (fun _ => Q30s122v2_4 _ _ _ _ _ _ _ _ _ _ _ _ _ _ _) ?_)
   have ih := ih (i + 1) t[i] (if metP x 2 prev t[i] = true then bitF BinOp.or IntKind.i64 C (IntKind.wrap IntKind.i64 (1 * 2 ^ min i 64)) else C) (by omega)
   rw [dec_t (show (i : Int) < (t.length : Int) by omega), dec_t (show (0 : Int) ≤ (i : Int) by omega), dec_f (show ¬ ((i : Int) < 0) by omega), wrap_succ (n := i) (by omega), Int.toNat_natCast, getD_lt hlt, List.drop_eq_getElem_cons hlt, L84_1, not_in]
   simp only [Bool.and_self, cond_true, cond_false, Option.bind_some, wrkW]
   simp only [Bool.not_not]
   have hm : metP x 2 prev t[i] = (inGap x t[i] && decide (prev > t[i])) := rfl
   cases hq : inGap x t[i] with
   | true =>
    rw [hq, Bool.true_and] at hm
    by_cases h2 : prev > t[i]
    ·rw [dec_t h2] at hm
     rw [dec_t h2]
     rw [hm] at ih ⊢
     exact ih
    ·rw [dec_f h2] at hm
     rw [dec_f h2]
     rw [hm] at ih ⊢
     exact ih
   | false =>
    rw [hq, Bool.false_and] at hm
    rw [hm] at ih ⊢
    exact ih
 have := key (t.take s.1.length) t hlen s.1.length 0 (-1) C (by omega)
 rw [List.drop_zero] at this
 exact this
end Go.Proofs.YtkbephbhajplhaaDoor
/- The years of a wreck, the fewest wrong sums, and means. Conditions: as each lemma states. -/
namespace Go.Proofs.YtkbephbhajplhaaDoor
open Go Go.Gh Go.Proofs
theorem L104 (m n : Nat) (hm : m < 1000000000000) (hn : n ≤ 7) : F104 (((m : Int), (n : Int), ()) : Int × Int × Unit) = some (numsL (m.testBit ·) n, ()) := by
 refine N104 _ _ ?_
 rw [dec_t (show (0 : Int) ≤ (n : Int) by omega), dec_t (show (n : Int) ≤ 2147483648 by omega), dec_t (show (n : Int) = (n : Int) from rfl)]
 simp only [Bool.and_self, cond_true]
 have key : ∀ (c i : Nat) (h0 : List Int), i + c = n → h0.length = n → h0.take (numsL (m.testBit ·) i).length = numsL (m.testBit ·) i → Ev fun k => T104_0 m ((numsL (m.testBit ·) i).length : Nat) n i h0 k = some (numsL (m.testBit ·) n, ()) := by
  intro c
  induction c with
  | zero =>
   intro i h0 hi hl ht
   obtain rfl : i = n := by omega
   have hle := numsL_len (m.testBit ·) i
   refine R104_0 _ _ _ _ _ ?_
   rw [dec_f (show ¬ (i : Int) < (i : Int) by omega), dec_t (show (0 : Int) ≤ (((numsL (m.testBit ·) i).length : Nat) : Int) by omega), dec_t (show (((numsL (m.testBit ·) i).length : Nat) : Int) ≤ (h0.length : Int) by omega)]
   simp only [Bool.and_self, cond_true, cond_false, Int.toNat_natCast, List.drop_zero]
   rw [ht]
   exact Ev.all fun _ => rfl
  | succ c ih =>
   intro i h0 hi hl ht
   have hle := numsL_len (m.testBit ·) i
   have hlt : i < n := by omega
   have hs := numsL_succ (m.testBit ·) i
   have ih := ih (i + 1)
   generalize numsL (m.testBit ·) i = L at ht hle hs
   refine R104_0 _ _ _ _ _ ?_
   rw [dec_t (show (i : Int) < (n : Int) by omega), dec_f (show ¬ (i : Int) < 0 by omega), Int.toNat_natCast, bit_ok m i hm (by omega), wrap_succ (n := i) (by omega), one_set, dec_t (show (0 : Int) ≤ ((L.length : Nat) : Int) by omega), dec_t (show ((L.length : Nat) : Int) ≤ (h0.length : Int) by omega), Int.toNat_natCast,
    show min (List.length [(i : Int)]) (h0.length - L.length) = 1 by simp only [List.length_cons, List.length_nil]; omega, show (((1 : Nat) : Int)) = 1 from rfl, wrap_succ (n := L.length) (by omega), ht]
   simp only [Bool.and_self, cond_true, cond_false]
   cases hb : m.testBit i with
   | false =>
    rw [hb, if_neg (by simp)] at hs
    rw [hs] at ih
    exact ih h0 (by omega) hl ht
   | true =>
    rw [hb, if_pos rfl] at hs
    rw [hs] at ih
    have := ih (L ++ List.take 1 [(i : Int)] ++ List.drop (L.length + 1) h0) (by omega) (by simp; omega) (by
     rw [show L ++ [(i : Int)] = L ++ List.take 1 [(i : Int)] from rfl]
     exact List.take_left)
    rw [show (L ++ [(i : Int)]).length = L.length + 1 by simp] at this
    exact this
 exact key n 0 (List.replicate n 0) (by omega) (by simp) rfl
theorem or_bit (m i : Nat) (hm : m < 128) (hi : i < 7) : bitF BinOp.or IntKind.i64 (m : Int) (IntKind.wrap IntKind.i64 (1 * 2 ^ min i 64)) = ((m ||| 2 ^ i : Nat) : Int) ∧ m ||| 2 ^ i < 128 := by
 have h : 2 ^ i < 128 := Nat.lt_of_lt_of_le (Nat.pow_lt_pow_right (by decide) hi) (by decide)
 rw [shl_nat i (by omega), or_nat m (2 ^ i) (by omega) (by omega)]
 exact ⟨rfl, Nat.or_lt_two_pow (n := 7) hm h⟩
def metAt (x : Sp) (seen : Nat) (l : List Int) (i : Nat) : Bool := metP x seen (if i = 0 then -1 else l.getD (i - 1) 0) (l.getD i 0)
theorem wrk_bit (x : Sp) (seen : Nat) : ∀ (r : List Int) (i : Nat) (prev : Int) (m : Nat), m < 128 → i + r.length ≤ 7 →
  ∃ m' : Nat, wrkW x seen i prev r m = (m' : Int) ∧ m' < 128 ∧ ∀ j, m'.testBit j = (m.testBit j || (decide (i ≤ j) && decide (j < i + r.length) && metP x seen (if j = i then prev else r.getD (j - i - 1) 0) (r.getD (j - i) 0)))
 | [], i, prev, m, hm, _ => ⟨m, rfl, hm, fun j => by
   have : (decide (i ≤ j) && decide (j < i + ([] : List Int).length)) = false := by
    simp only [List.length_nil]
    rw [Bool.and_eq_false_iff, decide_eq_false_iff_not, decide_eq_false_iff_not]; omega
   rw [this]; simp⟩
 | v :: r, i, prev, m, hm, hl => by
  simp only [List.length_cons] at hl
  have step : ∃ m1 : Nat, (if metP x seen prev v = true then bitF BinOp.or IntKind.i64 (m : Int) (IntKind.wrap IntKind.i64 (1 * 2 ^ min i 64)) else (m : Int)) = (m1 : Int) ∧ m1 < 128 ∧ ∀ j, m1.testBit j = (m.testBit j || (decide (j = i) && metP x seen prev v)) := by
   obtain ⟨h1, h2⟩ := or_bit m i hm (by omega)
   cases metP x seen prev v with
   | true =>
    refine ⟨m ||| 2 ^ i, by rw [if_pos rfl, h1], h2, fun j => ?_⟩
    rw [Nat.testBit_or, Nat.testBit_two_pow, Bool.and_true]
    congr 1
    rw [Bool.eq_iff_iff, decide_eq_true_eq, decide_eq_true_eq]
    exact eq_comm
   | false => exact ⟨m, by rw [if_neg (by simp)], hm, fun j => by simp⟩
  obtain ⟨m1, e1, hm1, b1⟩ := step
  obtain ⟨m', e2, hm', b2⟩ := wrk_bit x seen r (i + 1) v m1 hm1 (by omega)
  refine ⟨m', by simp only [wrkW]; rw [e1, e2], hm', fun j => ?_⟩
  rw [b2 j, b1 j, Bool.or_assoc]
  congr 1
  simp only [List.length_cons]
  by_cases h0 : j = i
  ·subst h0
   rw [if_pos rfl, dec_f (show ¬ j + 1 ≤ j by omega), dec_t (rfl : j = j), dec_t (Nat.le_refl j), dec_t (show j < j + (r.length + 1) by omega), Nat.sub_self]
   simp
  ·rw [dec_f h0, if_neg h0, Bool.false_and, Bool.false_or]
   by_cases h1 : i < j
   ·obtain ⟨d, rfl⟩ : ∃ d, j = i + 1 + d := ⟨j - i - 1, by omega⟩
    rw [dec_t (show i + 1 ≤ i + 1 + d by omega), dec_t (show i ≤ i + 1 + d by omega)]
    have e3 : decide (i + 1 + d < i + 1 + r.length) = decide (i + 1 + d < i + (r.length + 1)) := by
     rw [Bool.eq_iff_iff, decide_eq_true_eq, decide_eq_true_eq]; omega
    rw [e3, show i + 1 + d - (i + 1) = d by omega, show i + 1 + d - i = d + 1 by omega, show d + 1 - 1 = d by omega, List.getD_cons_succ]
    congr 2
    cases d with
    | zero => rw [if_pos rfl]; rfl
    | succ d => rw [if_neg (by omega), List.getD_cons_succ]; rfl
   ·rw [dec_f (show ¬ i + 1 ≤ j by omega), dec_f (show ¬ i ≤ j by omega)]; simp
theorem fold_bit (x : Sp) (seen n : Nat) (hn : n ≤ 7) : ∀ (ts : List (List Int)) (m : Nat), m < 128 → (∀ t ∈ ts, t.length = 7) →
  ∃ m' : Nat, ts.foldl (fun C t => wrkW x seen 0 (-1) (t.take n) C) (m : Int) = (m' : Int) ∧ m' < 128 ∧ ∀ j, m'.testBit j = (m.testBit j || (decide (j < n) && ts.any fun t => metAt x seen t j))
 | [], m, hm, _ => ⟨m, rfl, hm, fun j => by simp⟩
 | t :: ts, m, hm, ht => by
  have hl : (t.take n).length = n := by rw [List.length_take, ht t (by simp)]; omega
  obtain ⟨m1, e1, hm1, b1⟩ := wrk_bit x seen (t.take n) 0 (-1) m hm (by omega)
  obtain ⟨m', e2, hm', b2⟩ := fold_bit x seen n hn ts m1 hm1 fun t h => ht t (by simp [h])
  refine ⟨m', by rw [List.foldl_cons, e1, e2], hm', fun j => ?_⟩
  rw [b2 j, b1 j, hl, Nat.zero_add, Nat.sub_zero, dec_t (Nat.zero_le j), Bool.true_and, List.any_cons, Bool.or_assoc]
  congr 1
  by_cases hj : j < n
  ·rw [dec_t hj, Bool.true_and, Bool.true_and, Bool.true_and]
   congr 1
   unfold metAt
   have g : ∀ i, i < n → (t.take n).getD i 0 = t.getD i 0 := fun i hi => by
    rw [List.getD_eq_getElem?_getD, List.getD_eq_getElem?_getD, List.getElem?_take, if_pos hi]
   rw [g j hj]
   by_cases h0 : j = 0
   ·rw [if_pos h0, if_pos h0]
   ·rw [if_neg h0, if_neg h0, g (j - 1) (by omega)]
  ·rw [dec_f hj]; simp
theorem ext_wf {s : Se} (hs : VS s) (but : Nat) : ∀ (c : Nat) (p : List Int), p.length + c = s.1.length → (∀ x ∈ p, 0 ≤ x ∧ x ≤ 99) → ∀ t ∈ ext s but c p, Good t
 | 0, p, hl, hp, t, h => by
  have h7 := hs.hi
  simp only [ext] at h
  split at h
  ·simp only [List.mem_singleton] at h
   subst h
   refine ⟨by simp [pad]; omega, fun x hx => ?_⟩
   simp only [pad, List.mem_append, List.mem_replicate] at hx
   rcases hx with hx | ⟨_, rfl⟩
   ·exact hp x hx
   ·omega
  ·simp at h
 | c + 1, p, hl, hp, t, h => by
  simp only [ext, List.mem_flatMap] at h
  obtain ⟨v, hv, h⟩ := h
  have hy := hs.years p.length (by omega)
  unfold valsOf at hv
  rw [Few.mem_upto] at hv
  split at h
  ·refine ext_wf hs but c (p ++ [v]) (by simp; omega) (fun x hx => ?_) t h
   simp only [List.mem_append, List.mem_singleton] at hx
   rcases hx with hx | rfl
   ·exact hp x hx
   ·omega
  ·simp at h
theorem truths_wf {s : Se} (hs : VS s) (but : Nat) : ∀ t ∈ truthsP s but, Good t := ext_wf hs but s.1.length [] (by simp) (by simp)
def wErr (x : Sp) (seen : Int) : Int := if seen < 0 ∨ seen > 2 then 7 else endsP x 0 99
def wreckP (s : Se) (x : Sp) (seen : Int) : List Int × Int × Unit := if errP s (wErr x seen) [] = 0 then (numsL (fun i => (truthsP s 0).any fun t => metAt x seen.toNat t i) s.1.length, 0, ()) else ([], errP s (wErr x seen) [], ())
theorem numsL_congr {p q : Nat → Bool} : ∀ {k : Nat}, (∀ i, i < k → p i = q i) → numsL p k = numsL q k := fun h => by
 unfold numsL
 congr 1
 exact List.filter_congr fun i hi => h i (List.mem_range.1 hi)
theorem wreck_list {s : Se} (hs : VS s) (x : Sp) (seen : Nat) : ∃ m : Nat, (truthsP s 0).foldl (fun C t => wrkW x seen 0 (-1) (t.take s.1.length) C) 0 = (m : Int) ∧ F104 (((m : Int), (s.1.length : Int), ()) : Int × Int × Unit) = some (numsL (fun i => (truthsP s 0).any fun t => metAt x seen t i) s.1.length, ()) := by
 obtain ⟨m, e, hm, b⟩ := fold_bit x seen s.1.length hs.hi (truthsP s 0) 0 (by decide) fun t ht => (truths_wf hs 0 t ht).len
 refine ⟨m, e, ?_⟩
 rw [L104 m _ (by omega) hs.hi]
 congr 2
 refine numsL_congr fun i hi => ?_
 rw [b i, dec_t hi]; simp
theorem L30 (s : Se) (x : Sp) (seen : Int) : F30 ((s, x, seen, ()) : Se × Sp × Int × Unit) = some (wreckP s x seen) := by
 refine ghost_eq (Ev.eq (fun _ => E30 _ _ _ _) ?_)
 rw [L81, L84_1]
 simp only [Option.bind_some]
 by_cases hr : seen < 0 ∨ seen > 2
 ·have hw : wErr x seen = 7 := if_pos hr
  have hd : (decide (seen < 0) || decide (seen > 2)) = true := by
   rw [Bool.or_eq_true, decide_eq_true_eq, decide_eq_true_eq]; exact hr
  have hne : errP s 7 [] ≠ 0 := fun h => absurd (errP_ok h).2.2.1 (by decide)
  have hv : wreckP s x seen = ([], errP s 7 [], ()) := by
   unfold wreckP
   rw [hw, if_neg hne]
  rw [hd, hv, L88 _ _ _ (by simp)]
  simp only [cond_true, Option.bind_some]
  rw [show (errP s 7 [] != 0) = true from bne_iff_ne.2 hne]
  exact Ev.all fun _ => rfl
 ·have hw : wErr x seen = endsP x 0 99 := if_neg hr
  rw [dec_f (show ¬ seen < 0 by omega), dec_f (show ¬ seen > 2 by omega)]
  simp only [Bool.or_self, cond_false]
  rw [← hw, L88 _ _ _ (by simp)]
  simp only [Option.bind_some]
  by_cases he : errP s (wErr x seen) [] = 0
  ·obtain ⟨hs, _, _, _⟩ := errP_ok he
   have hv : wreckP s x seen = (numsL (fun i => (truthsP s 0).any fun t => metAt x seen.toNat t i) s.1.length, 0, ()) := if_pos he
   rw [hv, if_pos he, he, dec_t (show (0 : Int) ≤ seen by omega), dec_t (show seen < 3 by omega)]
   simp only [bne_self_eq_false, cond_false, Bool.and_self, cond_true]
   have h3 : seen.toNat = 0 ∨ seen.toNat = 1 ∨ seen.toNat = 2 := by omega
   rcases h3 with h3 | h3 | h3
   ·rw [h3, dec_t (show 0 = 0 from rfl)]
    obtain ⟨t', l', _, h⟩ := (dfs_30s122v0 s 0 x hs (by omega) (fun C t => (wrkW x 0 0 (-1) (t.take s.1.length) C, true)) (fun ht => fin30_0 hs ht)).start hs 0
    obtain ⟨m, e, hF⟩ := wreck_list hs x 0
    rw [fold_all, e] at h
    have key : ∀ {y : R30s122v0}, a0_30s122v0 s 0 x 0 0 (List.replicate 7 0) (-1 :: List.replicate 6 0) y →
     G30s122v0 Y30s122v0 (((0, (), (), (), (), (), (), ()), ()), s, x, ((), ()), 0, ((), (), (), (), ()), some ((s, 0, ()) : Sb), (), ((some ((s, 0, ()) : Sb), ()), ()), List.replicate 7 0, -1 :: List.replicate 6 0, u8, ()) = some y := fun h => gsub_eq h
    rw [key h]
    show Ev fun _ => ((Option.bind (F104 (((m : Int), (s.1.length : Int), ()) : Int × Int × Unit)) fun (y : List Int × Unit) => some (y.1, 0, ())) : Option (List Int × Int × Unit)) = some _
    rw [hF]
    exact Ev.all fun _ => rfl
   ·rw [h3, dec_f (show ¬ 1 = 0 by decide), dec_t (show 1 = 1 from rfl)]
    obtain ⟨t', l', _, h⟩ := (dfs_30s122v1 s 0 x hs (by omega) (fun C t => (wrkW x 1 0 (-1) (t.take s.1.length) C, true)) (fun ht => fin30_1 hs ht)).start hs 0
    obtain ⟨m, e, hF⟩ := wreck_list hs x 1
    rw [fold_all, e] at h
    have key : ∀ {y : R30s122v1}, a0_30s122v1 s 0 x 0 0 (List.replicate 7 0) (-1 :: List.replicate 6 0) y →
     G30s122v1 Y30s122v1 (((0, (), (), (), (), (), (), ()), ()), s, x, ((), ()), 0, ((), (), (), (), ()), some ((s, 0, ()) : Sb), (), ((some ((s, 0, ()) : Sb), ()), ()), List.replicate 7 0, -1 :: List.replicate 6 0, u8, ()) = some y := fun h => gsub_eq h
    rw [key h]
    show Ev fun _ => ((Option.bind (F104 (((m : Int), (s.1.length : Int), ()) : Int × Int × Unit)) fun (y : List Int × Unit) => some (y.1, 0, ())) : Option (List Int × Int × Unit)) = some _
    rw [hF]
    exact Ev.all fun _ => rfl
   ·rw [h3, dec_f (show ¬ 2 = 0 by decide), dec_f (show ¬ 2 = 1 by decide), dec_t (show 2 = 2 from rfl)]
    obtain ⟨t', l', _, h⟩ := (dfs_30s122v2 s 0 x hs (by omega) (fun C t => (wrkW x 2 0 (-1) (t.take s.1.length) C, true)) (fun ht => fin30_2 hs ht)).start hs 0
    obtain ⟨m, e, hF⟩ := wreck_list hs x 2
    rw [fold_all, e] at h
    have key : ∀ {y : R30s122v2}, a0_30s122v2 s 0 x 0 0 (List.replicate 7 0) (-1 :: List.replicate 6 0) y →
     G30s122v2 Y30s122v2 (((0, (), (), (), (), (), (), ()), ()), s, x, ((), ()), 0, ((), (), (), (), ()), some ((s, 0, ()) : Sb), (), ((some ((s, 0, ()) : Sb), ()), ()), List.replicate 7 0, -1 :: List.replicate 6 0, u8, ()) = some y := fun h => gsub_eq h
    rw [key h]
    show Ev fun _ => ((Option.bind (F104 (((m : Int), (s.1.length : Int), ()) : Int × Int × Unit)) fun (y : List Int × Unit) => some (y.1, 0, ())) : Option (List Int × Int × Unit)) = some _
    rw [hF]
    exact Ev.all fun _ => rfl
  ·have hv : wreckP s x seen = ([], errP s (wErr x seen) [], ()) := if_neg he
   rw [hv, show (errP s (wErr x seen) [] != 0) = true from bne_iff_ne.2 he]
   exact Ev.all fun _ => rfl
end Go.Proofs.YtkbephbhajplhaaDoor
/- Means, and the fewest wrong sums. Conditions: as each lemma states. -/
namespace Go.Proofs.YtkbephbhajplhaaDoor
open Go Go.Gh Go.Proofs
structure Hull (l : List Int) (x : Sp) : Prop where
 lo : x.1 ∈ l
 hi : x.2.1 ∈ l
 all : ∀ v ∈ l, x.1 ≤ v ∧ v ≤ x.2.1
theorem hull_fold : ∀ (l p : List Int) (x : Sp), Hull p x → Hull (p ++ l) (l.foldl wide x)
 | [], p, x, h => by simpa using h
 | v :: l, p, x, h => by
  have : Hull (p ++ [v]) (wide x v) := by
   refine ⟨?_, ?_, fun w hw => ?_⟩
   ·unfold wide
    simp only
    split
    ·simp
    ·exact List.mem_append_left _ h.lo
   ·unfold wide
    simp only
    split
    ·simp
    ·exact List.mem_append_left _ h.hi
   ·rw [List.mem_append, List.mem_singleton] at hw
    unfold wide
    simp only
    rcases hw with hw | rfl
    ·have := h.all w hw
     constructor <;> split <;> omega
    ·constructor <;> split <;> omega
  have := hull_fold l (p ++ [v]) (wide x v) this
  rw [List.foldl_cons]
  simpa using this
theorem hull_none {l : List Int} (hl : l ≠ []) (hb : ∀ v ∈ l, 0 ≤ v ∧ v ≤ 1000000) : Hull l (l.foldl wide noneP) := by
 cases l with
 | nil => exact absurd rfl hl
 | cons v l =>
  have hv := hb v (by simp)
  have e : wide noneP v = (v, v, ()) := by
   unfold wide noneP
   simp only
   rw [if_pos (by omega), if_pos (by omega)]
  rw [List.foldl_cons, e]
  exact hull_fold l [v] (v, v, ()) ⟨by simp, by simp, fun w hw => by simp at hw; subst hw; simp⟩
theorem nums_map (s : Se) (p q : Nat) : numsP s p q = ((truthsP s 0).map fun t => sumL t p q).foldl wide noneP := by
 unfold numsP
 rw [List.foldl_map]
theorem nums_hull {s : Se} (hs : VS s) (ht : truthsP s 0 ≠ []) (p q : Nat) : Hull ((truthsP s 0).map fun t => sumL t p q) (numsP s p q) := by
 rw [nums_map]
 refine hull_none (by simpa using ht) fun v hv => ?_
 rw [List.mem_map] at hv
 obtain ⟨t, h1, rfl⟩ := hv
 have := sumL_bd (truths_wf hs 0 t h1) p q
 omega
theorem nums_bd {s : Se} (hs : VS s) (ht : truthsP s 0 ≠ []) (p q : Nat) : 0 ≤ (numsP s p q).1 ∧ (numsP s p q).1 ≤ 693 ∧ 0 ≤ (numsP s p q).2.1 ∧ (numsP s p q).2.1 ≤ 693 := by
 have h := nums_hull hs ht p q
 have h1 := h.lo
 have h2 := h.hi
 rw [List.mem_map] at h1 h2
 obtain ⟨t, a1, e1⟩ := h1
 obtain ⟨u, a2, e2⟩ := h2
 have b1 := sumL_bd (truths_wf hs 0 t a1) p q
 have b2 := sumL_bd (truths_wf hs 0 u a2) p q
 omega
def lowP (a b : Int) : Sp := (a / (Nat.gcd a.toNat b.toNat : Int), b / (Nat.gcd a.toNat b.toNat : Int), ())
theorem L93 (a b : Nat) (ha : a < 1000000000) (h1 : 0 < b) (hb : b < 1000000000) : F93 (((a : Int), (b : Int), ()) : Int × Int × Unit) = some (lowP a b, ()) := by
 refine N93 _ _ ?_
 have base : ∀ (x : Nat), x = Nat.gcd a b → 0 < x → Ev fun k => T93_0 a b x ((0 : Nat) : Int) (0, 0, ()) k = some (lowP a b, ()) := by
  intro x hg hx
  refine R93_0 _ _ _ _ _ ?_
  rw [show (((0 : Nat) : Int) != 0) = false from rfl, dec_f (show ¬ ((x : Int) = 0) by omega)]
  simp only [cond_false]
  have q1 : Int.tdiv (a : Int) (x : Int) = ((a / x : Nat) : Int) := by simp
  have q2 : Int.tdiv (b : Int) (x : Int) = ((b / x : Nat) : Int) := by simp
  have l1 : a / x ≤ a := Nat.div_le_self _ _
  have l2 : b / x ≤ b := Nat.div_le_self _ _
  rw [q1, q2]
  have e3 : lowP a b = (((a / x : Nat) : Int), ((b / x : Nat) : Int), ()) := by
   subst hg
   simp [lowP]
  rw [e3]
  generalize a / x = u at *
  generalize b / x = v at *
  rw [wrap_id (by omega) (by omega), wrap_id (by omega) (by omega)]
  exact Ev.all fun _ => by first | rfl | trivial
 have key : ∀ (n x y : Nat), y ≤ n → Nat.gcd x y = Nat.gcd a b → 0 < x ∨ 0 < y → Ev fun k => T93_0 a b x y (0, 0, ()) k = some (lowP a b, ()) := by
  intro n
  induction n with
  | zero =>
   intro x y hy hg hxy
   have : y = 0 := by omega
   subst this
   exact base x (by rw [← hg, Nat.gcd_zero_right]) (by omega)
  | succ n ih =>
   intro x y hy hg hxy
   by_cases h0 : y = 0
   ·subst h0
    exact base x (by rw [← hg, Nat.gcd_zero_right]) (by omega)
   ·refine R93_0 _ _ _ _ _ ?_
    have e1 : (((y : Nat) : Int) != 0) = true := by simpa using h0
    rw [e1, dec_f (show ¬ ((y : Int) = 0) by omega)]
    simp only [cond_true, cond_false]
    have e2 : Int.tmod (x : Int) (y : Int) = ((x % y : Nat) : Int) := by
     rw [Int.tmod_eq_emod_of_nonneg (by omega)]; simp
    rw [e2]
    have hlt := Nat.mod_lt x (by omega : 0 < y)
    refine ih y (x % y) (by omega) ?_ (.inl (by omega))
    rw [← hg, Nat.gcd_comm x y, Nat.gcd_rec y x, Nat.gcd_comm]
 exact key b a b (Nat.le_refl _) rfl (.inr h1)
theorem L93' {a b : Int} (ha : 0 ≤ a ∧ a < 1000000000) (hb : 0 < b ∧ b < 1000000000) : F93 ((a, b, ()) : Int × Int × Unit) = some (lowP a b, ()) := by
 obtain ⟨n, rfl⟩ := Int.eq_ofNat_of_zero_le ha.1
 obtain ⟨m, rfl⟩ := Int.eq_ofNat_of_zero_le (Int.le_of_lt hb.1)
 exact L93 n m (by omega) (by omega) (by omega)
def mErr (s : Se) (a b : Int) : Int := errP s (if a > b then 2 else 0) [a, b]
def meanP (s : Se) (a b : Int) : Sp × Sp × Int × Unit := if mErr s a b = 0 then (lowP (numsP s a.toNat b.toNat).1 (b - a + 1), lowP (numsP s a.toNat b.toNat).2.1 (b - a + 1), 0, ()) else (sp0, sp0, mErr s a b, ())
theorem L21 (s : Se) (a b : Int) : F21 ((s, a, b, ()) : Se × Int × Int × Unit) = some (meanP s a b) := by
 refine ghost_eq (Ev.eq (fun _ => E21 _ _ _ _) ?_)
 rw [show List.set (List.set (List.replicate 2 (0 : Int)) 0 a) 1 b = [a, b] from rfl]
 by_cases hab : a > b
 ·rw [dec_t hab]
  simp only [cond_true]
  rw [L88 _ _ _ (by simp)]
  simp only [Option.bind_some]
  have e : mErr s a b = errP s 2 [a, b] := by unfold mErr; rw [if_pos hab]
  have hne : errP s 2 [a, b] ≠ 0 := fun h => absurd (errP_ok h).2.2.1 (by decide)
  have hv : meanP s a b = (sp0, sp0, errP s 2 [a, b], ()) := by
   unfold meanP
   rw [e, if_neg hne]
  rw [hv, show (errP s 2 [a, b] != 0) = true from bne_iff_ne.2 hne]
  exact Ev.all fun _ => rfl
 ·rw [dec_f hab]
  simp only [cond_false]
  rw [L88 _ _ _ (by simp)]
  simp only [Option.bind_some]
  have e : mErr s a b = errP s 0 [a, b] := by unfold mErr; rw [if_neg hab]
  by_cases he : errP s 0 [a, b] = 0
  ·obtain ⟨hs, hn, _, ht⟩ := errP_ok he
   have ha := hn a (by simp)
   have hb := hn b (by simp)
   have h7 := hs.hi
   have hv : meanP s a b = (lowP (numsP s a.toNat b.toNat).1 (b - a + 1), lowP (numsP s a.toNat b.toNat).2.1 (b - a + 1), 0, ()) := by
    unfold meanP
    rw [e, if_pos he]
   have hbd := nums_bd hs ht a.toNat b.toNat
   rw [hv, if_pos he, he]
   simp only [bne_self_eq_false, cond_false]
   rw [L89' hs ha.1 (by omega) hb.2]
   simp only [Option.bind_some]
   rw [wrap_id (x := b - a) (by omega) (by omega), wrap_id (x := b - a + 1) (by omega) (by omega), L93' (by omega) (by omega)]
   simp only [Option.bind_some]
   rw [L93' (by omega) (by omega)]
   exact Ev.all fun _ => rfl
  ·have hv : meanP s a b = (sp0, sp0, errP s 0 [a, b], ()) := by
    unfold meanP
    rw [e, if_neg he]
   rw [hv, show (errP s 0 [a, b] != 0) = true from bne_iff_ne.2 he]
   exact Ev.all fun _ => rfl
theorem gtc (a c : Nat) : decide ((a : Int) > (c : Int)) = decide (a > c) := by
 rw [Bool.eq_iff_iff, decide_eq_true_eq, decide_eq_true_eq]; omega
theorem eqc (a c : Nat) : ((a : Int) == (c : Int)) = (a == c) := by
 rw [Bool.eq_iff_iff, beq_iff_eq, beq_iff_eq]; omega
theorem bits_nums (k : Nat) (p : Nat → Bool) (i : Nat) : (Few.bitsL (numsL p k)).testBit i = (decide (i < k) && p i) := by
 have h0 : ∀ x ∈ numsL p k, 0 ≤ x := fun x hx => by
  obtain ⟨n, _, _, rfl⟩ := numsL_mem.1 hx
  omega
 rw [Bool.eq_iff_iff, Few.bitsL_bit h0, numsL_mem, Bool.and_eq_true, decide_eq_true_eq]
 constructor
 ·rintro ⟨n, h1, h2, h3⟩
  have : n = i := by omega
  exact this ▸ ⟨h1, h2⟩
 ·rintro ⟨h1, h2⟩
  exact ⟨i, h1, h2, rfl⟩
theorem bits_set {set k : Nat} (h : set < 2 ^ k) : Few.bitsL (numsL (set.testBit ·) k) = set := by
 apply Nat.eq_of_testBit_eq
 intro i
 rw [bits_nums]
 by_cases hi : i < k
 ·rw [dec_t hi, Bool.true_and]
 ·rw [dec_f hi, Bool.false_and, Nat.testBit_lt_two_pow (Nat.lt_of_lt_of_le h (Nat.pow_le_pow_right (by decide) (by omega)))]
def okW (s : Se) (l : List Int) : Bool := decide (truthsP s (Few.bitsL l) ≠ [])
def setsL (k i c : Nat) : List (List Int) := (List.range' i c).map fun set => numsL (set.testBit ·) k
def wrongP (s : Se) : List Int × Int × Unit := if (chkP s).2.2.1 = 0 then (if (Few.scan (okW s) (setsL s.2.1.length 0 (2 ^ s.2.1.length)) [] false).2 = true then ((Few.scan (okW s) (setsL s.2.1.length 0 (2 ^ s.2.1.length)) [] false).1, 0, ()) else ([], 9, ())) else ([], (chkP s).2.2.1, ())
theorem fe33 (s : Se) (hs : VS s) : ∀ (c i : Nat) (best : List Int) (found : Bool), i + c = 2 ^ s.2.1.length → best.length ≤ 7 →
  Ev fun k => T33_0 best found ((2 ^ s.2.1.length : Nat) : Int) i s k = some (if (Few.scan (okW s) (setsL s.2.1.length i c) best found).2 = true then ((Few.scan (okW s) (setsL s.2.1.length i c) best found).1, 0, ()) else ([], 9, ())) := by
 have h4 := hs.many
 have h16 : 2 ^ s.2.1.length ≤ 16 := Nat.pow_le_pow_right (by decide) h4
 intro c
 induction c with
 | zero =>
  intro i best found hi hb
  refine R33_0 _ _ _ _ _ ?_
  rw [dec_f (show ¬ ((i : Int) < ((2 ^ s.2.1.length : Nat) : Int)) by omega)]
  cases found with
  | true => exact Ev.all fun _ => rfl
  | false => exact Ev.all fun _ => rfl
 | succ c ih =>
  intro i best found hi hb
  refine R33_0 _ _ _ _ _ ?_
  have hlen : (numsL (i.testBit ·) s.2.1.length).length ≤ 7 := Nat.le_trans (numsL_len _ _) (by omega)
  have i2 := ih (i + 1) (numsL (i.testBit ·) s.2.1.length) true (by omega) hlen
  have i3 := ih (i + 1) best found (by omega) hb
  have hdo : F107 ((some ((s, (i : Int), ()) : Sb), ()) : Option Sb × Unit) = some (okW s (numsL (i.testBit ·) s.2.1.length), ()) := by
   rw [L107 s i hs (by omega), okW, bits_set (by omega)]
  have hcons : setsL s.2.1.length i (c + 1) = numsL (i.testBit ·) s.2.1.length :: setsL s.2.1.length (i + 1) c := by
   unfold setsL
   rw [List.range'_succ, List.map_cons]
  rw [dec_t (show (i : Int) < ((2 ^ s.2.1.length : Nat) : Int) by omega), wrap_succ (n := i) (by omega), L104 i s.2.1.length (by omega) (by omega), hcons]
  simp only [cond_true, Option.bind_some]
  generalize numsL (i.testBit ·) s.2.1.length = L at hlen i2 hdo
  rw [L105 L best (by omega), L106, gtc, eqc, Few.scan, show Few.worse L best = (decide (L.length > best.length) || (L.length == best.length && decide (Few.cmpL L best > 0))) from rfl]
  simp only [Option.bind_some]
  rw [hdo]
  simp only [Option.bind_some]
  have tail : Ev fun k => ((bif okW s L then T33_0 L true ((2 ^ s.2.1.length : Nat) : Int) ((i + 1 : Nat) : Int) s k else T33_0 best found ((2 ^ s.2.1.length : Nat) : Int) ((i + 1 : Nat) : Int) s k : Option (denL [(.slice (.int .i64)), (.int .i64)])) = some (if (if okW s L = true then Few.scan (okW s) (setsL s.2.1.length (i + 1) c) L true else Few.scan (okW s) (setsL s.2.1.length (i + 1) c) best found).2 = true then ((if okW s L = true then Few.scan (okW s) (setsL s.2.1.length (i + 1) c) L true else Few.scan (okW s) (setsL s.2.1.length (i + 1) c) best found).1, 0, ()) else ([], 9, ()))) := by
   cases okW s L with
   | true => exact i2
   | false => exact i3
  cases found with
  | false => exact tail
  | true =>
   cases decide (L.length > best.length) with
   | true => exact i3
   | false =>
    cases L.length == best.length with
    | false => exact tail
    | true =>
     cases decide (Few.cmpL L best > 0) with
     | true => exact i3
     | false => exact tail
theorem L33 (s : Se) : F33 ((s, ()) : Se × Unit) = some (wrongP s) := by
 refine N33 _ ?_
 rw [L17]
 simp only [Option.bind_some]
 by_cases hc : (chkP s).2.2.1 = 0
 ·have hs := (chkP_ok s).1 hc
  have h4 := hs.many
  have hv : wrongP s = if (Few.scan (okW s) (setsL s.2.1.length 0 (2 ^ s.2.1.length)) [] false).2 = true then ((Few.scan (okW s) (setsL s.2.1.length 0 (2 ^ s.2.1.length)) [] false).1, 0, ()) else ([], 9, ()) := if_pos hc
  rw [hv, hc, Int.toNat_natCast, shl_nat _ (by omega)]
  exact fe33 s hs (2 ^ s.2.1.length) 0 [] false (by omega) (by simp)
 ·have hv : wrongP s = ([], (chkP s).2.2.1, ()) := if_neg hc
  rw [hv, show ((chkP s).2.2.1 != 0) = true from bne_iff_ne.2 hc]
  exact Ev.all fun _ => rfl
end Go.Proofs.YtkbephbhajplhaaDoor
