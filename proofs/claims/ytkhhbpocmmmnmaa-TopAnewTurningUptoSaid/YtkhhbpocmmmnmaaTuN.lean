/- 'Check', and the entry to all questions. Conditions: as each lemma states. -/
import Derived.Test.YtkhhbpocmmmnmaaTuM
namespace Go.Proofs.Ytkhhbpocmmmnmaa
open Go Go.Gh Go.Proofs
def firstE {α : Type} (f : α → Int) : List α → Nat → Option (Nat × Int)
 | [], _ => none
 | x :: r, i => if f x = 0 then firstE f r (i + 1) else some (i, f x)
theorem firstE_pass {α : Type} {f : α → Int} {x : α} {r : List α} {i : Nat} (h : f x = 0) : firstE f (x :: r) i = firstE f r (i + 1) := if_pos h
theorem firstE_stop {α : Type} {f : α → Int} {x : α} {r : List α} {i : Nat} {e : Int} (h : f x = e) (he : e ≠ 0) : firstE f (x :: r) i = some (i, e) := by
 subst h
 exact if_neg he
theorem firstE_none {α : Type} (f : α → Int) (d : α) : ∀ (l : List α) (i : Nat), firstE f l i = none ↔ ∀ k, k < l.length → f (l.getD k d) = 0
 | [], _ => by simp [firstE]
 | x :: l, i => by
  by_cases hx : f x = 0
  ·rw [firstE_pass hx, firstE_none f d l (i + 1)]
   constructor
   ·intro h k hk
    cases k with
    | zero => exact hx
    | succ k => exact h k (by simpa using hk)
   ·intro h k hk
    exact h (k + 1) (by simpa using hk)
  ·rw [firstE_stop rfl hx]
   exact ⟨fun h => (by cases h), fun h => absurd (h 0 (by simp)) hx⟩
theorem firstE_some {α : Type} (f : α → Int) : ∀ (l : List α) (i j : Nat) (e : Int), firstE f l i = some (j, e) → e ≠ 0
 | [], _, _, _, h => by simp [firstE] at h
 | x :: l, i, j, e, h => by
  by_cases hx : f x = 0
  ·rw [firstE_pass hx] at h
   exact firstE_some f l (i + 1) j e h
  ·rw [firstE_stop rfl hx] at h
   cases h
   exact hx
def notIn (lo hi x : Int) : Bool := decide (x < lo) || decide (x > hi)
theorem notIn_f {lo hi x : Int} : notIn lo hi x = false ↔ lo ≤ x ∧ x ≤ hi := by
 unfold notIn
 rw [Bool.or_eq_false_iff, decide_eq_false_iff_not, decide_eq_false_iff_not]
 omega
theorem notIn_t {lo hi x : Int} : notIn lo hi x = true ↔ ¬ (lo ≤ x ∧ x ≤ hi) := by
 rw [← notIn_f, Bool.not_eq_false]
theorem outP_eq (n x : Int) : outP n x = notIn 0 (n - 1) x := rfl
theorem outP_f {n x : Int} : outP n x = false ↔ 0 ≤ x ∧ x < n := by
 rw [outP_eq, notIn_f]; omega
def bErr (x : Sp) : Int := if (notIn 0 16 x.1 || notIn 0 16 x.2.1) = true then 7 else if notIn 0 3 (x.2.1 - x.1) = true then 2 else 0
def sErr (n : Nat) (x : Sn) : Int := if notIn 0 30 x.1 = true then 7 else if notIn (-90) 90 x.2.2.1 = true then 7 else if outP n x.2.1 = true then 4 else 0
def tErr (n : Nat) (x : Tl) : Int := if (outP n x.1 || outP n x.2.1) = true then 4 else if x.1 = x.2.1 then 2 else 0
def chkT (s : Su) : Int × Int × Int × Unit := if s.2.2.2.1.length > 3 then (4, 0, 3, ()) else match firstE (tErr s.2.2.1.length) s.2.2.2.1 0 with
 | some (i, e) => (4, i, e, ())
 | none => (0, 0, 0, ())
def chkS (s : Su) : Int × Int × Int × Unit := if s.2.2.1.length > 5 then (3, 0, 3, ()) else match firstE (sErr s.1.length) s.2.2.1 0 with
 | some (i, e) => (3, i, e, ())
 | none => chkT s
def chkO (s : Su) : Int × Int × Int × Unit := if notIn 0 9 s.2.1 = true then (2, 0, 7, ()) else chkS s
def chkP (s : Su) : Int × Int × Int × Unit := if s.1.length < 1 ∨ s.1.length > 3 then (1, 0, 3, ()) else match firstE bErr s.1 0 with
 | some (i, e) => (1, i, e, ())
 | none => chkO s
theorem wrap_below {n : Nat} (h : n < 1000000000000) : IntKind.wrap IntKind.i64 ((n : Int) - 1) = (n : Int) - 1 := wrap_id (by omega) (by omega)
theorem L78_i (lo hi n : Int) : F78 ((lo, hi, List.set (List.replicate 1 0) 0 n, ()) : Int × Int × List Int × Unit) = some (notIn lo hi n, ()) := L78_1 lo hi n
theorem L78_j (lo hi n m : Int) : F78 ((lo, hi, List.set (List.set (List.replicate 2 0) 0 n) 1 m, ()) : Int × Int × List Int × Unit) = some (notIn lo hi n || notIn lo hi m, ()) := L78_2 lo hi n m
theorem L77 (x : Sp) : F77 ((x, ()) : Sp × Unit) = some (bErr x, ()) := by
 refine N77 _ ?_
 rw [L78_j]
 simp only [Option.bind_some]
 unfold bErr
 cases hb : (notIn 0 16 x.1 || notIn 0 16 x.2.1) with
 | true => exact Ev.all fun _ => by first | rfl | trivial
 | false =>
  rw [Bool.or_eq_false_iff, notIn_f, notIn_f] at hb
  rw [wrap_id (x := x.2.1 - x.1) (by omega) (by omega), L78_i]
  simp only [cond_false, Option.bind_some, Bool.false_eq_true, if_false]
  cases notIn 0 3 (x.2.1 - x.1) with
  | true => exact Ev.all fun _ => by first | rfl | trivial
  | false => exact Ev.all fun _ => by first | rfl | trivial
theorem L19_2 (s : Su) (h5 : s.2.2.1.length ≤ 5) (h3 : s.2.2.2.1.length ≤ 3) : ∀ (c i : Nat), i + c = s.2.2.2.1.length → Ev fun k => T19_2 s.2.2.2.1 s.2.2.2.1.length i s.2.2.2.1 s k = some (match firstE (tErr s.2.2.1.length) (s.2.2.2.1.drop i) i with
  | some (i, e) => (4, (i : Int), e, ())
  | none => (0, 0, 0, ())) := by
 intro c
 induction c with
 | zero =>
  intro i hi
  refine R19_2 _ _ _ _ _ ?_
  rw [dec_f (by omega), List.drop_eq_nil_of_le (by omega)]
  exact Ev.all fun _ => by first | rfl | trivial
 | succ c ih =>
  intro i hi
  have hlt : i < s.2.2.2.1.length := by omega
  refine R19_2 _ _ _ _ _ ?_
  have ih := ih (i + 1) (by omega)
  rw [dec_t (show (i : Int) < (s.2.2.2.1.length : Int) by omega), dec_t (show (0 : Int) ≤ (i : Int) by omega), wrap_succ (n := i) (by omega), Int.toNat_natCast, getD_lt hlt, wrap_below (n := s.2.2.1.length) (by omega), List.drop_eq_getElem_cons hlt, L78_j]
  simp only [Bool.and_self, cond_true, Option.bind_some]
  generalize s.2.2.2.1[i] = x
  rw [← outP_eq, ← outP_eq]
  cases hn : (outP s.2.2.1.length x.1 || outP s.2.2.1.length x.2.1) with
  | true =>
   have hf : tErr s.2.2.1.length x = 4 := by unfold tErr; rw [if_pos hn]
   rw [firstE_stop hf (by decide)]
   exact Ev.all fun _ => by first | rfl | trivial
  | false =>
   simp only [cond_false]
   by_cases he : x.1 = x.2.1
   ·have hf : tErr s.2.2.1.length x = 2 := by unfold tErr; rw [hn, if_neg (by simp), if_pos he]
    rw [bq he, firstE_stop hf (by decide)]
    exact Ev.all fun _ => by first | rfl | trivial
   ·have hf : tErr s.2.2.1.length x = 0 := by unfold tErr; rw [hn, if_neg (by simp), if_neg he]
    rw [bqf he, firstE_pass hf]
    exact ih
theorem L19_1 (s : Su) (h1 : s.1.length ≤ 3) (h5 : s.2.2.1.length ≤ 5) : ∀ (c i : Nat), i + c = s.2.2.1.length → Ev fun k => T19_1 s.2.2.1 s.2.2.1.length i s.2.2.1 s k = some (match firstE (sErr s.1.length) (s.2.2.1.drop i) i with
  | some (i, e) => (3, (i : Int), e, ())
  | none => chkT s) := by
 intro c
 induction c with
 | zero =>
  intro i hi
  refine R19_1 _ _ _ _ _ ?_
  rw [dec_f (by omega), List.drop_eq_nil_of_le (by omega)]
  simp only [cond_false, firstE]
  rw [L78_i]
  simp only [Option.bind_some]
  unfold chkT
  by_cases h : s.2.2.2.1.length > 3
  ·rw [if_pos h, show notIn 0 3 (s.2.2.2.1.length : Int) = true from notIn_t.2 (by omega)]
   exact Ev.all fun _ => by first | rfl | trivial
  ·rw [if_neg h, show notIn 0 3 (s.2.2.2.1.length : Int) = false from notIn_f.2 (by omega)]
   have := L19_2 s h5 (by omega) s.2.2.2.1.length 0 (by omega)
   rw [List.drop_zero] at this
   exact this
 | succ c ih =>
  intro i hi
  have hlt : i < s.2.2.1.length := by omega
  refine R19_1 _ _ _ _ _ ?_
  have ih := ih (i + 1) (by omega)
  rw [dec_t (show (i : Int) < (s.2.2.1.length : Int) by omega), dec_t (show (0 : Int) ≤ (i : Int) by omega), wrap_succ (n := i) (by omega), Int.toNat_natCast, getD_lt hlt, wrap_below (n := s.1.length) (by omega), List.drop_eq_getElem_cons hlt, L78_i, L78_i, L78_i]
  simp only [Bool.and_self, cond_true, Option.bind_some]
  generalize s.2.2.1[i] = x
  rw [← outP_eq]
  cases c1 : notIn 0 30 x.1 with
  | true =>
   have hf : sErr s.1.length x = 7 := by unfold sErr; rw [if_pos c1]
   rw [firstE_stop hf (by decide)]
   exact Ev.all fun _ => by first | rfl | trivial
  | false =>
   cases c2 : notIn (-90) 90 x.2.2.1 with
   | true =>
    have hf : sErr s.1.length x = 7 := by unfold sErr; rw [if_neg (by rw [c1]; decide), if_pos c2]
    rw [firstE_stop hf (by decide)]
    exact Ev.all fun _ => by first | rfl | trivial
   | false =>
    cases c3 : outP s.1.length x.2.1 with
    | true =>
     have hf : sErr s.1.length x = 4 := by unfold sErr; rw [if_neg (by rw [c1]; decide), if_neg (by rw [c2]; decide), if_pos c3]
     rw [firstE_stop hf (by decide)]
     exact Ev.all fun _ => by first | rfl | trivial
    | false =>
     have hf : sErr s.1.length x = 0 := by unfold sErr; rw [if_neg (by rw [c1]; decide), if_neg (by rw [c2]; decide), if_neg (by rw [c3]; decide)]
     rw [firstE_pass hf]
     exact ih
theorem L19_o (s : Su) (h1 : s.1.length ≤ 3) {y : denL [(.int .i64), (.int .i64), (.int .i64)]} (h : chkO s = y) : Ev fun k => ((Option.bind (F78 ((0, 9, List.set (List.replicate 1 0) 0 s.2.1, ()) : Int × Int × List Int × Unit)) fun (y : Bool × Unit) => bif y.1 then some (2, 0, 7, ()) else
  Option.bind (F78 ((0, 5, List.set (List.replicate 1 0) 0 (s.2.2.1.length : Int), ()) : Int × Int × List Int × Unit)) fun (y : Bool × Unit) => bif y.1 then some (3, 0, 3, ()) else T19_1 s.2.2.1 s.2.2.1.length 0 s.2.2.1 s k : Option (denL [(.int .i64), (.int .i64), (.int .i64)]))) = some y := by
 rw [L78_i, L78_i]
 simp only [Option.bind_some]
 rw [← h]
 unfold chkO chkS
 cases notIn 0 9 s.2.1 with
 | true => exact Ev.all fun _ => by first | rfl | trivial
 | false =>
  simp only [cond_false, Bool.false_eq_true, if_false]
  by_cases h : s.2.2.1.length > 5
  ·rw [if_pos h, show notIn 0 5 (s.2.2.1.length : Int) = true from notIn_t.2 (by omega)]
   exact Ev.all fun _ => by first | rfl | trivial
  ·rw [if_neg h, show notIn 0 5 (s.2.2.1.length : Int) = false from notIn_f.2 (by omega)]
   have := L19_1 s h1 (by omega) s.2.2.1.length 0 (by omega)
   rw [List.drop_zero] at this
   exact this
theorem L19 (s : Su) : F19 ((s, ()) : Su × Unit) = some (chkP s) := by
 refine N19 _ ?_
 rw [L78_i]
 simp only [Option.bind_some]
 unfold chkP
 by_cases hl : s.1.length < 1 ∨ s.1.length > 3
 ·rw [if_pos hl, show notIn 1 3 (s.1.length : Int) = true from notIn_t.2 (by omega)]
  exact Ev.all fun _ => by first | rfl | trivial
 ·rw [if_neg hl, show notIn 1 3 (s.1.length : Int) = false from notIn_f.2 (by omega)]
  simp only [cond_false]
  have key : ∀ (c i : Nat), i + c = s.1.length → Ev fun k => T19_0 s.1 s.1.length i s.1 s k = some (match firstE bErr (s.1.drop i) i with
    | some (i, e) => (1, (i : Int), e, ())
    | none => chkO s) := by
   intro c
   induction c with
   | zero =>
    intro i hi
    refine R19_0 _ _ _ _ _ ?_
    rw [dec_f (by omega), List.drop_eq_nil_of_le (by omega)]
    simp only [cond_false, firstE]
    exact L19_o s (by omega) rfl
   | succ c ih =>
    intro i hi
    have hlt : i < s.1.length := by omega
    refine R19_0 _ _ _ _ _ ?_
    have ih := ih (i + 1) (by omega)
    rw [dec_t (show (i : Int) < (s.1.length : Int) by omega), dec_t (show (0 : Int) ≤ (i : Int) by omega), wrap_succ (n := i) (by omega), Int.toNat_natCast, getD_lt hlt, List.drop_eq_getElem_cons hlt, L77]
    simp only [Bool.and_self, cond_true, Option.bind_some]
    generalize s.1[i] = x
    by_cases he : bErr x = 0
    ·rw [nbq he, firstE_pass he]
     exact ih
    ·rw [nbqf he, firstE_stop rfl he]
     exact Ev.all fun _ => by first | rfl | trivial
  have := key s.1.length 0 (by omega)
  rw [List.drop_zero] at this
  exact this
theorem bErr_zero {x : Sp} : bErr x = 0 ↔ 0 ≤ x.1 ∧ x.1 ≤ x.2.1 ∧ x.2.1 ≤ 16 ∧ x.2.1 - x.1 ≤ 3 := by
 unfold bErr
 cases h : (notIn 0 16 x.1 || notIn 0 16 x.2.1) with
 | true =>
  rw [if_pos rfl]
  rw [Bool.or_eq_true, notIn_t, notIn_t] at h
  omega
 | false =>
  rw [if_neg (by decide)]
  rw [Bool.or_eq_false_iff, notIn_f, notIn_f] at h
  cases h2 : notIn 0 3 (x.2.1 - x.1) with
  | true => rw [if_pos rfl]; rw [notIn_t] at h2; omega
  | false => rw [if_neg (by decide)]; rw [notIn_f] at h2; omega
theorem sErr_zero {n : Nat} {x : Sn} : sErr n x = 0 ↔ (0 ≤ x.1 ∧ x.1 ≤ 30) ∧ (0 ≤ x.2.1 ∧ x.2.1 < n) ∧ -90 ≤ x.2.2.1 ∧ x.2.2.1 ≤ 90 := by
 unfold sErr
 cases h : notIn 0 30 x.1 with
 | true => rw [if_pos rfl]; rw [notIn_t] at h; omega
 | false =>
  rw [if_neg (by decide)]
  rw [notIn_f] at h
  cases h2 : notIn (-90) 90 x.2.2.1 with
  | true => rw [if_pos rfl]; rw [notIn_t] at h2; omega
  | false =>
   rw [if_neg (by decide)]
   rw [notIn_f] at h2
   cases h3 : outP n x.2.1 with
   | true => rw [if_pos rfl]; rw [outP_eq, notIn_t] at h3; omega
   | false => rw [if_neg (by decide)]; rw [outP_f] at h3; omega
theorem tErr_zero {n : Nat} {x : Tl} : tErr n x = 0 ↔ (0 ≤ x.1 ∧ x.1 < n) ∧ (0 ≤ x.2.1 ∧ x.2.1 < n) ∧ x.1 ≠ x.2.1 := by
 unfold tErr
 cases h : (outP n x.1 || outP n x.2.1) with
 | true =>
  rw [if_pos rfl]
  rw [Bool.or_eq_true, outP_eq, outP_eq, notIn_t, notIn_t] at h
  omega
 | false =>
  rw [if_neg (by decide)]
  rw [Bool.or_eq_false_iff, outP_f, outP_f] at h
  split <;> omega
theorem chkP_ok (s : Su) : (chkP s).2.2.1 = 0 ↔ VS s := by
 unfold chkP
 by_cases hl : s.1.length < 1 ∨ s.1.length > 3
 ·rw [if_pos hl]
  exact ⟨fun h => absurd h (by decide), fun h => by have := h.b1; have := h.b3; omega⟩
 rw [if_neg hl]
 cases h1 : firstE bErr s.1 0 with
 | some p =>
  have := firstE_some _ _ _ _ _ h1
  refine ⟨fun h => absurd h this, fun h => ?_⟩
  have : firstE bErr s.1 0 = none := (firstE_none bErr sp0 _ _).2 fun k hk => bErr_zero.2 (h.belts k hk)
  rw [h1] at this; cases this
 | none =>
  have hy := (firstE_none bErr sp0 _ _).1 h1
  simp only [chkO]
  cases ho : notIn 0 9 s.2.1 with
  | true =>
   rw [if_pos rfl]
   rw [notIn_t] at ho
   exact ⟨fun h => absurd h (by decide), fun h => absurd h.off ho⟩
  | false =>
  rw [if_neg (by decide)]
  rw [notIn_f] at ho
  simp only [chkS]
  by_cases h5 : s.2.2.1.length > 5
  ·rw [if_pos h5]
   exact ⟨fun h => absurd h (by decide), fun h => by have := h.n5; omega⟩
  rw [if_neg h5]
  cases h2 : firstE (sErr s.1.length) s.2.2.1 0 with
  | some p =>
   have := firstE_some _ _ _ _ _ h2
   refine ⟨fun h => absurd h this, fun h => ?_⟩
   have : firstE (sErr s.1.length) s.2.2.1 0 = none := (firstE_none _ sn0 _ _).2 fun k hk => sErr_zero.2 (h.seen k hk)
   rw [h2] at this; cases this
  | none =>
   have hsn := (firstE_none (sErr s.1.length) sn0 _ _).1 h2
   simp only [chkT]
   by_cases h3 : s.2.2.2.1.length > 3
   ·rw [if_pos h3]
    exact ⟨fun h => absurd h (by decide), fun h => by have := h.t3; omega⟩
   rw [if_neg h3]
   cases h4 : firstE (tErr s.2.2.1.length) s.2.2.2.1 0 with
   | some p =>
    have := firstE_some _ _ _ _ _ h4
    refine ⟨fun h => absurd h this, fun h => ?_⟩
    have : firstE (tErr s.2.2.1.length) s.2.2.2.1 0 = none := (firstE_none _ tl0 _ _).2 fun k hk => tErr_zero.2 (h.told k hk)
    rw [h4] at this; cases this
   | none =>
    have htl := (firstE_none (tErr s.2.2.1.length) tl0 _ _).1 h4
    exact ⟨fun _ => ⟨by omega, by omega, fun i hi => bErr_zero.1 (hy i hi), ho, by omega, fun i hi => sErr_zero.1 (hsn i hi), by omega, fun i hi => tErr_zero.1 (htl i hi)⟩, fun _ => rfl⟩
theorem fin106 {s : Su} {but : Nat} (hs : VS s) (hb : but < 1000000000000) {C : Bool} {r g : List Int} (h : soP s but.testBit g = true) : g0_106 s but r s.2.2.1.length C g (pg_106 s but r false true g) := by
 refine R106s124_0 _ _ _ _ _ _ _ _ _ _ ?_
 simp only [Option.bind_some]
 rw [bq rfl, L125 hs hb, h]
 exact Ev.all fun _ => by first | rfl | trivial
theorem fold_none {C X : Type} (c' c : C) : ∀ (l : List X), foldT (fun _ _ => (c', false)) l c = if l = [] then (c, true) else (c', false)
 | [] => rfl
 | _ :: _ => rfl
theorem L106 {s : Su} {but : Nat} (hs : VS s) (hb : but < 1000000000000) : F106 ((hn s (but : Int), ()) : Option Sb × Unit) = some (decide (truthsP s but.testBit ≠ []), ()) := by
 refine ghost_eq (Ev.eq (fun _ => E106 _ _) ?_)
 obtain ⟨r', l', _, h⟩ := run_106 s but hs hb (fun _ _ => (true, false)) (fun _ _ h => fin106 hs hb h) false
 rw [fold_none] at h
 have e := gsub_eq h
 refine Ev.all fun _ => ?_
 refine (congrArg (fun o => Option.bind o _) e).trans ?_
 by_cases hq : truthsP s but.testBit = []
 ·rw [if_pos hq, dec_f (fun h => h hq)]; rfl
 ·rw [if_neg hq, dec_t hq]; rfl
def trP (s : Su) : List (List Int × List Int) := truthsP s (Nat.testBit 0)
abbrev Ak := Bool × Int × Unit
def errP (s : Su) (l : List Ak) : Int := if (chkP s).2.2.1 = 0 then (match l.find? (fun x => !x.1) with
 | some x => x.2.1
 | none => if trP s = [] then 8 else 0) else (chkP s).2.2.1
theorem L84 (s : Su) (l : List Ak) (hl : l.length < 1000000) (hne : ∀ x ∈ l, x.2.1 ≠ 0) : F84 ((s, l, ()) : Su × List Ak × Unit) = some (if errP s l = 0 then hn s 0 else none, errP s l, ()) := by
 refine N84 _ _ ?_
 rw [L19]
 simp only [Option.bind_some]
 unfold errP
 by_cases hc : (chkP s).2.2.1 = 0
 ·have hs := (chkP_ok s).1 hc
  rw [nbq hc]
  simp only [if_pos hc, cond_false]
  have key : ∀ (c i : Nat), i + c = l.length → Ev fun k => T84_0 l l.length i s k = some (if (match (l.drop i).find? (fun x => !x.1) with | some x => x.2.1 | none => if trP s = [] then 8 else 0) = 0 then hn s 0 else none, (match (l.drop i).find? (fun x => !x.1) with | some x => x.2.1 | none => if trP s = [] then 8 else 0), ()) := by
   intro c
   induction c with
   | zero =>
    intro i hi
    refine R84_0 _ _ _ _ ?_
    rw [dec_f (by omega), List.drop_eq_nil_of_le (by omega)]
    simp only [cond_false, List.find?_nil]
    rw [L105]
    simp only [Option.bind_some]
    have h106 := L106 (but := 0) hs (by omega)
    rw [show hn s 0 = hn s ((0 : Nat) : Int) from rfl, h106]
    simp only [Option.bind_some]
    by_cases ht : trP s = []
    ·rw [dec_f (fun h => h ht), if_pos ht]
     exact Ev.all fun _ => by first | rfl | trivial
    ·rw [dec_t (show truthsP s (Nat.testBit 0) ≠ [] from ht), if_neg ht]
     exact Ev.all fun _ => by first | rfl | trivial
   | succ c ih =>
    intro i hi
    have hlt : i < l.length := by omega
    refine R84_0 _ _ _ _ ?_
    have ih := ih (i + 1) (by omega)
    rw [dec_t (show (i : Int) < (l.length : Int) by omega), dec_t (show (0 : Int) ≤ (i : Int) by omega), wrap_succ (n := i) (by omega), Int.toNat_natCast, getD_lt hlt, find_drop hlt]
    have hx := hne _ (List.getElem_mem hlt)
    generalize l[i] = x at hx ⊢
    simp only [Bool.and_self, cond_true]
    cases hx1 : (!x.1) with
    | true =>
     simp only [if_true, cond_true, if_neg hx]
     exact Ev.all fun _ => by first | rfl | trivial
    | false =>
     simp only [Bool.false_eq_true, if_false, cond_false]
     exact ih
  have := key l.length 0 (by omega)
  rw [List.drop_zero] at this
  exact this
 ·rw [nbqf hc]
  simp only [if_neg hc, cond_true]
  exact Ev.all fun _ => by first | rfl | trivial
theorem errP_ok {s : Su} {l : List Ak} (hne : ∀ x ∈ l, x.2.1 ≠ 0) (h : errP s l = 0) : VS s ∧ (∀ x ∈ l, x.1 = true) ∧ trP s ≠ [] := by
 unfold errP at h
 by_cases hc : (chkP s).2.2.1 = 0
 ·rw [if_pos hc] at h
  cases hf : l.find? (fun x => !x.1) with
  | some x =>
   rw [hf] at h
   exact absurd h (hne x (List.mem_of_find?_eq_some hf))
  | none =>
   rw [hf] at h
   refine ⟨(chkP_ok s).1 hc, fun x hx => ?_, fun ht => ?_⟩
   ·have := List.find?_eq_none.1 hf x hx
    simpa using this
   ·simp only [if_pos ht] at h
    omega
 ·rw [if_neg hc] at h
  exact absurd h hc
end Go.Proofs.Ytkhhbpocmmmnmaa
/- What the program's questions return: plain functions of all truths. Conditions: as each lemma states. -/
namespace Go.Proofs.Ytkhhbpocmmmnmaa
open Go Go.Gh Go.Proofs
theorem fold_all {C X : Type} (f : C → X → C) : ∀ (l : List X) (c : C), foldT (fun c x => (f c x, true)) l c = (l.foldl f c, true)
 | [], _ => rfl
 | x :: l, c => fold_all f l (f c x)
theorem eqSp (a b : Sp) : eqD (Ty.struct [Ty.int IntKind.i64, Ty.int IntKind.i64]) a b = decide (a = b) := by
 obtain ⟨a1, a2, ⟨⟩⟩ := a
 obtain ⟨b1, b2, ⟨⟩⟩ := b
 have e1 : eqD (Ty.int IntKind.i64) a1 b1 = (a1 == b1) := by simp [eqD]
 have e2 : eqD (Ty.int IntKind.i64) a2 b2 = (a2 == b2) := by simp [eqD]
 simp only [eqD, eqDL, e1, e2, Bool.and_true]
 rw [Bool.eq_iff_iff]
 simp
def wide (x : Sp) (n : Int) : Sp := (if x.1 < n then x.1 else n, if x.2.1 > n then x.2.1 else n, ())
def addH (c : Hl) (n : Int) : Hl := if c.2.1 = true then (wide c.1 n, true, ()) else ((n, n, ()), true, ())
def hullL : List Int → Sp
 | [] => (0, 0, ())
 | n :: l => l.foldl wide (n, n, ())
theorem addH_fold (x : Sp) : ∀ l : List Int, l.foldl addH (x, true, ()) = (l.foldl wide x, true, ())
 | [] => rfl
 | n :: l => addH_fold (wide x n) l
theorem hull_fold (l : List Int) : (l.foldl addH ((0, 0, ()), false, ())).1 = hullL l := by
 cases l with
 | nil => rfl
 | cons n l =>
  show (l.foldl addH ((n, n, ()), true, ())).1 = _
  rw [addH_fold]
  rfl
theorem add_ends (c : Hl) (n : Int) : (bif !c.2.1 then (bif !eqD (Ty.struct [Ty.int IntKind.i64, Ty.int IntKind.i64]) (wide (n, n, ()) n) ((n, n, ()) : Sp) then (wide (n, n, ()) n, true, ()) else ((n, n, ()), true, ()))
  else (bif !eqD (Ty.struct [Ty.int IntKind.i64, Ty.int IntKind.i64]) (wide c.1 n) c.1 then (wide c.1 n, c.2) else c)) = addH c n := by
 obtain ⟨x, any, ⟨⟩⟩ := c
 cases any with
 | false =>
  have e : wide (n, n, ()) n = (n, n, ()) := by simp [wide]
  simp only [e, Bool.not_false, cond_true]
  cases (!eqD (Ty.struct [Ty.int IntKind.i64, Ty.int IntKind.i64]) ((n, n, ()) : Sp) ((n, n, ()) : Sp)) <;> rfl
 | true =>
  simp only [Bool.not_true, cond_false]
  rw [eqSp]
  by_cases h : wide x n = x
  ·rw [dec_t h]
   simp only [Bool.not_true, cond_false, addH, if_true, h]
  ·rw [dec_f h]
   rfl
section
variable {s : Su} {but : Nat} (hs : VS s) (hb : but < 1000000000000)
 include hs hb
theorem fin21 {C : Hl} {r g : List Int} {a : Int} (a0 : 0 ≤ a) (a1 : a < s.1.length) (h : soP s but.testBit g = true) : g0_21 s but a r s.2.2.1.length C g (pg_21 s but a r true (addH C (r.getD a.toNat 0)) g) := by
 have h3 := hs.b3
 refine R21s124_0 _ _ _ _ _ _ _ _ _ _ _ _ _ ?_
 simp only [Option.bind_some]
 rw [bq rfl, L125 hs hb, h, dec_t a0, dec_t (show a < 3 by omega), dec_t (show a.toNat < 3 by omega), ← add_ends]
 simp only [Bool.and_self, cond_true, cond_false, Bool.not_true, Option.bind_some]
 generalize r.getD a.toNat 0 = n
 obtain ⟨x, any, ⟨⟩⟩ := C
 cases any with
 | false =>
  simp only [Bool.not_false, cond_true]
  cases hq : (!eqD (Ty.struct [Ty.int IntKind.i64, Ty.int IntKind.i64]) (wide (n, n, ()) n) ((n, n, ()) : Sp)) with
  | false => rw [show (!eqD (Ty.struct [Ty.int IntKind.i64, Ty.int IntKind.i64]) (if n < n then n else n, if n > n then n else n, ()) (n, n, ())) = false from hq]; exact Ev.all fun _ => rfl
  | true => rw [show (!eqD (Ty.struct [Ty.int IntKind.i64, Ty.int IntKind.i64]) (if n < n then n else n, if n > n then n else n, ()) (n, n, ())) = true from hq]; exact Ev.all fun _ => rfl
 | true =>
  simp only [Bool.not_true, cond_false]
  cases hq : (!eqD (Ty.struct [Ty.int IntKind.i64, Ty.int IntKind.i64]) (wide x n) x) with
  | false => rw [show (!eqD (Ty.struct [Ty.int IntKind.i64, Ty.int IntKind.i64]) (if x.1 < n then x.1 else n, if x.2.1 > n then x.2.1 else n, ()) x) = false from hq]; exact Ev.all fun _ => rfl
  | true => rw [show (!eqD (Ty.struct [Ty.int IntKind.i64, Ty.int IntKind.i64]) (if x.1 < n then x.1 else n, if x.2.1 > n then x.2.1 else n, ()) x) = true from hq]; exact Ev.all fun _ => rfl
theorem fin26 {C : Hl} {r g : List Int} (h : soP s but.testBit g = true) : g0_26 s but r s.2.2.1.length C g (pg_26 s but r true (addH C (manyP s.2.2.1.length g)) g) := by
 refine R26s124_0 _ _ _ _ _ _ _ _ _ _ _ _ _ ?_
 simp only [Option.bind_some]
 rw [bq rfl, L125 hs hb, h, L96 hs, ← add_ends]
 simp only [cond_true, cond_false, Bool.not_true, Option.bind_some]
 generalize ((manyP s.2.2.1.length g : Nat) : Int) = n
 obtain ⟨x, any, ⟨⟩⟩ := C
 cases any with
 | false =>
  simp only [Bool.not_false, cond_true]
  cases hq : (!eqD (Ty.struct [Ty.int IntKind.i64, Ty.int IntKind.i64]) (wide (n, n, ()) n) ((n, n, ()) : Sp)) with
  | false => rw [show (!eqD (Ty.struct [Ty.int IntKind.i64, Ty.int IntKind.i64]) (if n < n then n else n, if n > n then n else n, ()) (n, n, ())) = false from hq]; exact Ev.all fun _ => rfl
  | true => rw [show (!eqD (Ty.struct [Ty.int IntKind.i64, Ty.int IntKind.i64]) (if n < n then n else n, if n > n then n else n, ()) (n, n, ())) = true from hq]; exact Ev.all fun _ => rfl
 | true =>
  simp only [Bool.not_true, cond_false]
  cases hq : (!eqD (Ty.struct [Ty.int IntKind.i64, Ty.int IntKind.i64]) (wide x n) x) with
  | false => rw [show (!eqD (Ty.struct [Ty.int IntKind.i64, Ty.int IntKind.i64]) (if x.1 < n then x.1 else n, if x.2.1 > n then x.2.1 else n, ()) x) = false from hq]; exact Ev.all fun _ => rfl
  | true => rw [show (!eqD (Ty.struct [Ty.int IntKind.i64, Ty.int IntKind.i64]) (if x.1 < n then x.1 else n, if x.2.1 > n then x.2.1 else n, ()) x) = true from hq]; exact Ev.all fun _ => rfl
theorem fin31 {C : Hl} {r g : List Int} {a : Nat} {day : Int} (a1 : a < s.2.2.1.length) (d0 : 0 ≤ day) (d1 : day ≤ 30) (hr : Good 3 16 r) (h : soP s but.testBit g = true) : g0_31 s but a day r s.2.2.1.length C g (pg_31 s but a day r true (addH C (placeP (s.2.2.1.getD a sn0) r day)) g) := by
 refine R31s124_0 _ _ _ _ _ _ _ _ _ _ _ _ _ _ _ ?_
 simp only [Option.bind_some]
 rw [bq rfl, L125 hs hb, h, L101 hs but hr a a1 d0 d1, ← add_ends]
 simp only [cond_true, cond_false, Bool.not_true, Option.bind_some]
 generalize placeP (s.2.2.1.getD a sn0) r day = n
 obtain ⟨x, any, ⟨⟩⟩ := C
 cases any with
 | false =>
  simp only [Bool.not_false, cond_true]
  cases hq : (!eqD (Ty.struct [Ty.int IntKind.i64, Ty.int IntKind.i64]) (wide (n, n, ()) n) ((n, n, ()) : Sp)) with
  | false => rw [show (!eqD (Ty.struct [Ty.int IntKind.i64, Ty.int IntKind.i64]) (if n < n then n else n, if n > n then n else n, ()) (n, n, ())) = false from hq]; exact Ev.all fun _ => rfl
  | true => rw [show (!eqD (Ty.struct [Ty.int IntKind.i64, Ty.int IntKind.i64]) (if n < n then n else n, if n > n then n else n, ()) (n, n, ())) = true from hq]; exact Ev.all fun _ => rfl
 | true =>
  simp only [Bool.not_true, cond_false]
  cases hq : (!eqD (Ty.struct [Ty.int IntKind.i64, Ty.int IntKind.i64]) (wide x n) x) with
  | false => rw [show (!eqD (Ty.struct [Ty.int IntKind.i64, Ty.int IntKind.i64]) (if x.1 < n then x.1 else n, if x.2.1 > n then x.2.1 else n, ()) x) = false from hq]; exact Ev.all fun _ => rfl
  | true => rw [show (!eqD (Ty.struct [Ty.int IntKind.i64, Ty.int IntKind.i64]) (if x.1 < n then x.1 else n, if x.2.1 > n then x.2.1 else n, ()) x) = true from hq]; exact Ev.all fun _ => rfl
def cntW (c : Int × Int) (q : Bool) : Int × Int := (if q = true then IntKind.wrap IntKind.i64 (c.1 + 1) else c.1, IntKind.wrap IntKind.i64 (c.2 + 1))
theorem fin23 {C : Int × Int} {r g : List Int} {a c : Int} (a0 : 0 ≤ a) (a1 : a < s.2.2.1.length) (c0 : 0 ≤ c) (c1 : c < s.2.2.1.length) (h : soP s but.testBit g = true) : g0_23 s but a c r s.2.2.1.length C g (pg_23 s but a c r true (cntW C (g.getD a.toNat 0 == g.getD c.toNat 0)) g) := by
 have h5 := hs.n5
 refine R23s124_0 _ _ _ _ _ _ _ _ _ _ _ _ _ ?_
 simp only [Option.bind_some]
 rw [bq rfl, L125 hs hb, h, dec_t a0, dec_t (show a < 5 by omega), dec_t (show a.toNat < 5 by omega), dec_t c0, dec_t (show c < 5 by omega), dec_t (show c.toNat < 5 by omega)]
 simp only [Bool.and_self, cond_true, cond_false, Bool.not_true, Option.bind_some]
 unfold cntW
 cases (g.getD a.toNat 0 == g.getD c.toNat 0) <;> exact Ev.all fun _ => rfl
theorem fin33 {C : Int × Int} {r g : List Int} {a : Nat} {day : Int} (a1 : a < s.2.2.1.length) (d0 : 0 ≤ day) (d1 : day ≤ 30) (hr : Good 3 16 r) (h : soP s but.testBit g = true) : g0_33 s but a day r s.2.2.1.length C g (pg_33 s but a day r true (cntW C (farP (placeP (s.2.2.1.getD a sn0) r day) 90)) g) := by
 have hp := place_bd hs hr a1 d0 d1
 refine R33s124_0 _ _ _ _ _ _ _ _ _ _ _ _ _ _ ?_
 simp only [Option.bind_some]
 rw [bq rfl, L125 hs hb, h, L101 hs but hr a a1 d0 d1]
 simp only [cond_true, cond_false, Bool.not_true, Option.bind_some]
 rw [L104 _ _ (by omega) (by omega) (by omega) (by omega)]
 simp only [Option.bind_some]
 unfold cntW
 cases farP (placeP (s.2.2.1.getD a sn0) r day) 90 <;> exact Ev.all fun _ => rfl
def betW (n : Nat) (c : List Int × Int) (g : List Int) : List Int × Int := if (decide ((manyP n g : Int) < c.2) || ((manyP n g : Int) == c.2 && decide (Few.cmpL g (c.1.take 5) < 0))) = true then (g, (manyP n g : Int)) else c
theorem fin28 {C : List Int × Int} {r g : List Int} (hg : Good 5 4 g) (h : soP s but.testBit g = true) : g0_28 s but r s.2.2.1.length C g (pg_28 s but r true (betW s.2.2.1.length C g) g) := by
 refine R28s124_0 _ _ _ _ _ _ _ _ _ _ _ _ _ ?_
 simp only [Option.bind_some]
 rw [bq rfl, L125 hs hb, h, L96 hs]
 simp only [cond_true, cond_false, Bool.not_true, Option.bind_some]
 rw [List.drop_zero, List.drop_zero, List.take_of_length_le (show g.length ≤ 5 by rw [hg.len]; omega), L98 _ _ (by rw [hg.len]; omega)]
 simp only [Option.bind_some]
 unfold betW
 cases decide ((manyP s.2.2.1.length g : Int) < C.2) with
 | true => exact Ev.all fun _ => rfl
 | false =>
  cases ((manyP s.2.2.1.length g : Int) == C.2) with
  | false => exact Ev.all fun _ => rfl
  | true =>
   cases decide (Few.cmpL g (C.1.take 5) < 0) with
   | true => exact Ev.all fun _ => rfl
   | false => exact Ev.all fun _ => rfl
end
theorem gExt_len (ok : List Int → Nat → Nat → Bool) : ∀ (c : Nat) (p : List Int), p.length + c ≤ 5 → (gExt ok c p).length ≤ 6 ^ c
 | 0, _, _ => by simp [gExt]
 | c + 1, p, h => by
  rw [gExt]
  refine Nat.le_trans (Few.flat_len _ (6 ^ c) _ fun k hk => ?_) ?_
  ·split
   ·exact gExt_len ok c _ (by simp; omega)
   ·simp
  ·rw [List.length_range, Nat.pow_succ, Nat.mul_comm]
   exact Nat.mul_le_mul_left _ (by omega)
theorem rExt_len {s : Su} (hs : VS s) : ∀ (c : Nat) (m : Int) (p : List Int), p.length + c ≤ s.1.length → (rExt s c m p).length ≤ 17 ^ c
 | 0, _, _, _ => by simp [rExt]
 | c + 1, m, p, h => by
  rw [rExt]
  refine Nat.le_trans (Few.flat_len _ (17 ^ c) _ fun v hv => rExt_len hs c v _ (by simp; omega)) ?_
  have hb := hs.belts p.length (by omega)
  rw [Few.upto_len, Nat.pow_succ, Nat.mul_comm]
  exact Nat.mul_le_mul_left _ (by omega)
theorem truths_len {s : Su} (hs : VS s) (but : Nat → Bool) : (truthsP s but).length ≤ 100000000 := by
 have h3 := hs.b3
 have h5 := hs.n5
 unfold truthsP
 refine Nat.le_trans (Few.flat_len _ 7776 _ fun r _ => ?_) ?_
 ·rw [List.length_map]
  refine Nat.le_trans (List.length_filter_le _ _) ?_
  exact Nat.le_trans (gExt_len _ _ _ (by simpa using h5)) (Nat.pow_le_pow_right (n := 6) (by decide) (show s.2.2.1.length ≤ 5 from h5))
 ·have h1 : (ratesP s).length ≤ 4913 := Nat.le_trans (rExt_len hs _ _ _ (by simp)) (Nat.pow_le_pow_right (n := 17) (by decide) (show s.1.length ≤ 3 from h3))
  exact Nat.le_trans (Nat.mul_le_mul_right _ h1) (by decide)
theorem cnt_fold {X : Type} (q : X → Bool) : ∀ (l : List X) (i j : Nat), i ≤ j → j + l.length < 1000000000 → l.foldl (fun c t => cntW c (q t)) ((i : Int), (j : Int)) = (((i + l.countP q : Nat) : Int), ((j + l.length : Nat) : Int))
 | [], i, j, _, _ => rfl
 | x :: l, i, j, hi, hj => by
  have hj : j + (l.length + 1) < 1000000000 := hj
  rw [List.foldl_cons]
  unfold cntW
  simp only [wrap_succ (n := j) (show j < 1000000000000 by omega), wrap_succ (n := i) (show i < 1000000000000 by omega)]
  rw [List.countP_cons, List.length_cons]
  cases hq : q x with
  | true =>
   have := cnt_fold q l (i + 1) (j + 1) (by omega) (by omega)
   simp only [if_true]
   unfold cntW at this
   rw [this]
   congr 2 <;> omega
  | false =>
   have := cnt_fold q l i (j + 1) (by omega) (by omega)
   simp only [Bool.false_eq_true, if_false]
   unfold cntW at this
   rw [this]
   congr 2
   omega
def settledP (yes all : Nat) : Int := if yes = all then 1 else if yes = 0 then 2 else 0
theorem settle_eq (a b : Nat) {y : Option (denL [(.int .i64), (.int .i64)])} (h : some (settledP a b, 0, ()) = y) : (bif ((a : Int) == (b : Int)) then some (1, 0, ()) else bif ((a : Int) == 0) then some (2, 0, ()) else some (0, 0, ()) : Option (denL [(.int .i64), (.int .i64)])) = y := by
 rw [← h]
 unfold settledP
 by_cases h1 : a = b
 ·rw [if_pos h1, bq (show (a : Int) = (b : Int) by omega)]; rfl
 ·rw [if_neg h1, bqf (show (a : Int) ≠ (b : Int) by omega)]
  by_cases h2 : a = 0
  ·rw [if_pos h2, bq (show (a : Int) = 0 by omega)]; rfl
  ·rw [if_neg h2, bqf (show (a : Int) ≠ 0 by omega)]; rfl
theorem errP_bad {s : Su} {l : List Ak} (h : (chkP s).2.2.1 ≠ 0) : errP s l = (chkP s).2.2.1 := if_neg h
theorem L85_g (n : Int) (l : List Int) (hl : l.length < 1000000000000) : ∃ b, F85 ((n, l, ()) : Int × List Int × Unit) = some ((b, 4, ()), ()) := by
 refine ⟨!l.any (fun x => decide (x < 0) || decide (x > IntKind.wrap IntKind.i64 (n - 1))), N85 _ _ ?_⟩
 rw [L78 _ _ _ hl]
 exact Ev.all fun _ => rfl
theorem ne1 {x : Ak} (h : x.2.1 ≠ 0) : ∀ z ∈ [x], z.2.1 ≠ 0 := fun z hz => by
 rw [List.mem_singleton] at hz; subst hz; exact h
theorem ne2 {x y : Ak} (h : x.2.1 ≠ 0) (h2 : y.2.1 ≠ 0) : ∀ z ∈ [x, y], z.2.1 ≠ 0 := fun z hz => by
 rw [List.mem_cons, List.mem_singleton] at hz
 rcases hz with rfl | rfl
 ·exact h
 ·exact h2
theorem four_ne : (4 : Int) ≠ 0 := by decide
theorem two_ne : (2 : Int) ≠ 0 := by decide
theorem seven_ne : (7 : Int) ≠ 0 := by decide
def askB (n : Nat) (l : List Int) : Ak := (!l.any (outP n), 4, ())
def rateP (s : Su) (b : Int) : Sp × Int × Unit := if errP s [askB s.1.length [b]] = 0 then (hullL ((trP s).map fun t => t.1.getD b.toNat 0), 0, ()) else ((0, 0, ()), errP s [askB s.1.length [b]], ())
theorem ask1 {n : Nat} {b : Int} (h : (askB n [b]).1 = true) : 0 ≤ b ∧ b < n := by
 have h : (![b].any (outP n)) = true := h
 rw [Bool.not_eq_true', List.any_cons, List.any_nil, Bool.or_false, outP_f] at h
 exact h
theorem L21 (s : Su) (b : Int) : F21 ((s, b, ()) : Su × Int × Unit) = some (rateP s b) := by
 refine ghost_eq (Ev.eq (fun _ => E21 _ _ _) ?_)
 rw [show List.set (List.replicate 1 (0 : Int)) 0 b = [b] from rfl]
 by_cases hc : (chkP s).2.2.1 = 0
 ·have hs := (chkP_ok s).1 hc
  have h3 := hs.b3
  rw [L85 s.1.length (by omega) [b] (by simp)]
  simp only [Option.bind_some]
  rw [show (List.set (List.replicate 1 ((false, 0, ()) : Ak)) 0 (!List.any [b] (outP s.1.length), 4, ())) = [askB s.1.length [b]] from rfl, L84 s _ (by simp) (ne1 four_ne)]
  simp only [Option.bind_some]
  unfold rateP
  by_cases he : errP s [askB s.1.length [b]] = 0
  ·obtain ⟨_, ha, _⟩ := errP_ok (ne1 four_ne) he
   obtain ⟨b0, b1⟩ := ask1 (ha (askB s.1.length [b]) (List.mem_singleton_self _))
   rw [if_pos he, if_pos he, he]
   simp only [bne_self_eq_false, cond_false]
   obtain ⟨r', l', _, h⟩ := run_21 s 0 b hs (by omega) (fun c t => (addH c (t.1.getD b.toNat 0), true)) (fun _ _ h => fin21 hs (by omega) b0 b1 h) ((0, 0, ()), false, ())
   rw [fold_all] at h
   refine Ev.all fun _ => ?_
   refine (congrArg (fun o => Option.bind o _) (gsub_eq h)).trans ?_
   have hh : ((truthsP s (Nat.testBit 0)).foldl (fun (c : Hl) t => addH c (t.1.getD b.toNat 0)) ((0, 0, ()), false, ())).1 = hullL ((trP s).map fun t => t.1.getD b.toNat 0) := by
    rw [← hull_fold, List.foldl_map]; rfl
   rw [← hh]
   rfl
  ·rw [if_neg he, if_neg he, nbqf he]
   exact Ev.all fun _ => rfl
 ·obtain ⟨x, hx⟩ := L85_g (s.1.length : Int) [b] (by simp)
  rw [hx]
  simp only [Option.bind_some]
  rw [show (List.set (List.replicate 1 ((false, 0, ()) : Ak)) 0 (x, 4, ())) = [(x, 4, ())] from rfl, L84 s _ (by simp) (ne1 four_ne), errP_bad hc]
  simp only [Option.bind_some]
  unfold rateP
  rw [errP_bad hc, if_neg hc, if_neg hc, nbqf hc]
  exact Ev.all fun _ => rfl
def groupsP (s : Su) : Sp × Int × Unit := if errP s [] = 0 then (hullL ((trP s).map fun t => (manyP s.2.2.1.length t.2 : Int)), 0, ()) else ((0, 0, ()), errP s [], ())
theorem ne0 : ∀ z ∈ ([] : List Ak), z.2.1 ≠ 0 := fun z hz => by cases hz
theorem L26 (s : Su) : F26 ((s, ()) : Su × Unit) = some (groupsP s) := by
 refine ghost_eq (Ev.eq (fun _ => E26 _ _) ?_)
 rw [L84 s [] (by simp) ne0]
 simp only [Option.bind_some]
 unfold groupsP
 by_cases he : errP s [] = 0
 ·obtain ⟨hs, _, _⟩ := errP_ok ne0 he
  rw [if_pos he, if_pos he, he]
  simp only [bne_self_eq_false, cond_false]
  obtain ⟨r', l', _, h⟩ := run_26 s 0 hs (by omega) (fun c t => (addH c (manyP s.2.2.1.length t.2), true)) (fun _ _ h => fin26 hs (by omega) h) ((0, 0, ()), false, ())
  rw [fold_all] at h
  refine Ev.all fun _ => ?_
  refine (congrArg (fun o => Option.bind o _) (gsub_eq h)).trans ?_
  have hh : ((truthsP s (Nat.testBit 0)).foldl (fun (c : Hl) t => addH c (manyP s.2.2.1.length t.2)) ((0, 0, ()), false, ())).1 = hullL ((trP s).map fun t => (manyP s.2.2.1.length t.2 : Int)) := by
   rw [← hull_fold, List.foldl_map]; rfl
  rw [← hh]
  rfl
 ·rw [if_neg he, if_neg he, nbqf he]
  exact Ev.all fun _ => rfl
def askS (s : Su) (a c : Int) : List Ak := [askB s.2.2.1.length [a, c], (a != c, 2, ())]
def sameP (s : Su) (a c : Int) : Int × Int × Unit := if errP s (askS s a c) = 0 then (settledP ((trP s).countP fun t => t.2.getD a.toNat 0 == t.2.getD c.toNat 0) (trP s).length, 0, ()) else (0, errP s (askS s a c), ())
theorem ask2 {n : Nat} {b c : Int} (h : (askB n [b, c]).1 = true) : (0 ≤ b ∧ b < n) ∧ 0 ≤ c ∧ c < n := by
 have h : (![b, c].any (outP n)) = true := h
 rw [Bool.not_eq_true', List.any_cons, List.any_cons, List.any_nil, Bool.or_false, Bool.or_eq_false_iff, outP_f, outP_f] at h
 exact h
theorem L23 (s : Su) (a c : Int) : F23 ((s, a, c, ()) : Su × Int × Int × Unit) = some (sameP s a c) := by
 refine ghost_eq (Ev.eq (fun _ => E23 _ _ _ _) ?_)
 rw [show List.set (List.set (List.replicate 2 (0 : Int)) 0 a) 1 c = [a, c] from rfl]
 by_cases hc : (chkP s).2.2.1 = 0
 ·have hs := (chkP_ok s).1 hc
  have h5 := hs.n5
  rw [L85 s.2.2.1.length (by omega) [a, c] (by simp)]
  simp only [Option.bind_some]
  rw [show (List.set (List.set (List.replicate 2 ((false, 0, ()) : Ak)) 0 (!List.any [a, c] (outP s.2.2.1.length), 4, ())) 1 (a != c, 2, ())) = askS s a c from rfl, L84 s (askS s a c) (by simp [askS]) (ne2 four_ne two_ne)]
  simp only [Option.bind_some]
  unfold sameP
  by_cases he : errP s (askS s a c) = 0
  ·obtain ⟨_, ha, _⟩ := errP_ok (ne2 four_ne two_ne) he
   obtain ⟨b0, b1⟩ := ask2 (ha (askB s.2.2.1.length [a, c]) (by simp))
   rw [if_pos he, if_pos he, he]
   simp only [bne_self_eq_false, cond_false]
   obtain ⟨r', l', _, h⟩ := run_23 s 0 a c hs (by omega) (fun q t => (cntW q (t.2.getD a.toNat 0 == t.2.getD c.toNat 0), true)) (fun _ _ h => fin23 hs (by omega) b0.1 b0.2 b1.1 b1.2 h) (((0 : Nat) : Int), ((0 : Nat) : Int))
   have hl := truths_len hs (Nat.testBit 0)
   rw [fold_all, cnt_fold (fun t : List Int × List Int => t.2.getD a.toNat 0 == t.2.getD c.toNat 0) _ 0 0 (Nat.le_refl _) (by omega), Nat.zero_add, Nat.zero_add] at h
   refine Ev.all fun _ => ?_
   refine (congrArg (fun o => Option.bind o _) (gsub_eq h)).trans ?_
   exact settle_eq _ _ rfl
  ·rw [if_neg he, if_neg he, nbqf he]
   exact Ev.all fun _ => rfl
 ·obtain ⟨x, hx⟩ := L85_g (s.2.2.1.length : Int) [a, c] (by simp)
  rw [hx]
  simp only [Option.bind_some]
  rw [show (List.set (List.set (List.replicate 2 ((false, 0, ()) : Ak)) 0 (x, 4, ())) 1 (a != c, 2, ())) = [(x, 4, ()), (a != c, 2, ())] from rfl, L84 s _ (by simp) (ne2 four_ne two_ne), errP_bad hc]
  simp only [Option.bind_some]
  unfold sameP
  rw [errP_bad hc, if_neg hc, if_neg hc, nbqf hc]
  exact Ev.all fun _ => rfl
def askD (s : Su) (a day : Int) : List Ak := [askB s.2.2.1.length [a], (!outP 31 day, 7, ())]
def whereP (s : Su) (a day : Int) : Sp × Int × Unit := if errP s (askD s a day) = 0 then (hullL ((trP s).map fun t => placeP (s.2.2.1.getD a.toNat sn0) t.1 day), 0, ()) else ((0, 0, ()), errP s (askD s a day), ())
def hiddenP (s : Su) (a day : Int) : Int × Int × Unit := if errP s (askD s a day) = 0 then (settledP ((trP s).countP fun t => farP (placeP (s.2.2.1.getD a.toNat sn0) t.1 day) 90) (trP s).length, 0, ()) else (0, errP s (askD s a day), ())
theorem askD_ok {s : Su} {a day : Int} (he : errP s (askD s a day) = 0) : VS s ∧ (0 ≤ a ∧ a < s.2.2.1.length) ∧ (0 ≤ day ∧ day ≤ 30) ∧ trP s ≠ [] := by
 obtain ⟨hs, ha, ht⟩ := errP_ok (ne2 four_ne seven_ne) he
 have h2 : (!outP 31 day) = true := ha (!outP 31 day, 7, ()) (by simp)
 rw [Bool.not_eq_true', outP_f] at h2
 exact ⟨hs, ask1 (ha (askB s.2.2.1.length [a]) (by simp)), by omega, ht⟩
theorem L31 (s : Su) (a day : Int) : F31 ((s, a, day, ()) : Su × Int × Int × Unit) = some (whereP s a day) := by
 refine ghost_eq (Ev.eq (fun _ => E31 _ _ _ _) ?_)
 rw [show List.set (List.replicate 1 (0 : Int)) 0 a = [a] from rfl, L99]
 by_cases hc : (chkP s).2.2.1 = 0
 ·have hs := (chkP_ok s).1 hc
  have h5 := hs.n5
  rw [L85 s.2.2.1.length (by omega) [a] (by simp)]
  simp only [Option.bind_some]
  rw [show (List.set (List.set (List.replicate 2 ((false, 0, ()) : Ak)) 0 (!List.any [a] (outP s.2.2.1.length), 4, ())) 1 (!outP 31 day, 7, ())) = askD s a day from rfl, L84 s (askD s a day) (by simp [askD]) (ne2 four_ne seven_ne)]
  simp only [Option.bind_some]
  unfold whereP
  by_cases he : errP s (askD s a day) = 0
  ·obtain ⟨_, ⟨a0, a1⟩, ⟨d0, d1⟩, _⟩ := askD_ok he
   rw [if_pos he, if_pos he, he]
   simp only [bne_self_eq_false, cond_false]
   obtain ⟨n, rfl⟩ := Int.eq_ofNat_of_zero_le a0
   obtain ⟨r', l', _, h⟩ := run_31 s 0 n day hs (by omega) (fun c t => (addH c (placeP (s.2.2.1.getD n sn0) t.1 day), true)) (fun hr _ h => fin31 hs (by omega) (by omega) d0 d1 hr h) ((0, 0, ()), false, ())
   rw [fold_all] at h
   refine Ev.all fun _ => ?_
   refine (congrArg (fun o => Option.bind o _) (gsub_eq h)).trans ?_
   have hh : ((truthsP s (Nat.testBit 0)).foldl (fun (c : Hl) t => addH c (placeP (s.2.2.1.getD n sn0) t.1 day)) ((0, 0, ()), false, ())).1 = hullL ((trP s).map fun t => placeP (s.2.2.1.getD n sn0) t.1 day) := by
    rw [← hull_fold, List.foldl_map]; rfl
   rw [Int.toNat_natCast, ← hh]
   rfl
  ·rw [if_neg he, if_neg he, nbqf he]
   exact Ev.all fun _ => rfl
 ·obtain ⟨x, hx⟩ := L85_g (s.2.2.1.length : Int) [a] (by simp)
  rw [hx]
  simp only [Option.bind_some]
  rw [show (List.set (List.set (List.replicate 2 ((false, 0, ()) : Ak)) 0 (x, 4, ())) 1 (!outP 31 day, 7, ())) = [(x, 4, ()), (!outP 31 day, 7, ())] from rfl, L84 s _ (by simp) (ne2 four_ne seven_ne), errP_bad hc]
  simp only [Option.bind_some]
  unfold whereP
  rw [errP_bad hc, if_neg hc, if_neg hc, nbqf hc]
  exact Ev.all fun _ => rfl
theorem L33 (s : Su) (a day : Int) : F33 ((s, a, day, ()) : Su × Int × Int × Unit) = some (hiddenP s a day) := by
 refine ghost_eq (Ev.eq (fun _ => E33 _ _ _ _) ?_)
 rw [show List.set (List.replicate 1 (0 : Int)) 0 a = [a] from rfl, L99]
 by_cases hc : (chkP s).2.2.1 = 0
 ·have hs := (chkP_ok s).1 hc
  have h5 := hs.n5
  rw [L85 s.2.2.1.length (by omega) [a] (by simp)]
  simp only [Option.bind_some]
  rw [show (List.set (List.set (List.replicate 2 ((false, 0, ()) : Ak)) 0 (!List.any [a] (outP s.2.2.1.length), 4, ())) 1 (!outP 31 day, 7, ())) = askD s a day from rfl, L84 s (askD s a day) (by simp [askD]) (ne2 four_ne seven_ne)]
  simp only [Option.bind_some]
  unfold hiddenP
  by_cases he : errP s (askD s a day) = 0
  ·obtain ⟨_, ⟨a0, a1⟩, ⟨d0, d1⟩, _⟩ := askD_ok he
   rw [if_pos he, if_pos he, he]
   simp only [bne_self_eq_false, cond_false]
   obtain ⟨n, rfl⟩ := Int.eq_ofNat_of_zero_le a0
   obtain ⟨r', l', _, h⟩ := run_33 s 0 n day hs (by omega) (fun q t => (cntW q (farP (placeP (s.2.2.1.getD n sn0) t.1 day) 90), true)) (fun hr _ h => fin33 hs (by omega) (by omega) d0 d1 hr h) (((0 : Nat) : Int), ((0 : Nat) : Int))
   have hl := truths_len hs (Nat.testBit 0)
   rw [fold_all, cnt_fold (fun t : List Int × List Int => farP (placeP (s.2.2.1.getD n sn0) t.1 day) 90) _ 0 0 (Nat.le_refl _) (by omega), Nat.zero_add, Nat.zero_add] at h
   refine Ev.all fun _ => ?_
   refine (congrArg (fun o => Option.bind o _) (gsub_eq h)).trans ?_
   exact settle_eq _ _ rfl
  ·rw [if_neg he, if_neg he, nbqf he]
   exact Ev.all fun _ => rfl
 ·obtain ⟨x, hx⟩ := L85_g (s.2.2.1.length : Int) [a] (by simp)
  rw [hx]
  simp only [Option.bind_some]
  rw [show (List.set (List.set (List.replicate 2 ((false, 0, ()) : Ak)) 0 (x, 4, ())) 1 (!outP 31 day, 7, ())) = [(x, 4, ()), (!outP 31 day, 7, ())] from rfl, L84 s _ (by simp) (ne2 four_ne seven_ne), errP_bad hc]
  simp only [Option.bind_some]
  unfold hiddenP
  rw [errP_bad hc, if_neg hc, if_neg hc, nbqf hc]
  exact Ev.all fun _ => rfl
end Go.Proofs.Ytkhhbpocmmmnmaa
/- 'Fewest' and 'Wrong'. Conditions: as each lemma states. -/
namespace Go.Proofs.Ytkhhbpocmmmnmaa
open Go Go.Gh Go.Proofs
def bfr (n : Nat) (g b : List Int) : Bool := decide (manyP n g < manyP n b) || (manyP n g == manyP n b && decide (Few.cmpL g b < 0))
def bestL (n : Nat) : List (List Int) → List Int
 | [] => List.replicate 5 0
 | g :: l => l.foldl (fun b g => if bfr n g b = true then g else b) g
theorem ltc (a c : Nat) : decide ((a : Int) < (c : Int)) = decide (a < c) := by
 rw [Bool.eq_iff_iff, decide_eq_true_eq, decide_eq_true_eq]; omega
theorem gtc (a c : Nat) : decide ((a : Int) > (c : Int)) = decide (a > c) := by
 rw [Bool.eq_iff_iff, decide_eq_true_eq, decide_eq_true_eq]; omega
theorem eqc (a c : Nat) : ((a : Int) == (c : Int)) = (a == c) := by
 rw [Bool.eq_iff_iff, beq_iff_eq, beq_iff_eq]; omega
theorem betW_eq (n : Nat) {b : List Int} (hb : b.length = 5) (g : List Int) : betW n (b, (manyP n b : Int)) g = ((if bfr n g b = true then g else b), (manyP n (if bfr n g b = true then g else b) : Int)) := by
 unfold betW bfr
 simp only [ltc, eqc]
 rw [List.take_of_length_le (show b.length ≤ 5 by omega)]
 split <;> rfl
theorem bet_fold (n : Nat) : ∀ (l : List (List Int)) (b : List Int), b.length = 5 → (∀ g ∈ l, g.length = 5) →
  l.foldl (betW n) (b, (manyP n b : Int)) = (l.foldl (fun b g => if bfr n g b = true then g else b) b, (manyP n (l.foldl (fun b g => if bfr n g b = true then g else b) b) : Int))
 | [], _, _, _ => rfl
 | g :: l, b, hb, hl => by
  rw [List.foldl_cons, List.foldl_cons, betW_eq n hb]
  refine bet_fold n l _ ?_ (fun g hg => hl g (by simp [hg]))
  split
  ·exact hl g (by simp)
  ·exact hb
theorem best_fold (n : Nat) {l : List (List Int)} (hl : ∀ g ∈ l, g.length = 5) : (l.foldl (betW n) (List.replicate 5 0, (n : Int) + 1)).1 = bestL n l := by
 cases l with
 | nil => rfl
 | cons g l =>
  have hm := manyP_le n g
  have e : betW n (List.replicate 5 0, (n : Int) + 1) g = (g, (manyP n g : Int)) := by
   unfold betW
   rw [dec_t (show (manyP n g : Int) < (n : Int) + 1 by omega)]
   rfl
  rw [List.foldl_cons, e, bet_fold n l g (hl g (by simp)) (fun x hx => hl x (by simp [hx]))]
  rfl
theorem gExt_five (ok : List Int → Nat → Nat → Bool) : ∀ (c : Nat) (p : List Int), p.length + c ≤ 5 → ∀ g ∈ gExt ok c p, g.length = 5
 | 0, p, h, g, hg => by
  rw [gExt, List.mem_singleton] at hg
  subst hg
  unfold pad
  simp only [List.length_append, List.length_replicate]
  omega
 | c + 1, p, h, g, hg => by
  rw [gExt, List.mem_flatMap] at hg
  obtain ⟨k, _, hg⟩ := hg
  split at hg
  ·exact gExt_five ok c _ (by simp; omega) g hg
  ·cases hg
theorem truths_five {s : Su} (hs : VS s) {but : Nat → Bool} {t : List Int × List Int} (h : t ∈ truthsP s but) : t.2.length = 5 := by
 have h5 := hs.n5
 unfold truthsP at h
 rw [List.mem_flatMap] at h
 obtain ⟨r, _, h⟩ := h
 rw [List.mem_map] at h
 obtain ⟨g, hg, rfl⟩ := h
 exact gExt_five _ _ _ (by simpa using h5) g (List.mem_filter.1 hg).1
theorem best_mem (n : Nat) : ∀ (l : List (List Int)) (b : List Int), l.foldl (fun b g => if bfr n g b = true then g else b) b ∈ b :: l
 | [], b => by simp
 | g :: l, b => by
  rw [List.foldl_cons]
  have := best_mem n l (if bfr n g b = true then g else b)
  rw [List.mem_cons] at this
  rcases this with h | h
  ·rw [h]
   split <;> simp
  ·simp [h]
theorem bestL_mem (n : Nat) {l : List (List Int)} (h : l ≠ []) : bestL n l ∈ l := by
 cases l with
 | nil => exact absurd rfl h
 | cons g l => exact best_mem n l g
theorem bestL_five {n : Nat} {l : List (List Int)} (hl : ∀ g ∈ l, g.length = 5) : (bestL n l).length = 5 := by
 by_cases h : l = []
 ·subst h; rfl
 ·exact hl _ (bestL_mem n h)
def fewestP (s : Su) : List Int × Int × Unit := if errP s [] = 0 then ((bestL s.2.2.1.length ((trP s).map (·.2))).take s.2.2.1.length, 0, ()) else ([], errP s [], ())
theorem copy_five {b : List Int} (hb : b.length = 5) {n : Nat} (hn : n ≤ 5) : List.take 0 (List.replicate n (0 : Int)) ++ List.take (min (List.take 5 (List.drop 0 b)).length (List.replicate n (0 : Int)).length) (List.take 5 (List.drop 0 b)) ++ List.drop (0 + min (List.take 5 (List.drop 0 b)).length (List.replicate n (0 : Int)).length) (List.replicate n (0 : Int)) = b.take n := by
 rw [List.drop_zero, List.take_of_length_le (show b.length ≤ 5 by omega), List.length_replicate, hb, Nat.min_eq_right hn, Nat.zero_add, List.drop_eq_nil_of_le (by simp), List.take_zero, List.nil_append, List.append_nil]
theorem L28 (s : Su) : F28 ((s, ()) : Su × Unit) = some (fewestP s) := by
 refine ghost_eq (Ev.eq (fun _ => E28 _ _) ?_)
 rw [L84 s [] (by simp) ne0]
 simp only [Option.bind_some]
 unfold fewestP
 by_cases he : errP s [] = 0
 ·obtain ⟨hs, _, _⟩ := errP_ok ne0 he
  have h5 := hs.n5
  rw [if_pos he, if_pos he, he]
  simp only [bne_self_eq_false, cond_false]
  obtain ⟨r', l', _, h⟩ := run_28 s 0 hs (by omega) (fun c t => (betW s.2.2.1.length c t.2, true)) (fun _ hg h => fin28 hs (by omega) hg h) (List.replicate 5 0, (s.2.2.1.length : Int) + 1)
  have hbest : ((truthsP s (Nat.testBit 0)).foldl (fun c t => betW s.2.2.1.length c t.2) (List.replicate 5 0, (s.2.2.1.length : Int) + 1)).1 = bestL s.2.2.1.length ((trP s).map (·.2)) := by
   rw [← best_fold s.2.2.1.length (l := (trP s).map (·.2)) (fun g hg => by
    obtain ⟨t, ht, rfl⟩ := List.mem_map.1 hg
    exact truths_five hs ht), List.foldl_map]
   rfl
  rw [fold_all] at h
  have hb5 : (bestL s.2.2.1.length ((trP s).map (·.2))).length = 5 := bestL_five fun g hg => by
   obtain ⟨t, ht, rfl⟩ := List.mem_map.1 hg
   exact truths_five hs ht
  generalize hq : (truthsP s (Nat.testBit 0)).foldl (fun c t => betW s.2.2.1.length c t.2) (List.replicate 5 0, (s.2.2.1.length : Int) + 1) = q at h hbest
  rw [← hbest] at hb5 ⊢
  refine Ev.all fun _ => ?_
  rw [wrap_id (x := (s.2.2.1.length : Int) + 1) (by omega) (by omega)]
  refine (congrArg (fun o => Option.bind o _) (gsub_eq h)).trans ?_
  show (bif decide (0 ≤ (s.2.2.1.length : Int)) && decide ((s.2.2.1.length : Int) ≤ 2147483648) && decide True then some (List.take 0 (List.replicate (Int.toNat (s.2.2.1.length : Int)) (0 : Int)) ++ List.take (min (List.take 5 (List.drop 0 q.1)).length (List.replicate (Int.toNat (s.2.2.1.length : Int)) (0 : Int)).length) (List.take 5 (List.drop 0 q.1)) ++ List.drop (0 + min (List.take 5 (List.drop 0 q.1)).length (List.replicate (Int.toNat (s.2.2.1.length : Int)) (0 : Int)).length) (List.replicate (Int.toNat (s.2.2.1.length : Int)) (0 : Int)), 0, ()) else none : Option (denL [(.slice (.int .i64)), (.int .i64)])) = _
  rw [dec_t (show 0 ≤ (s.2.2.1.length : Int) by omega), dec_t (show (s.2.2.1.length : Int) ≤ 2147483648 by omega), decide_true, Int.toNat_natCast, copy_five hb5 h5]
  rfl
 ·rw [if_neg he, if_neg he, nbqf he]
  exact Ev.all fun _ => by first | rfl | trivial
theorem bits_nums (k : Nat) (p : Nat → Bool) (i : Nat) : (Few.bitsL (numsL p k)).testBit i = (decide (i < k) && p i) := by
 have h0 : ∀ x ∈ numsL p k, 0 ≤ x := fun x hx => by
  obtain ⟨n, _, _, rfl⟩ := numsL_mem.1 hx
  omega
 rw [Bool.eq_iff_iff, Few.bitsL_bit h0, numsL_mem, Bool.and_eq_true, decide_eq_true_eq]
 constructor
 ·rintro ⟨n, h1, h2, h3⟩
  have : n = i := by omega
  exact this ▸ ⟨h1, h2⟩
 ·rintro ⟨h1, h2⟩
  exact ⟨i, h1, h2, rfl⟩
theorem bits_set {set k : Nat} (h : set < 2 ^ k) : Few.bitsL (numsL (set.testBit ·) k) = set := by
 apply Nat.eq_of_testBit_eq
 intro i
 rw [bits_nums]
 by_cases hi : i < k
 ·rw [dec_t hi, Bool.true_and]
 ·rw [dec_f hi, Bool.false_and, Nat.testBit_lt_two_pow (Nat.lt_of_lt_of_le h (Nat.pow_le_pow_right (by decide) (by omega)))]
def okW (s : Su) (l : List Int) : Bool := decide (truthsP s (Few.bitsL l).testBit ≠ [])
def setsL (k i c : Nat) : List (List Int) := (List.range' i c).map fun set => numsL (set.testBit ·) k
def wrongP (s : Su) : List Int × Int × Unit := if (chkP s).2.2.1 = 0 then (if (Few.scan (okW s) (setsL s.2.2.2.1.length 0 (2 ^ s.2.2.2.1.length)) [] false).2 = true then ((Few.scan (okW s) (setsL s.2.2.2.1.length 0 (2 ^ s.2.2.2.1.length)) [] false).1, 0, ()) else ([], 8, ())) else ([], (chkP s).2.2.1, ())
theorem fe35_1 (s : Su) (hs : VS s) (set : Nat) (hset : set < 2 ^ s.2.2.2.1.length) (best : List Int) (found : Bool) {y : denL [(.slice (.int .i64)), (.int .i64)]}
  (h : Ev fun k => (bif found then
    bif decide (((numsL (set.testBit ·) s.2.2.2.1.length).length : Int) > (best.length : Int)) then T35_0 found ((2 ^ s.2.2.2.1.length : Nat) : Int) ((set + 1 : Nat) : Int) s best k
    else bif ((numsL (set.testBit ·) s.2.2.2.1.length).length : Int) == (best.length : Int) then
     bif decide (Few.cmpL (numsL (set.testBit ·) s.2.2.2.1.length) best > 0) then T35_0 found ((2 ^ s.2.2.2.1.length : Nat) : Int) ((set + 1 : Nat) : Int) s best k
     else (bif okW s (numsL (set.testBit ·) s.2.2.2.1.length) then T35_0 true ((2 ^ s.2.2.2.1.length : Nat) : Int) ((set + 1 : Nat) : Int) s (numsL (set.testBit ·) s.2.2.2.1.length) k else T35_0 found ((2 ^ s.2.2.2.1.length : Nat) : Int) ((set + 1 : Nat) : Int) s best k)
    else (bif okW s (numsL (set.testBit ·) s.2.2.2.1.length) then T35_0 true ((2 ^ s.2.2.2.1.length : Nat) : Int) ((set + 1 : Nat) : Int) s (numsL (set.testBit ·) s.2.2.2.1.length) k else T35_0 found ((2 ^ s.2.2.2.1.length : Nat) : Int) ((set + 1 : Nat) : Int) s best k)
   else (bif okW s (numsL (set.testBit ·) s.2.2.2.1.length) then T35_0 true ((2 ^ s.2.2.2.1.length : Nat) : Int) ((set + 1 : Nat) : Int) s (numsL (set.testBit ·) s.2.2.2.1.length) k else T35_0 found ((2 ^ s.2.2.2.1.length : Nat) : Int) ((set + 1 : Nat) : Int) s best k) : Option (denL [(.slice (.int .i64)), (.int .i64)])) = some y) :
  ∀ (c i : Nat), i + c = s.2.2.2.1.length → Ev fun k => T35_1 found set ((2 ^ s.2.2.2.1.length : Nat) : Int) set s.2.2.2.1.length i s best (numsL (set.testBit ·) i) k = some y := by
 have h3 := hs.t3
 have h8 : 2 ^ s.2.2.2.1.length ≤ 8 := Nat.pow_le_pow_right (n := 2) (by decide) h3
 intro c
 induction c with
 | zero =>
  intro i hi
  obtain rfl : i = s.2.2.2.1.length := by omega
  refine R35_1 _ _ _ _ _ _ _ _ _ ?_
  rw [dec_f (by omega), wrap_succ (n := set) (by omega), L98 _ _ (by have := numsL_len (set.testBit ·) s.2.2.2.1.length; omega), L105]
  simp only [cond_false, Option.bind_some]
  rw [L106 hs (by omega)]
  simp only [Option.bind_some]
  unfold okW at h
  rw [bits_set hset] at h
  exact h
 | succ c ih =>
  intro i hi
  have hlen := numsL_len (set.testBit ·) i
  have ih := ih (i + 1) (by omega)
  refine R35_1 _ _ _ _ _ _ _ _ _ ?_
  rw [dec_t (show (i : Int) < (s.2.2.2.1.length : Int) by omega), dec_f (show ¬ (i : Int) < 0 by omega), wrap_succ (n := i) (by omega), Int.toNat_natCast, bit_ok set i (by omega) (by omega), show List.set (List.replicate 1 (0 : Int)) 0 (i : Int) = [(i : Int)] from rfl, dec_t (show (numsL (set.testBit ·) i).length + [(i : Int)].length ≤ 2147483648 by simp; omega)]
  simp only [cond_true, cond_false]
  rw [numsL_succ] at ih
  cases hb : set.testBit i with
  | true => rw [hb, if_pos rfl] at ih; exact ih
  | false => rw [hb, if_neg (by decide)] at ih; exact ih
theorem fe35 (s : Su) (hs : VS s) : ∀ (c i : Nat) (best : List Int) (found : Bool), i + c = 2 ^ s.2.2.2.1.length →
  Ev fun k => T35_0 found ((2 ^ s.2.2.2.1.length : Nat) : Int) i s best k = some (if (Few.scan (okW s) (setsL s.2.2.2.1.length i c) best found).2 = true then ((Few.scan (okW s) (setsL s.2.2.2.1.length i c) best found).1, 0, ()) else ([], 8, ())) := by
 have h3 := hs.t3
 intro c
 induction c with
 | zero =>
  intro i best found hi
  refine R35_0 _ _ _ _ _ ?_
  rw [dec_f (show ¬ ((i : Int) < ((2 ^ s.2.2.2.1.length : Nat) : Int)) by omega)]
  cases found with
  | true => exact Ev.all fun _ => rfl
  | false => exact Ev.all fun _ => rfl
 | succ c ih =>
  intro i best found hi
  refine R35_0 _ _ _ _ _ ?_
  have i2 := ih (i + 1) (numsL (i.testBit ·) s.2.2.2.1.length) true (by omega)
  have i3 := ih (i + 1) best found (by omega)
  have hcons : setsL s.2.2.2.1.length i (c + 1) = numsL (i.testBit ·) s.2.2.2.1.length :: setsL s.2.2.2.1.length (i + 1) c := by
   unfold setsL
   rw [List.range'_succ, List.map_cons]
  rw [dec_t (show (i : Int) < ((2 ^ s.2.2.2.1.length : Nat) : Int) by omega), hcons]
  simp only [cond_true]
  refine fe35_1 s hs i (by omega) best found ?_ s.2.2.2.1.length 0 (by omega)
  rw [gtc, eqc, Few.scan, show Few.worse (numsL (i.testBit ·) s.2.2.2.1.length) best = (decide ((numsL (i.testBit ·) s.2.2.2.1.length).length > best.length) || ((numsL (i.testBit ·) s.2.2.2.1.length).length == best.length && decide (Few.cmpL (numsL (i.testBit ·) s.2.2.2.1.length) best > 0))) from rfl]
  generalize numsL (i.testBit ·) s.2.2.2.1.length = L at i2 ⊢
  have tail : Ev fun k => ((bif okW s L then T35_0 true ((2 ^ s.2.2.2.1.length : Nat) : Int) ((i + 1 : Nat) : Int) s L k else T35_0 found ((2 ^ s.2.2.2.1.length : Nat) : Int) ((i + 1 : Nat) : Int) s best k : Option (denL [(.slice (.int .i64)), (.int .i64)])) = some (if (if okW s L = true then Few.scan (okW s) (setsL s.2.2.2.1.length (i + 1) c) L true else Few.scan (okW s) (setsL s.2.2.2.1.length (i + 1) c) best found).2 = true then ((if okW s L = true then Few.scan (okW s) (setsL s.2.2.2.1.length (i + 1) c) L true else Few.scan (okW s) (setsL s.2.2.2.1.length (i + 1) c) best found).1, 0, ()) else ([], 8, ()))) := by
   cases okW s L with
   | true => exact i2
   | false => exact i3
  cases found with
  | false => exact tail
  | true =>
   cases decide (L.length > best.length) with
   | true => exact i3
   | false =>
    cases L.length == best.length with
    | false => exact tail
    | true =>
     cases decide (Few.cmpL L best > 0) with
     | true => exact i3
     | false => exact tail
theorem L35 (s : Su) : F35 ((s, ()) : Su × Unit) = some (wrongP s) := by
 refine N35 _ ?_
 rw [L19]
 simp only [Option.bind_some]
 by_cases hc : (chkP s).2.2.1 = 0
 ·have hs := (chkP_ok s).1 hc
  have h3 := hs.t3
  have hv : wrongP s = if (Few.scan (okW s) (setsL s.2.2.2.1.length 0 (2 ^ s.2.2.2.1.length)) [] false).2 = true then ((Few.scan (okW s) (setsL s.2.2.2.1.length 0 (2 ^ s.2.2.2.1.length)) [] false).1, 0, ()) else ([], 8, ()) := if_pos hc
  rw [hv, nbq hc, Int.toNat_natCast, shl_nat _ (by omega)]
  exact fe35 s hs (2 ^ s.2.2.2.1.length) 0 [] false (by omega)
 ·have hv : wrongP s = ([], (chkP s).2.2.1, ()) := if_neg hc
  rw [hv, nbqf hc]
  exact Ev.all fun _ => by first | rfl | trivial
end Go.Proofs.Ytkhhbpocmmmnmaa
