/- The reference's parts. Conditions: as each lemma states. -/
import Derived.Test.YtkhhbpocmmmnmaaTuN
import Derived.Test.YtkhhbpocmmmnmaaTuE
namespace Go.Proofs.Ytkhhbpocmmmnmaa
open Go Go.Gh Go.Proofs
open Go.Few
theorem L55 (x lo hi : Int) : F55 ((x, lo, hi, ()) : Int × Int × Int × Unit) = some (!notIn lo hi x, ()) := by
 refine N55 _ _ _ ?_
 unfold notIn
 by_cases h : lo ≤ x
 ·rw [dec_t h, dec_f (show ¬ x < lo by omega)]
  by_cases h2 : x ≤ hi
  ·rw [dec_t h2, dec_f (show ¬ x > hi by omega)]; exact Ev.all fun _ => by first | rfl | trivial
  ·rw [dec_f h2, dec_t (show x > hi by omega)]; exact Ev.all fun _ => by first | rfl | trivial
 ·rw [dec_f h, dec_t (show x < lo by omega)]; exact Ev.all fun _ => by first | rfl | trivial
def endsP (x : Sp) : Int := if (notIn 0 16 x.1 || notIn 0 16 x.2.1) = true then 7 else if x.1 > x.2.1 then 2 else 0
theorem L83 (x : Sp) : F83 ((x, 0, 16, ()) : Sp × Int × Int × Unit) = some (endsP x, ()) := by
 refine N83 _ _ _ ?_
 rw [L55, L55]
 simp only [Option.bind_some]
 unfold endsP
 cases notIn 0 16 x.1 with
 | true => exact Ev.all fun _ => by first | rfl | trivial
 | false =>
  cases notIn 0 16 x.2.1 with
  | true => exact Ev.all fun _ => by first | rfl | trivial
  | false =>
   by_cases h : x.1 > x.2.1
   ·rw [dec_t h, if_pos h]; exact Ev.all fun _ => by first | rfl | trivial
   ·rw [dec_f h, if_neg h]; exact Ev.all fun _ => by first | rfl | trivial
theorem L20_2 (s : Su) (h5 : s.2.2.1.length ≤ 5) (h3 : s.2.2.2.1.length ≤ 3) : ∀ (c i : Nat), i + c = s.2.2.2.1.length → Ev fun k => T20_2 i s k = some (match firstE (tErr s.2.2.1.length) (s.2.2.2.1.drop i) i with
  | some (i, e) => (4, (i : Int), e, ())
  | none => (0, 0, 0, ())) := by
 intro c
 induction c with
 | zero =>
  intro i hi
  refine R20_2 _ _ ?_
  rw [dec_f (by omega), List.drop_eq_nil_of_le (by omega)]
  exact Ev.all fun _ => by first | rfl | trivial
 | succ c ih =>
  intro i hi
  have hlt : i < s.2.2.2.1.length := by omega
  refine R20_2 _ _ ?_
  have ih := ih (i + 1) (by omega)
  rw [dec_t (show (i : Int) < (s.2.2.2.1.length : Int) by omega), dec_t (show (0 : Int) ≤ (i : Int) by omega), wrap_succ (n := i) (by omega), Int.toNat_natCast, getD_lt hlt, wrap_below (n := s.2.2.1.length) (by omega), List.drop_eq_getElem_cons hlt, L55, L55]
  simp only [Bool.and_self, cond_true, Option.bind_some, Bool.not_not]
  generalize s.2.2.2.1[i] = x
  rw [← outP_eq, ← outP_eq]
  cases c1 : outP s.2.2.1.length x.1 with
  | true =>
   have hf : tErr s.2.2.1.length x = 4 := by unfold tErr; rw [c1, Bool.true_or, if_pos rfl]
   rw [firstE_stop hf (by decide)]
   exact Ev.all fun _ => by first | rfl | trivial
  | false =>
   cases c2 : outP s.2.2.1.length x.2.1 with
   | true =>
    have hf : tErr s.2.2.1.length x = 4 := by unfold tErr; rw [c2, Bool.or_true, if_pos rfl]
    rw [firstE_stop hf (by decide)]
    exact Ev.all fun _ => by first | rfl | trivial
   | false =>
    by_cases he : x.1 = x.2.1
    ·have hf : tErr s.2.2.1.length x = 2 := by unfold tErr; rw [c1, c2, if_neg (by simp), if_pos he]
     rw [bq he, firstE_stop hf (by decide)]
     exact Ev.all fun _ => by first | rfl | trivial
    ·have hf : tErr s.2.2.1.length x = 0 := by unfold tErr; rw [c1, c2, if_neg (by simp), if_neg he]
     rw [bqf he, firstE_pass hf]
     exact ih
theorem L20_1 (s : Su) (h1 : s.1.length ≤ 3) (h5 : s.2.2.1.length ≤ 5) : ∀ (c i : Nat), i + c = s.2.2.1.length → Ev fun k => T20_1 i s k = some (match firstE (sErr s.1.length) (s.2.2.1.drop i) i with
  | some (i, e) => (3, (i : Int), e, ())
  | none => chkT s) := by
 intro c
 induction c with
 | zero =>
  intro i hi
  refine R20_1 _ _ ?_
  rw [dec_f (by omega), List.drop_eq_nil_of_le (by omega)]
  simp only [cond_false, firstE]
  unfold chkT
  by_cases h : s.2.2.2.1.length > 3
  ·rw [if_pos h, dec_t (show (s.2.2.2.1.length : Int) > 3 by omega)]
   exact Ev.all fun _ => by first | rfl | trivial
  ·rw [if_neg h, dec_f (show ¬ (s.2.2.2.1.length : Int) > 3 by omega)]
   have := L20_2 s h5 (by omega) s.2.2.2.1.length 0 (by omega)
   rw [List.drop_zero] at this
   exact this
 | succ c ih =>
  intro i hi
  have hlt : i < s.2.2.1.length := by omega
  refine R20_1 _ _ ?_
  have ih := ih (i + 1) (by omega)
  rw [dec_t (show (i : Int) < (s.2.2.1.length : Int) by omega), dec_t (show (0 : Int) ≤ (i : Int) by omega), wrap_succ (n := i) (by omega), Int.toNat_natCast, getD_lt hlt, wrap_below (n := s.1.length) (by omega), List.drop_eq_getElem_cons hlt, L55, L55, L55]
  simp only [Bool.and_self, cond_true, Option.bind_some, Bool.not_not]
  generalize s.2.2.1[i] = x
  rw [← outP_eq]
  cases c1 : notIn 0 30 x.1 with
  | true =>
   have hf : sErr s.1.length x = 7 := by unfold sErr; rw [if_pos c1]
   rw [firstE_stop hf (by decide)]
   exact Ev.all fun _ => by first | rfl | trivial
  | false =>
   cases c2 : notIn (-90) 90 x.2.2.1 with
   | true =>
    have hf : sErr s.1.length x = 7 := by unfold sErr; rw [if_neg (by rw [c1]; decide), if_pos c2]
    rw [firstE_stop hf (by decide)]
    exact Ev.all fun _ => by first | rfl | trivial
   | false =>
    cases c3 : outP s.1.length x.2.1 with
    | true =>
     have hf : sErr s.1.length x = 4 := by unfold sErr; rw [if_neg (by rw [c1]; decide), if_neg (by rw [c2]; decide), if_pos c3]
     rw [firstE_stop hf (by decide)]
     exact Ev.all fun _ => by first | rfl | trivial
    | false =>
     have hf : sErr s.1.length x = 0 := by unfold sErr; rw [if_neg (by rw [c1]; decide), if_neg (by rw [c2]; decide), if_neg (by rw [c3]; decide)]
     rw [firstE_pass hf]
     exact ih
theorem bErr_ends (x : Sp) : bErr x = if endsP x = 0 then (if x.2.1 > x.1 + 3 then 2 else 0) else endsP x := by
 unfold bErr endsP
 cases h : (notIn 0 16 x.1 || notIn 0 16 x.2.1) with
 | true => rfl
 | false =>
  simp only [Bool.false_eq_true, if_false]
  by_cases h1 : x.1 > x.2.1
  ·rw [if_pos h1, show notIn 0 3 (x.2.1 - x.1) = true from notIn_t.2 (by omega)]; rfl
  ·rw [if_neg h1, if_pos rfl]
   by_cases h2 : x.2.1 > x.1 + 3
   ·rw [if_pos h2, show notIn 0 3 (x.2.1 - x.1) = true from notIn_t.2 (by omega)]; rfl
   ·rw [if_neg h2, show notIn 0 3 (x.2.1 - x.1) = false from notIn_f.2 (by omega)]; rfl
theorem endsP_bd {x : Sp} (h : endsP x = 0) : 0 ≤ x.1 ∧ x.1 ≤ 16 := by
 unfold endsP at h
 cases h2 : (notIn 0 16 x.1 || notIn 0 16 x.2.1) with
 | true => rw [h2, if_pos rfl] at h; exact absurd h (by decide)
 | false =>
  rw [Bool.or_eq_false_iff, notIn_f] at h2
  exact h2.1
theorem L20 (s : Su) : F20 ((s, ()) : Su × Unit) = some (chkP s) := by
 refine N20 _ ?_
 rw [L55]
 simp only [Option.bind_some, Bool.not_not]
 unfold chkP
 by_cases hl : s.1.length < 1 ∨ s.1.length > 3
 ·rw [if_pos hl, show notIn 1 3 (s.1.length : Int) = true from notIn_t.2 (by omega)]
  exact Ev.all fun _ => by first | rfl | trivial
 ·rw [if_neg hl, show notIn 1 3 (s.1.length : Int) = false from notIn_f.2 (by omega)]
  simp only [cond_false]
  have key : ∀ (c i : Nat), i + c = s.1.length → Ev fun k => T20_0 i s k = some (match firstE bErr (s.1.drop i) i with
    | some (i, e) => (1, (i : Int), e, ())
    | none => chkO s) := by
   intro c
   induction c with
   | zero =>
    intro i hi
    refine R20_0 _ _ ?_
    rw [dec_f (by omega), List.drop_eq_nil_of_le (by omega)]
    simp only [cond_false, firstE]
    rw [L55]
    simp only [Option.bind_some, Bool.not_not]
    unfold chkO chkS
    cases notIn 0 9 s.2.1 with
    | true => exact Ev.all fun _ => by first | rfl | trivial
    | false =>
     simp only [cond_false, Bool.false_eq_true, if_false]
     by_cases h : s.2.2.1.length > 5
     ·rw [if_pos h, dec_t (show (s.2.2.1.length : Int) > 5 by omega)]
      exact Ev.all fun _ => by first | rfl | trivial
     ·rw [if_neg h, dec_f (show ¬ (s.2.2.1.length : Int) > 5 by omega)]
      have := L20_1 s (by omega) (by omega) s.2.2.1.length 0 (by omega)
      rw [List.drop_zero] at this
      exact this
   | succ c ih =>
    intro i hi
    have hlt : i < s.1.length := by omega
    refine R20_0 _ _ ?_
    have ih := ih (i + 1) (by omega)
    rw [dec_t (show (i : Int) < (s.1.length : Int) by omega), dec_t (show (0 : Int) ≤ (i : Int) by omega), wrap_succ (n := i) (by omega), Int.toNat_natCast, getD_lt hlt, List.drop_eq_getElem_cons hlt, L83]
    simp only [Bool.and_self, cond_true, Option.bind_some]
    generalize s.1[i] = x
    by_cases he : endsP x = 0
    ·have hb := endsP_bd he
     rw [bq he, wrap_id (x := x.1 + 3) (by omega) (by omega)]
     by_cases hu : x.2.1 > x.1 + 3
     ·have hf : bErr x = 2 := by rw [bErr_ends, if_pos he, if_pos hu]
      rw [dec_t hu, firstE_stop hf (by decide)]
      exact Ev.all fun _ => by first | rfl | trivial
     ·have hf : bErr x = 0 := by rw [bErr_ends, if_pos he, if_neg hu]
      rw [dec_f hu, nbq he, firstE_pass hf]
      exact ih
    ·have hf : bErr x = endsP x := by rw [bErr_ends, if_neg he]
     rw [bqf he, nbqf he, firstE_stop hf he]
     exact Ev.all fun _ => by first | rfl | trivial
  have := key s.1.length 0 (by omega)
  rw [List.drop_zero] at this
  exact this
theorem mul_bd {q d : Int} (q0 : 0 ≤ q) (q1 : q ≤ 16) (d0 : -1000 ≤ d) (d1 : d ≤ 1000) : -16000 ≤ q * d ∧ q * d ≤ 16000 := by
 have a1 : q * d ≤ 16000 := by
  by_cases h : 0 ≤ d
  ·have := Int.mul_le_mul q1 d1 h (by omega); omega
  ·have := Int.mul_nonneg q0 (show 0 ≤ -d by omega)
   rw [Int.mul_neg] at this; omega
 have a2 : -16000 ≤ q * d := by
  by_cases h : 0 ≤ d
  ·have := Int.mul_nonneg q0 h; omega
  ·have := Int.mul_le_mul q1 (show -d ≤ 1000 by omega) (by omega) (by omega)
   rw [Int.mul_neg] at this; omega
 exact ⟨a2, a1⟩
def RB (r : List Int) : Prop := ∀ v ∈ r, 0 ≤ v ∧ v ≤ 16
theorem RB.at {r : List Int} (h : RB r) (i : Nat) : 0 ≤ r.getD i 0 ∧ r.getD i 0 ≤ 16 := by
 rw [List.getD_eq_getElem?_getD]
 cases hq : r[i]? with
 | none => simp
 | some x => exact h x (List.mem_of_getElem? hq)
theorem L44 (x : Sn) (r : List Int) (day : Int) (hr : RB r) (hx : 0 ≤ x.2.1 ∧ x.2.1 < r.length) (x0 : 0 ≤ x.1 ∧ x.1 ≤ 30) (x1 : -90 ≤ x.2.2.1 ∧ x.2.2.1 ≤ 90) (d : 0 ≤ day ∧ day ≤ 100) : F44 ((x, r, day, ()) : Sn × List Int × Int × Unit) = some (placeP x r day, ()) := by
 refine N44 _ _ _ ?_
 have hq := hr.at x.2.1.toNat
 have hb := mul_bd (d := day - x.1) hq.1 hq.2 (by omega) (by omega)
 unfold placeP
 rw [dec_t hx.1, dec_t hx.2, wrap_id (x := day - x.1) (by omega) (by omega), wrap_id (x := r.getD x.2.1.toNat 0 * (day - x.1)) (by omega) (by omega), wrap_id (by omega) (by omega)]
 exact Ev.all fun _ => by first | rfl | trivial
def turnP (n : Int) : Int := (n + 179) % 360 - 179
theorem turnP_bd (n : Int) : -179 ≤ turnP n ∧ turnP n ≤ 180 := by unfold turnP; omega
theorem turnP_eq (n : Int) : n = turnP n + 360 * ((n + 179) / 360) := by unfold turnP; omega
theorem L109 (n : Int) (h0 : -360000 ≤ n) (h1 : n ≤ 360000) : F109 ((n, ()) : Int × Unit) = some (turnP n, ()) := by
 refine N109 _ ?_
 have up : ∀ (c : Nat) (t : Int), -179 ≤ t + 360 * c → t ≤ 180 → -1000000 ≤ t → turnP t = turnP n → Ev fun k => T109_1 t k = some (turnP n, ()) := by
  intro c
  induction c with
  | zero =>
   intro t a b b2 e
   refine R109_1 _ ?_
   rw [dec_f (show ¬ t < -179 by omega), ← e, show turnP t = t by unfold turnP; omega]
   exact Ev.all fun _ => by first | rfl | trivial
  | succ c ih =>
   intro t a b b2 e
   refine R109_1 _ ?_
   by_cases h : t < -179
   ·rw [dec_t h, wrap_id (x := t + 360) (by omega) (by omega)]
    exact ih (t + 360) (by omega) (by omega) (by omega) (by rw [← e]; unfold turnP; omega)
   ·rw [dec_f h, ← e, show turnP t = t by unfold turnP; omega]
    exact Ev.all fun _ => by first | rfl | trivial
 have down : ∀ (c : Nat) (t : Int), t ≤ 180 + 360 * c → -360000 ≤ t → t ≤ 1000000 → turnP t = turnP n → Ev fun k => T109_0 t k = some (turnP n, ()) := by
  intro c
  induction c with
  | zero =>
   intro t a b b2 e
   refine R109_0 _ ?_
   rw [dec_f (show ¬ t > 180 by omega)]
   exact up 1001 t (by omega) (by omega) (by omega) e
  | succ c ih =>
   intro t a b b2 e
   refine R109_0 _ ?_
   by_cases h : t > 180
   ·rw [dec_t h, wrap_id (x := t - 360) (by omega) (by omega)]
    exact ih (t - 360) (by omega) (by omega) (by omega) (by rw [← e]; unfold turnP; omega)
   ·rw [dec_f h]
    exact up 1001 t (by omega) (by omega) (by omega) e
 exact down 1001 n (by omega) h0 (by omega) rfl
theorem L108 (n m : Int) (m0 : 0 ≤ m) (m1 : m ≤ 100000) : F108 ((n, m, ()) : Int × Int × Unit) = some (!notIn (0 - m) m n, ()) := by
 refine N108 _ _ ?_
 rw [wrap_id (x := 0 - m) (by omega) (by omega), L55]
 exact Ev.all fun _ => by first | rfl | trivial
theorem near_turn {n m : Int} (m0 : 0 ≤ m) (m1 : m ≤ 90) : (!notIn (0 - m) m (turnP n)) = !farP n m := by
 have hb := turnP_bd n
 rw [← near_far (turnP_eq n) hb.1 hb.2 m0 m1]
 unfold notIn
 by_cases h1 : 0 - m ≤ turnP n
 ·rw [dec_t h1, dec_f (show ¬ turnP n < 0 - m by omega)]
  by_cases h2 : turnP n ≤ m
  ·rw [dec_t h2, dec_f (show ¬ turnP n > m by omega)]; rfl
  ·rw [dec_f h2, dec_t (show turnP n > m by omega)]; rfl
 ·rw [dec_f h1, dec_t (show turnP n < 0 - m by omega)]; rfl
theorem placeR_bd {x : Sn} {r : List Int} {day : Int} (hr : RB r) (x0 : 0 ≤ x.1 ∧ x.1 ≤ 30) (x1 : -90 ≤ x.2.2.1 ∧ x.2.2.1 ≤ 90) (d : 0 ≤ day ∧ day ≤ 100) : -17000 ≤ placeP x r day ∧ placeP x r day ≤ 17000 := by
 have hq := hr.at x.2.1.toNat
 have hb := mul_bd (d := day - x.1) hq.1 hq.2 (by omega) (by omega)
 unfold placeP
 omega
theorem L129 {s : Su} (hs : VS s) {r : List Int} (hr : RB r) (hl : r.length = s.1.length) (a b : Nat) (ha : a < s.2.2.1.length) (hb : b < s.2.2.1.length) : F129 ((s, r, (a : Int), (b : Int), ()) : Su × List Int × Int × Int × Unit) = some (canP s r a b, ()) := by
 refine N129 _ _ _ _ ?_
 have hxa := hs.seen a ha
 have hxb := hs.seen b hb
 have hoff := hs.off
 have hp := placeR_bd (x := s.2.2.1.getD a sn0) hr hxa.1 hxa.2.2 (show 0 ≤ (s.2.2.1.getD b sn0).1 ∧ (s.2.2.1.getD b sn0).1 ≤ 100 by omega)
 rw [dec_t (show (0 : Int) ≤ (a : Int) by omega), dec_t (show (a : Int) < (s.2.2.1.length : Int) by omega), dec_t (show (0 : Int) ≤ (b : Int) by omega), dec_t (show (b : Int) < (s.2.2.1.length : Int) by omega), Int.toNat_natCast, Int.toNat_natCast, show s.2.2.1.getD a (0, 0, 0, ()) = s.2.2.1.getD a sn0 from rfl, show s.2.2.1.getD b (0, 0, 0, ()) = s.2.2.1.getD b sn0 from rfl, L44 _ r _ hr (by omega) hxa.1 hxa.2.2 (by omega)]
 simp only [Bool.and_self, cond_true, Option.bind_some]
 rw [wrap_id (x := placeP (s.2.2.1.getD a sn0) r (s.2.2.1.getD b sn0).1 - (s.2.2.1.getD b sn0).2.2.1) (by omega) (by omega), L109 _ (by omega) (by omega)]
 simp only [Option.bind_some]
 rw [L108 _ _ (by omega) (by omega), near_turn (by omega) (by omega), canP_eq]
 simp only [Option.bind_some]
 cases ((s.2.2.1.getD a sn0).2.1 == (s.2.2.1.getD b sn0).2.1) with
 | false => exact Ev.all fun _ => by first | rfl | trivial
 | true =>
  cases ((s.2.2.1.getD a sn0).1 != (s.2.2.1.getD b sn0).1) with
  | false => exact Ev.all fun _ => by first | rfl | trivial
  | true => exact Ev.all fun _ => by first | rfl | trivial
theorem L128 (l : List Int) (x : Int) (hl : l.length < 1000000) : F128 ((l, x, ()) : List Int × Int × Unit) = some (decide (x ∈ l), ()) := by
 refine N128 _ _ ?_
 have key : ∀ (c i : Nat), i + c = l.length → Ev fun k => T128_0 l x i k = some (decide (x ∈ l.drop i), ()) := by
  intro c
  induction c with
  | zero =>
   intro i hi
   refine R128_0 _ _ _ ?_
   rw [dec_f (by omega), List.drop_eq_nil_of_le (by omega)]
   exact Ev.all fun _ => by first | rfl | trivial
  | succ c ih =>
   intro i hi
   have hlt : i < l.length := by omega
   refine R128_0 _ _ _ ?_
   rw [dec_t (show (i : Int) < (l.length : Int) by omega), dec_t (show (0 : Int) ≤ (i : Int) by omega), Int.toNat_natCast, getD_lt hlt, wrap_succ (n := i) (by omega), List.drop_eq_getElem_cons hlt]
   simp only [Bool.and_self, cond_true]
   by_cases he : l[i] = x
   ·rw [bq he, dec_t (by rw [he]; simp)]
    exact Ev.all fun _ => by first | rfl | trivial
   ·have : decide (x ∈ l[i] :: l.drop (i + 1)) = decide (x ∈ l.drop (i + 1)) := by
     rw [Bool.eq_iff_iff, decide_eq_true_eq, decide_eq_true_eq, List.mem_cons]
     exact ⟨fun h => h.resolve_left fun h => he h.symm, .inr⟩
    rw [bqf he, this]
    exact ih (i + 1) (by omega)
 have := key l.length 0 (by omega)
 rw [List.drop_zero] at this
 exact this
def inL (l : List Int) (i : Nat) : Bool := decide ((i : Int) ∈ l)
theorem L112 {s : Su} (hs : VS s) (g but : List Int) (hg : g.length = s.2.2.1.length) (hb : but.length < 1000000) : F112 ((s, g, but, ()) : Su × List Int × List Int × Unit) = some (soP s (inL but) g, ()) := by
 have h5 := hs.n5
 have h3 := hs.t3
 refine N112 _ _ _ ?_
 have key : ∀ (c i : Nat) (is : Bool), i + c = s.2.2.2.1.length → Ev fun k => T112_0 g but is i s k = some (is && (List.range' i c).all (fun i => inL but i || ((g.getD (s.2.2.2.1.getD i tl0).1.toNat 0 == g.getD (s.2.2.2.1.getD i tl0).2.1.toNat 0) == (s.2.2.2.1.getD i tl0).2.2.1)), ()) := by
  intro c
  induction c with
  | zero =>
   intro i is hi
   refine R112_0 _ _ _ _ _ ?_
   rw [dec_f (by omega)]
   simp only [cond_false, List.range'_zero, List.all_nil, Bool.and_true]
   exact Ev.all fun _ => by first | rfl | trivial
  | succ c ih =>
   intro i is hi
   have hlt : i < s.2.2.2.1.length := by omega
   have ht := hs.told i hlt
   refine R112_0 _ _ _ _ _ ?_
   have e : s.2.2.2.1.getD i (0, 0, false, ()) = s.2.2.2.1.getD i tl0 := rfl
   rw [dec_t (show (i : Int) < (s.2.2.2.1.length : Int) by omega), dec_t (show (0 : Int) ≤ (i : Int) by omega), wrap_succ (n := i) (by omega), Int.toNat_natCast, e, L128 _ _ hb, List.range'_succ, List.all_cons]
   simp only [Bool.and_self, cond_true, Option.bind_some]
   generalize s.2.2.2.1.getD i tl0 = x at *
   rw [dec_t (show 0 ≤ x.1 by omega), dec_t (show x.1 < (g.length : Int) by omega), dec_t (show 0 ≤ x.2.1 by omega), dec_t (show x.2.1 < (g.length : Int) by omega)]
   simp only [Bool.and_self, cond_true]
   cases is with
   | false =>
    rw [Bool.false_and]
    have := ih (i + 1) false (by omega)
    rw [Bool.false_and] at this
    exact this
   | true =>
    rw [Bool.true_and]
    unfold inL
    cases hbt : decide ((i : Int) ∈ but) with
    | true =>
     rw [Bool.true_or, Bool.true_and]
     have := ih (i + 1) true (by omega)
     rw [Bool.true_and] at this
     exact this
    | false =>
     rw [Bool.false_or]
     have e2 : eqD Ty.bool (g.getD x.1.toNat 0 == g.getD x.2.1.toNat 0) x.2.2.1 = ((g.getD x.1.toNat 0 == g.getD x.2.1.toNat 0) == x.2.2.1) := by simp only [eqD]
     have := ih (i + 1) ((g.getD x.1.toNat 0 == g.getD x.2.1.toNat 0) == x.2.2.1) (by omega)
     simp only [e2]
     exact this
 have := key s.2.2.2.1.length 0 true (by omega)
 rw [Bool.true_and, ← List.range_eq_range'] at this
 exact this
theorem L113 {s : Su} (hs : VS s) {r g : List Int} (hr : RB r) (hl : r.length = s.1.length) (hg : g.length = s.2.2.1.length) : F113 ((s, r, g, ()) : Su × List Int × List Int × Unit) = some (fitsP (canP s r) g, ()) := by
 have h5 := hs.n5
 refine N113 _ _ _ ?_
 have key : ∀ (c b : Nat), b + c = g.length → Ev fun k => T113_0 r g b s k = some ((List.range' b c).all (fun b => (List.range b).all fun a => g.getD a 0 != g.getD b 0 || canP s r b a), ()) := by
  intro c
  induction c with
  | zero =>
   intro b hb
   refine R113_0 _ _ _ _ ?_
   rw [dec_f (by omega)]
   exact Ev.all fun _ => by first | rfl | trivial
  | succ c ih =>
   intro b hb
   have ih := ih (b + 1) (by omega)
   refine R113_0 _ _ _ _ ?_
   rw [dec_t (show (b : Int) < (g.length : Int) by omega), List.range'_succ, List.all_cons]
   simp only [cond_true]
   have inner : ∀ (d a : Nat), a + d = b → Ev fun k => T113_1 r g b a s k = some ((List.range' a d).all (fun a => g.getD a 0 != g.getD b 0 || canP s r b a) && (List.range' (b + 1) c).all (fun b => (List.range b).all fun a => g.getD a 0 != g.getD b 0 || canP s r b a), ()) := by
    intro d
    induction d with
    | zero =>
     intro a ha
     refine R113_1 _ _ _ _ _ ?_
     rw [dec_f (by omega), wrap_succ (n := b) (by omega)]
     simp only [cond_false, List.range'_zero, List.all_nil, Bool.true_and]
     exact ih
    | succ d ihd =>
     intro a ha
     have ihd := ihd (a + 1) (by omega)
     refine R113_1 _ _ _ _ _ ?_
     rw [dec_t (show (a : Int) < (b : Int) by omega), dec_t (show (0 : Int) ≤ (a : Int) by omega), dec_t (show (a : Int) < (g.length : Int) by omega), dec_t (show (0 : Int) ≤ (b : Int) by omega), dec_t (show (b : Int) < (g.length : Int) by omega), Int.toNat_natCast, Int.toNat_natCast, wrap_succ (n := a) (by omega), L129 hs hr hl a b (by omega) (by omega), canP_sym s r a b, List.range'_succ, List.all_cons]
     simp only [Bool.and_self, cond_true, Option.bind_some]
     by_cases he : g.getD a 0 = g.getD b 0
     ·rw [bq he, nbq he, Bool.false_or]
      cases canP s r b a with
      | false => exact Ev.all fun _ => by first | rfl | trivial
      | true => rw [Bool.true_and]; exact ihd
     ·rw [bqf he, nbqf he, Bool.true_or, Bool.true_and]
      exact ihd
   have := inner b 0 (by omega)
   rw [← List.range_eq_range'] at this
   exact this
 have := key g.length 0 (by omega)
 rw [← List.range_eq_range'] at this
 exact this
end Go.Proofs.Ytkhhbpocmmmnmaa
/- The reference's lists: rates, ways to part, truths. Conditions: as each lemma states. -/
namespace Go.Proofs.Ytkhhbpocmmmnmaa
open Go Go.Gh Go.Proofs
open Go.Few
def rNext (s : Su) (i : Nat) (p : List Int) : List (List Int) := ((upto (s.1.getD i sp0).1 ((s.1.getD i sp0).2.1 + 1)).filter fun v => i == 0 || decide (v ≤ p.getD (i - 1) 0)).map fun v => p ++ [v]
theorem rLev_succ (s : Su) (i : Nat) : rLev s (i + 1) = (rLev s i).flatMap (rNext s i) := rfl
theorem rLev_rb {s : Su} (hs : VS s) : ∀ (i : Nat), i ≤ s.1.length → ∀ p ∈ rLev s i, RB p
 | 0, _, p, h => by
  rw [rLev, List.mem_singleton] at h
  subst h
  intro v hv; cases hv
 | i + 1, hi, p, h => by
  rw [rLev_succ, List.mem_flatMap] at h
  obtain ⟨q, hq, h⟩ := h
  unfold rNext at h
  rw [List.mem_map] at h
  obtain ⟨v, hv, rfl⟩ := h
  have hv := mem_upto.1 (List.mem_filter.1 hv).1
  have hb := hs.belts i (by omega)
  intro w hw
  rw [List.mem_append, List.mem_singleton] at hw
  rcases hw with hw | rfl
  ·exact rLev_rb hs i (by omega) q hq w hw
  ·omega
theorem rLev_cap {s : Su} (hs : VS s) : ∀ (i : Nat), i ≤ s.1.length → (rLev s i).length ≤ 17 ^ i
 | 0, _ => by simp [rLev]
 | i + 1, hi => by
  have hb := hs.belts i (by omega)
  rw [rLev_succ]
  refine Nat.le_trans (flat_len _ 17 _ fun p _ => ?_) ?_
  ·unfold rNext
   rw [List.length_map]
   refine Nat.le_trans (List.length_filter_le _ _) ?_
   rw [upto_len]; omega
  ·rw [Nat.pow_succ]
   exact Nat.mul_le_mul_right _ (rLev_cap hs i (by omega))
theorem rLev_cap' {s : Su} (hs : VS s) {i : Nat} (hi : i ≤ s.1.length) : (rLev s i).length ≤ 4913 :=
 Nat.le_trans (rLev_cap hs i hi) (Nat.pow_le_pow_right (n := 17) (by decide) (show i ≤ 3 by have := hs.b3; omega))
theorem rates2 {s : Su} (hs : VS s) {i k : Nat} (hi : i < s.1.length) (out : List (List Int)) (ho : out.length ≤ 4913) (hk : k < out.length) (hl : (out.getD k []).length = i) {y : denL [(.slice (.slice (.int .i64)))]} : ∀ (e : Nat) (v : Int), v + e = (s.1.getD i sp0).2.1 + 1 → 0 ≤ v → ∀ acc : List (List Int), (acc ++ ((upto v ((s.1.getD i sp0).2.1 + 1)).filter fun v => i == 0 || decide (v ≤ (out.getD k []).getD (i - 1) 0)).map fun v => out.getD k [] ++ [v]).length ≤ 4913 →
  (Ev fun f => T110_1 out i ((k + 1 : Nat) : Int) s (acc ++ ((upto v ((s.1.getD i sp0).2.1 + 1)).filter fun v => i == 0 || decide (v ≤ (out.getD k []).getD (i - 1) 0)).map fun v => out.getD k [] ++ [v]) f = some y) → Ev fun f => T110_2 out i k v s acc f = some y := by
 have h3 := hs.b3
 have hbt := hs.belts i hi
 intro e
 induction e with
 | zero =>
  intro v hv h0 acc hc h
  refine R110_2 _ _ _ _ _ _ ?_
  rw [upto_nil (by omega), List.filter_nil, List.map_nil, List.append_nil] at h
  rw [dec_t (show (0 : Int) ≤ (i : Int) by omega), dec_t (show (i : Int) < (s.1.length : Int) by omega), Int.toNat_natCast, show s.1.getD i (0, 0, ()) = s.1.getD i sp0 from rfl, dec_f (show ¬ v ≤ (s.1.getD i sp0).2.1 by omega), wrap_succ (n := k) (by omega)]
  simp only [Bool.and_self, cond_true, cond_false]
  exact h
 | succ e ih =>
  intro v hv h0 acc hc h
  refine R110_2 _ _ _ _ _ _ ?_
  rw [upto_cons (by omega), List.filter_cons] at h hc
  rw [dec_t (show (0 : Int) ≤ (i : Int) by omega), dec_t (show (i : Int) < (s.1.length : Int) by omega), Int.toNat_natCast, Int.toNat_natCast, show s.1.getD i (0, 0, ()) = s.1.getD i sp0 from rfl, dec_t (show v ≤ (s.1.getD i sp0).2.1 by omega), wrap_id (x := v + 1) (by omega) (by omega), one_set, one_set, dec_t (show (0 : Int) ≤ (k : Int) by omega), dec_t (show (k : Int) < (out.length : Int) by omega), dec_t (show (out.getD k []).length ≤ 2147483648 by omega), dec_t (show (out.getD k []).length + [v].length ≤ 2147483648 by simp only [List.length_cons, List.length_nil]; omega)]
  simp only [Bool.and_self, cond_true]
  have e1 : ∀ r : List (List Int), acc ++ (out.getD k [] ++ [v]) :: r = (acc ++ [out.getD k [] ++ [v]]) ++ r := fun r => by simp
  by_cases hi0 : i = 0
  ·have hq : (i == 0 || decide (v ≤ (out.getD k []).getD (i - 1) 0)) = true := by simp [hi0]
   rw [if_pos hq, List.map_cons] at h hc
   have hc' := hc
   rw [List.length_append, List.length_cons] at hc'
   rw [bq (show (i : Int) = 0 by omega), dec_t (show acc.length + [out.getD k [] ++ [v]].length ≤ 2147483648 by simp only [List.length_cons, List.length_nil]; omega)]
   rw [e1] at h hc
   exact ih (v + 1) (by omega) (by omega) _ hc h
  ·have w1 : IntKind.wrap IntKind.i64 ((i : Int) - 1) = ((i - 1 : Nat) : Int) := wrap_pred (by omega) (by omega)
   rw [bqf (show (i : Int) ≠ 0 by omega), w1, Int.toNat_natCast, dec_t (show (0 : Int) ≤ ((i - 1 : Nat) : Int) by omega), dec_t (show ((i - 1 : Nat) : Int) < ((out.getD k []).length : Int) by omega)]
   simp only [Bool.and_self, cond_true, cond_false]
   by_cases hv2 : v ≤ (out.getD k []).getD (i - 1) 0
   ·have hq : (i == 0 || decide (v ≤ (out.getD k []).getD (i - 1) 0)) = true := by rw [dec_t hv2, Bool.or_true]
    rw [if_pos hq, List.map_cons] at h hc
    have hc' := hc
    rw [List.length_append, List.length_cons] at hc'
    rw [dec_t hv2, dec_t (show acc.length + [out.getD k [] ++ [v]].length ≤ 2147483648 by simp only [List.length_cons, List.length_nil]; omega)]
    rw [e1] at h hc
    exact ih (v + 1) (by omega) (by omega) _ hc h
   ·have hq : ¬ (i == 0 || decide (v ≤ (out.getD k []).getD (i - 1) 0)) = true := by rw [dec_f hv2, Bool.or_false]; simpa using hi0
    rw [if_neg hq] at h hc
    rw [dec_f hv2]
    exact ih (v + 1) (by omega) (by omega) _ hc h
theorem L110 {s : Su} (hs : VS s) : F110 ((s, ()) : Su × Unit) = some (rLev s s.1.length, ()) := by
 have h3 := hs.b3
 refine N110 _ ?_
 have key : ∀ (c i : Nat), i + c = s.1.length → Ev fun f => T110_0 (rLev s i) i s f = some (rLev s s.1.length, ()) := by
  intro c
  induction c with
  | zero =>
   intro i hi
   obtain rfl : i = s.1.length := by omega
   refine R110_0 _ _ _ ?_
   rw [dec_f (by omega)]
   exact Ev.all fun _ => by first | rfl | trivial
  | succ c ih =>
   intro i hi
   have hlt : i < s.1.length := by omega
   have hbt := hs.belts i hlt
   have ih := ih (i + 1) (by omega)
   refine R110_0 _ _ _ ?_
   rw [dec_t (show (i : Int) < (s.1.length : Int) by omega)]
   have cap := rLev_cap' hs (show i ≤ s.1.length by omega)
   have cap' := rLev_cap' hs (show i + 1 ≤ s.1.length by omega)
   have key1 : ∀ (e k : Nat), k + e = (rLev s i).length → ∀ acc : List (List Int), acc ++ ((rLev s i).drop k).flatMap (rNext s i) = rLev s (i + 1) → Ev fun f => T110_1 (rLev s i) i k s acc f = some (rLev s s.1.length, ()) := by
    intro e
    induction e with
    | zero =>
     intro k hk acc ha
     refine R110_1 _ _ _ _ _ ?_
     rw [List.drop_eq_nil_of_le (by omega), List.flatMap_nil, List.append_nil] at ha
     rw [dec_f (by omega), wrap_succ (n := i) (by omega), ha]
     exact ih
    | succ e ihe =>
     intro k hk acc ha
     have hkl : k < (rLev s i).length := by omega
     have hg : (rLev s i).getD k [] = (rLev s i)[k] := getD_lt hkl
     have hlen := rLev_len s i _ (List.getElem_mem hkl)
     refine R110_1 _ _ _ _ _ ?_
     rw [dec_t (show (k : Int) < ((rLev s i).length : Int) by omega), dec_t (show (0 : Int) ≤ (i : Int) by omega), dec_t (show (i : Int) < (s.1.length : Int) by omega), Int.toNat_natCast]
     simp only [Bool.and_self, cond_true]
     rw [List.drop_eq_getElem_cons hkl, List.flatMap_cons, ← List.append_assoc] at ha
     have hle : (acc ++ rNext s i (rLev s i)[k]).length ≤ 4913 := by
      have := congrArg List.length ha
      rw [List.length_append] at this
      omega
     refine rates2 hs hlt (rLev s i) cap hkl (by rw [hg]; exact hlen) ((s.1.getD i sp0).2.1 + 1 - (s.1.getD i sp0).1).toNat _ (show (s.1.getD i sp0).1 + (((s.1.getD i sp0).2.1 + 1 - (s.1.getD i sp0).1).toNat : Int) = _ by omega) hbt.1 acc ?_ ?_
     ·rw [hg]; exact hle
     ·rw [hg]; exact ihe (k + 1) (by omega) _ ha
   exact key1 (rLev s i).length 0 (by omega) [] (by rw [List.drop_zero, List.nil_append]; rfl)
 exact key s.1.length 0 (by omega)
def gNext (i : Nat) (p : List Int) : List (List Int) := ((List.range (i + 1)).filter fun k : Nat => k == i || p.getD k 0 == (k : Int)).map fun k : Nat => p ++ [(k : Int)]
theorem gLev_succ (i : Nat) : gLev (i + 1) = (gLev i).flatMap (gNext i) := rfl
theorem gLev_cap : ∀ (i : Nat), i ≤ 5 → (gLev i).length ≤ 6 ^ i
 | 0, _ => by simp [gLev]
 | i + 1, hi => by
  rw [gLev_succ]
  refine Nat.le_trans (flat_len _ 6 _ fun p _ => ?_) ?_
  ·unfold gNext
   rw [List.length_map]
   refine Nat.le_trans (List.length_filter_le _ _) ?_
   rw [List.length_range]; omega
  ·rw [Nat.pow_succ]
   exact Nat.mul_le_mul_right _ (gLev_cap i (by omega))
theorem gLev_cap' {i : Nat} (hi : i ≤ 5) : (gLev i).length ≤ 7776 := Nat.le_trans (gLev_cap i hi) (Nat.pow_le_pow_right (n := 6) (by decide) hi)
theorem parts2 {n i k : Nat} (hi : i < 5) (out : List (List Int)) (ho : out.length ≤ 7776) (hk : k < out.length) (hl : (out.getD k []).length = i) {y : denL [(.slice (.slice (.int .i64)))]} : ∀ (e v : Nat), v + e = i + 1 → ∀ acc : List (List Int), (acc ++ ((List.range' v e).filter fun v : Nat => v == i || (out.getD k []).getD v 0 == (v : Int)).map fun v : Nat => out.getD k [] ++ [(v : Int)]).length ≤ 7776 →
  (Ev fun f => T111_1 n out i ((k + 1 : Nat) : Int) (acc ++ ((List.range' v e).filter fun v : Nat => v == i || (out.getD k []).getD v 0 == (v : Int)).map fun v : Nat => out.getD k [] ++ [(v : Int)]) f = some y) → Ev fun f => T111_2 n out i k v acc f = some y := by
 intro e
 induction e with
 | zero =>
  intro v hv acc hc h
  refine R111_2 _ _ _ _ _ _ ?_
  rw [List.range'_zero, List.filter_nil, List.map_nil, List.append_nil] at h
  rw [dec_f (show ¬ (v : Int) ≤ (i : Int) by omega), wrap_succ (n := k) (by omega)]
  exact h
 | succ e ih =>
  intro v hv acc hc h
  refine R111_2 _ _ _ _ _ _ ?_
  rw [List.range'_succ, List.filter_cons] at h hc
  rw [dec_t (show (v : Int) ≤ (i : Int) by omega), Int.toNat_natCast, Int.toNat_natCast, wrap_succ (n := v) (by omega), one_set, one_set, dec_t (show (0 : Int) ≤ (k : Int) by omega), dec_t (show (k : Int) < (out.length : Int) by omega), dec_t (show (out.getD k []).length ≤ 2147483648 by omega), dec_t (show (out.getD k []).length + [(v : Int)].length ≤ 2147483648 by simp only [List.length_cons, List.length_nil]; omega)]
  simp only [Bool.and_self, cond_true]
  have e1 : ∀ r : List (List Int), acc ++ (out.getD k [] ++ [(v : Int)]) :: r = (acc ++ [out.getD k [] ++ [(v : Int)]]) ++ r := fun r => by simp
  by_cases hi0 : v = i
  ·have hq : (v == i || (out.getD k []).getD v 0 == (v : Int)) = true := by rw [show (v == i) = true by simpa using hi0, Bool.true_or]
   rw [if_pos hq, List.map_cons] at h hc
   have hc' := hc
   rw [List.length_append, List.length_cons] at hc'
   rw [bq (show (v : Int) = (i : Int) by omega), dec_t (show acc.length + [out.getD k [] ++ [(v : Int)]].length ≤ 2147483648 by simp only [List.length_cons, List.length_nil]; omega)]
   rw [e1] at h hc
   exact ih (v + 1) (by omega) _ hc h
  ·rw [bqf (show (v : Int) ≠ (i : Int) by omega), dec_t (show (0 : Int) ≤ (v : Int) by omega), dec_t (show (v : Int) < ((out.getD k []).length : Int) by omega)]
   simp only [Bool.and_self, cond_true, cond_false]
   by_cases hv2 : (out.getD k []).getD v 0 = (v : Int)
   ·have hq : (v == i || (out.getD k []).getD v 0 == (v : Int)) = true := by rw [bq hv2, Bool.or_true]
    rw [if_pos hq, List.map_cons] at h hc
    have hc' := hc
    rw [List.length_append, List.length_cons] at hc'
    rw [bq hv2, dec_t (show acc.length + [out.getD k [] ++ [(v : Int)]].length ≤ 2147483648 by simp only [List.length_cons, List.length_nil]; omega)]
    rw [e1] at h hc
    exact ih (v + 1) (by omega) _ hc h
   ·have hq : ¬ (v == i || (out.getD k []).getD v 0 == (v : Int)) = true := by rw [bqf hv2, Bool.or_false]; simpa using hi0
    rw [if_neg hq] at h hc
    rw [bqf hv2]
    exact ih (v + 1) (by omega) _ hc h
theorem L111 (n : Nat) (hn : n ≤ 5) : F111 (((n : Int), ()) : Int × Unit) = some (gLev n, ()) := by
 refine N111 _ ?_
 have key : ∀ (c i : Nat), i + c = n → Ev fun f => T111_0 n (gLev i) i f = some (gLev n, ()) := by
  intro c
  induction c with
  | zero =>
   intro i hi
   obtain rfl : i = n := by omega
   refine R111_0 _ _ _ ?_
   rw [dec_f (by omega)]
   exact Ev.all fun _ => by first | rfl | trivial
  | succ c ih =>
   intro i hi
   have ih := ih (i + 1) (by omega)
   refine R111_0 _ _ _ ?_
   rw [dec_t (show (i : Int) < (n : Int) by omega)]
   have cap := gLev_cap' (show i ≤ 5 by omega)
   have cap' := gLev_cap' (show i + 1 ≤ 5 by omega)
   have key1 : ∀ (e k : Nat), k + e = (gLev i).length → ∀ acc : List (List Int), acc ++ ((gLev i).drop k).flatMap (gNext i) = gLev (i + 1) → Ev fun f => T111_1 n (gLev i) i k acc f = some (gLev n, ()) := by
    intro e
    induction e with
    | zero =>
     intro k hk acc ha
     refine R111_1 _ _ _ _ _ ?_
     rw [List.drop_eq_nil_of_le (by omega), List.flatMap_nil, List.append_nil] at ha
     rw [dec_f (by omega), wrap_succ (n := i) (by omega), ha]
     exact ih
    | succ e ihe =>
     intro k hk acc ha
     have hkl : k < (gLev i).length := by omega
     have hg : (gLev i).getD k [] = (gLev i)[k] := getD_lt hkl
     have hlen := gLev_len i _ (List.getElem_mem hkl)
     refine R111_1 _ _ _ _ _ ?_
     rw [dec_t (show (k : Int) < ((gLev i).length : Int) by omega)]
     simp only [cond_true]
     rw [List.drop_eq_getElem_cons hkl, List.flatMap_cons, ← List.append_assoc] at ha
     have hle : (acc ++ gNext i (gLev i)[k]).length ≤ 7776 := by
      have := congrArg List.length ha
      rw [List.length_append] at this
      omega
     unfold gNext at hle
     rw [List.range_eq_range'] at hle
     refine parts2 (n := n) (by omega) (gLev i) cap hkl (by rw [hg]; exact hlen) (i + 1) 0 (by omega) acc ?_ ?_
     ·rw [hg]; exact hle
     ·rw [hg, ← List.range_eq_range']
      exact ihe (k + 1) (by omega) _ ha
   exact key1 (gLev i).length 0 (by omega) [] (by rw [List.drop_zero, List.nil_append]; rfl)
 exact key n 0 (by omega)
abbrev Tr := List Int × List Int × Unit
def trU (t : List Int × List Int) : Tr := (t.1, t.2, ())
def truNext (s : Su) (but : Nat → Bool) (r : List Int) : List Tr := ((gLev s.2.2.1.length).filter fun g => soP s but g && fitsP (canP s r) g).map fun g => (r, g, ())
def refT (s : Su) (but : Nat → Bool) : List Tr := (rLev s s.1.length).flatMap (truNext s but)
theorem refT_eq (s : Su) (but : Nat → Bool) : refT s but = (refTruths s but).map trU := by
 unfold refT refTruths truNext trU
 rw [map_flatMap]
 refine flatMap_same fun r _ => ?_
 rw [List.map_map]
 rfl
theorem refT_cap {s : Su} (hs : VS s) (but : Nat → Bool) : (refT s but).length ≤ 38203488 := by
 unfold refT
 refine Nat.le_trans (flat_len _ 7776 _ fun r _ => ?_) (Nat.le_trans (Nat.mul_le_mul_right _ (rLev_cap' hs (Nat.le_refl _))) (by decide))
 unfold truNext
 rw [List.length_map]
 exact Nat.le_trans (List.length_filter_le _ _) (gLev_cap' hs.n5)
theorem truths2 {s : Su} (hs : VS s) (but : List Int) (hb : but.length < 1000000) {i : Nat} (hi : i < (rLev s s.1.length).length) {y : denL [(.slice (.struct [(.slice (.int .i64)), (.slice (.int .i64))]))]} :
  ∀ (e k : Nat), k + e = (gLev s.2.2.1.length).length → ∀ acc : List Tr, (acc ++ (((gLev s.2.2.1.length).drop k).filter fun g => soP s (inL but) g && fitsP (canP s (rLev s s.1.length)[i]) g).map fun g => (((rLev s s.1.length)[i], g, ()) : Tr)).length ≤ 38203488 →
  (Ev fun f => T48_0 but (rLev s s.1.length) (gLev s.2.2.1.length) ((i + 1 : Nat) : Int) s (acc ++ (((gLev s.2.2.1.length).drop k).filter fun g => soP s (inL but) g && fitsP (canP s (rLev s s.1.length)[i]) g).map fun g => (((rLev s s.1.length)[i], g, ()) : Tr)) f = some y) →
  Ev fun f => T48_1 but (rLev s s.1.length) (gLev s.2.2.1.length) i k s acc f = some y := by
 have h5 := hs.n5
 have capr := rLev_cap' hs (Nat.le_refl _)
 have capg := gLev_cap' h5
 have hrm := List.getElem_mem hi
 have hrl := rLev_len s _ _ hrm
 have hrb := rLev_rb hs _ (Nat.le_refl _) _ hrm
 have hgr : (rLev s s.1.length).getD i [] = (rLev s s.1.length)[i] := getD_lt hi
 intro e
 induction e with
 | zero =>
  intro k hk acc hc h
  refine R48_1 _ _ _ _ _ _ _ ?_
  rw [List.drop_eq_nil_of_le (by omega), List.filter_nil, List.map_nil, List.append_nil] at h
  rw [dec_f (by omega), wrap_succ (n := i) (by omega)]
  exact h
 | succ e ih =>
  intro k hk acc hc h
  have hkl : k < (gLev s.2.2.1.length).length := by omega
  have hg : (gLev s.2.2.1.length).getD k [] = (gLev s.2.2.1.length)[k] := getD_lt hkl
  have hlen := gLev_len _ _ (List.getElem_mem hkl)
  refine R48_1 _ _ _ _ _ _ _ ?_
  rw [List.drop_eq_getElem_cons hkl, List.filter_cons] at h hc
  rw [dec_t (show (k : Int) < ((gLev s.2.2.1.length).length : Int) by omega), dec_t (show (0 : Int) ≤ (k : Int) by omega), dec_t (show (i : Int) < ((rLev s s.1.length).length : Int) by omega), dec_t (show (0 : Int) ≤ (i : Int) by omega), Int.toNat_natCast, Int.toNat_natCast, hg, hgr, wrap_succ (n := k) (by omega), one_set, L112 hs _ _ hlen hb, L113 hs hrb hrl hlen]
  simp only [Bool.and_self, cond_true, Option.bind_some]
  generalize (gLev s.2.2.1.length)[k] = g at h hc ⊢
  cases h1 : soP s (inL but) g with
  | false =>
   rw [h1, Bool.false_and, if_neg (by decide)] at h hc
   exact ih (k + 1) (by omega) acc hc h
  | true =>
   cases h2 : fitsP (canP s (rLev s s.1.length)[i]) g with
   | false =>
    rw [h1, h2, Bool.true_and, if_neg (by decide)] at h hc
    exact ih (k + 1) (by omega) acc hc h
   | true =>
    rw [h1, h2, Bool.true_and, if_pos rfl, List.map_cons] at h hc
    have hc' := hc
    rw [List.length_append, List.length_cons] at hc'
    have e1 : ∀ r : List Tr, acc ++ ((rLev s s.1.length)[i], g, ()) :: r = (acc ++ [((rLev s s.1.length)[i], g, ())]) ++ r := fun r => by simp
    rw [dec_t (show acc.length + [(((rLev s s.1.length)[i], g, ()) : Tr)].length ≤ 2147483648 by simp only [List.length_cons, List.length_nil]; omega)]
    rw [e1] at h hc
    exact ih (k + 1) (by omega) _ hc h
theorem L48 {s : Su} (hs : VS s) (but : List Int) (hb : but.length < 1000000) : F48 ((s, but, ()) : Su × List Int × Unit) = some (refT s (inL but), ()) := by
 have h5 := hs.n5
 refine N48 _ _ ?_
 rw [L110 hs, L111 _ h5]
 simp only [Option.bind_some]
 have capr := rLev_cap' hs (Nat.le_refl _)
 have cap := refT_cap hs (inL but)
 have key : ∀ (e k : Nat), k + e = (rLev s s.1.length).length → ∀ acc : List Tr, acc ++ ((rLev s s.1.length).drop k).flatMap (truNext s (inL but)) = refT s (inL but) → Ev fun f => T48_0 but (rLev s s.1.length) (gLev s.2.2.1.length) k s acc f = some (refT s (inL but), ()) := by
  intro e
  induction e with
  | zero =>
   intro k hk acc ha
   refine R48_0 _ _ _ _ _ _ ?_
   rw [List.drop_eq_nil_of_le (by omega), List.flatMap_nil, List.append_nil] at ha
   rw [dec_f (by omega), ha]
   exact Ev.all fun _ => by first | rfl | trivial
  | succ e ihe =>
   intro k hk acc ha
   have hkl : k < (rLev s s.1.length).length := by omega
   refine R48_0 _ _ _ _ _ _ ?_
   rw [dec_t (show (k : Int) < ((rLev s s.1.length).length : Int) by omega)]
   rw [List.drop_eq_getElem_cons hkl, List.flatMap_cons, ← List.append_assoc] at ha
   have hle : (acc ++ truNext s (inL but) (rLev s s.1.length)[k]).length ≤ 38203488 := by
    have := congrArg List.length ha
    rw [List.length_append] at this
    omega
   refine truths2 hs but hb hkl (gLev s.2.2.1.length).length 0 (by omega) acc ?_ ?_
   ·rw [List.drop_zero]; exact hle
   ·rw [List.drop_zero]; exact ihe (k + 1) (by omega) _ ha
 exact key (rLev s s.1.length).length 0 (by omega) [] (by rw [List.drop_zero, List.nil_append]; rfl)
end Go.Proofs.Ytkhhbpocmmmnmaa
