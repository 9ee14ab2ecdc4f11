/- CloudEnds: the least numbers of all days are a truth, and the greatest ones. Conditions: as each lemma states. -/
import Derived.Test.YtjigflnjgmgmnaaDoorClLt
namespace Go.Proofs.YtjigflnjgmgmnaaDoor
open Go Go.Gh Go.Proofs Go.Few
noncomputable abbrev T10_0 (t5 : Int) (t6 : (List Int)) (t7 : (List Int)) (t8 : Int) (t9 : Int) (t10 : Int) (h0 : (Int × (List (Int × Int × Unit)) × Unit)) (h1 : (Int × Int × Unit)) (h2 : (Int × Int × Unit)) (f : Nat) : Option (denL [.bool]) := iter cx9 S10 [.bool] 6000 f 0 K10_0 ((((), ((), ((), (t5, (t6, (t7, (t8, (t9, (t10, ()))))))))), ()), (h0, (h1, (h2, ()))))
noncomputable abbrev T49_0 (t1 : (List Int)) (t5 : Bool) (t6 : Int) (h0 : (Int × (List (Int × Int × Unit)) × Unit)) (f : Nat) : Option (denL [.bool]) := iter cx41 S49 [.bool] 6000 f 0 K49_0 (((t1, ((), (t5, (t6, ())))), ()), (h0, ()))
theorem R10_0 (t5 : Int) (t6 : (List Int)) (t7 : (List Int)) (t8 : Int) (t9 : Int) (t10 : Int) (h0 : (Int × (List (Int × Int × Unit)) × Unit)) (h1 : (Int × Int × Unit)) (h2 : (Int × Int × Unit)) {y : denL [.bool]} (h : Ev fun k =>
 (bif decide (t10 < (↑(List.length h0.2.1) : Int)) then Option.bind (F20 (h0, t10, ())) fun (y : (Int × Int × Unit) × Int × Unit) => bif y.2.1 != 0 then some (false, ()) else Option.bind (F48 (y.1.1, 0, 100, ())) fun (y_1 : Bool × Unit) => bif !y_1.1 then some (false, ()) else Option.bind (F48 (y.1.2.1, y.1.1, 100, ())) fun (y_2 : Bool × Unit) => bif !y_2.1 then some (false, ()) else bif decide (List.length t6 ≤ 2147483648) then bif decide (List.length t6 + List.length (List.set (List.replicate 1 0) 0 y.1.1) ≤ 2147483648) then bif decide (List.length t7 ≤ 2147483648) then bif decide (List.length t7 + List.length (List.set (List.replicate 1 0) 0 y.1.2.1) ≤ 2147483648) then T10_0 t5 (t6 ++ List.set (List.replicate 1 0) 0 y.1.1) (t7 ++ List.set (List.replicate 1 0) 0 y.1.2.1) (IntKind.wrap IntKind.i64 (t8 + y.1.1)) (IntKind.wrap IntKind.i64 (t9 + y.1.2.1)) (IntKind.wrap IntKind.i64 (t10 + 1)) h0 h1 h2 k else none else none else none else none else bif t5 == 0 then Option.bind (F49 (h0, t6, ())) fun (y : Bool × Unit) => bif y.1 then Option.bind (F49 (h0, t7, ())) fun (y : Bool × Unit) => bif y.1 then Option.bind (F43 (t8, (↑(List.length t6) : Int), ())) fun (y : (Int × Int × Unit) × Unit) => bif eqD (Ty.struct [Ty.int IntKind.i64, Ty.int IntKind.i64]) h1 y.1 then Option.bind (F43 (t9, (↑(List.length t7) : Int), ())) fun (y : (Int × Int × Unit) × Unit) => bif eqD (Ty.struct [Ty.int IntKind.i64, Ty.int IntKind.i64]) h2 y.1 then Option.bind (F22 ()) fun (y : Bool × Unit) => some (y.1, ()) else some (false, ()) else some (false, ()) else some (false, ()) else some (false, ()) else some (false, ()) : Option (denL [.bool])) = some y) : Ev fun k => T10_0 t5 t6 t7 t8 t9 t10 h0 h1 h2 k = some y := iter_ev (Ev.eq (fun _ => by kernel_rfl) h)
theorem N10 (t0 : (Int × (List (Int × Int × Unit)) × Unit)) {y : denL [.bool]} (h : Ev fun k =>
 (Option.bind (F23 (t0, ())) fun (y : (Int × Int × Unit) × (Int × Int × Unit) × Int × Unit) => Option.bind (F47 (t0, ())) fun (y_1 : Bool × Unit) => bif !y_1.1 then bif y.2.2.1 != 0 then bif eqD (Ty.struct [Ty.int IntKind.i64, Ty.int IntKind.i64]) y.1 (0, 0, ()) then bif eqD (Ty.struct [Ty.int IntKind.i64, Ty.int IntKind.i64]) y.2.1 (0, 0, ()) then Option.bind (F22 ()) fun (y : Bool × Unit) => some (y.1, ()) else some (false, ()) else some (false, ()) else some (false, ()) else T10_0 y.2.2.1 ([]) ([]) 0 0 0 t0 y.1 y.2.1 k : Option (denL [.bool])) = some y) : F10 (t0, ()) = some y := ghost_eq (Ev.eq (fun _ => by kernel_rfl) h)
theorem R49_0 (t1 : (List Int)) (t5 : Bool) (t6 : Int) (h0 : (Int × (List (Int × Int × Unit)) × Unit)) {y : denL [.bool]} (h : Ev fun k =>
 (bif decide (t6 < (↑(List.length t1) : Int)) then bif t5 then bif decide (0 ≤ t6) && decide (t6 < (↑(List.length h0.2.1) : Int)) then bif decide (0 ≤ t6) && decide (t6 < (↑(List.length t1) : Int)) then Option.bind (F56 (List.getD h0.2.1 (Int.toNat t6) (0, 0, ()), List.getD t1 (Int.toNat t6) 0, ())) fun (y : Bool × Unit) => bif y.1 then bif t6 == 0 then T49_0 t1 true (IntKind.wrap IntKind.i64 (t6 + 1)) h0 k else bif decide (0 ≤ t6) && decide (t6 < (↑(List.length t1) : Int)) then bif decide (0 ≤ if IntKind.wrap IntKind.i64 (t6 - 1) > 0 then IntKind.wrap IntKind.i64 (t6 - 1) else 0) && decide ((if IntKind.wrap IntKind.i64 (t6 - 1) > 0 then IntKind.wrap IntKind.i64 (t6 - 1) else 0) < (↑(List.length t1) : Int)) then Option.bind (F48 (IntKind.wrap IntKind.i64 (List.getD t1 (Int.toNat t6) 0 - List.getD t1 (Int.toNat (if IntKind.wrap IntKind.i64 (t6 - 1) > 0 then IntKind.wrap IntKind.i64 (t6 - 1) else 0)) 0), IntKind.wrap IntKind.i64 (0 - h0.1), h0.1, ())) fun (y : Bool × Unit) => T49_0 t1 y.1 (IntKind.wrap IntKind.i64 (t6 + 1)) h0 k else none else none else T49_0 t1 false (IntKind.wrap IntKind.i64 (t6 + 1)) h0 k else none else none else T49_0 t1 false (IntKind.wrap IntKind.i64 (t6 + 1)) h0 k else some (t5, ()) : Option (denL [.bool])) = some y) : Ev fun k => T49_0 t1 t5 t6 h0 k = some y := iter_ev (Ev.eq (fun _ => by kernel_rfl) h)
theorem N49 (t0 : (Int × (List (Int × Int × Unit)) × Unit)) (t1 : (List Int)) {y : denL [.bool]} (h : Ev fun k =>
 (T49_0 t1 true 0 t0 k : Option (denL [.bool])) = some y) : F49 (t0, (t1, ())) = some y := ghost_eq (Ev.eq (fun _ => by kernel_rfl) h)
theorem can_own {c : Mn} {x : Nat → Int} (ht : Truth (c, 0, ()) nob x) {i : Nat} (hi : i < c.2.1.length) : canB (c.2.1.getD i z0) (x i) = true := by
 have h := ht.own i hi
 have e : own (c, 0, ()) nob i = canD (c.2.1.getD i z0) := by
  unfold own
  rw [if_neg (show ¬ ((i : Int) = nob.1) by simp only [nob]; omega), dayAt_c]
 rw [e] at h
 unfold canB
 unfold canD at h
 split
 ·rfl
 ·rename_i h0
  rw [if_neg h0] at h
  split
  ·rename_i h1
   rw [if_pos h1] at h
   simp only [sp] at h
   exact decide_eq_true (by omega)
  ·rename_i h1
   rw [if_neg h1] at h
   simp only [sp] at h
   have : x i = (c.2.1.getD i z0).2.1 := by omega
   rw [this]
   exact beq_self_eq_true _
theorem L49 {c : Mn} (hv : Valid c) {x : Nat → Int} (ht : Truth (c, 0, ()) nob x) {l : List Int} (hl : l.length = c.2.1.length) (hg : ∀ i, i < c.2.1.length → l.getD i 0 = x i) : F49 ((c, l, ()) : Mn × List Int × Unit) = some (true, ()) := by
 have h12 := hv.l12
 have s0 := hv.s0
 have s20 := hv.s20
 refine N49 _ _ ?_
 have key : ∀ (e i : Nat), i + e = c.2.1.length → Ev fun k => T49_0 l true i c k = some (true, ()) := by
  intro e
  induction e with
  | zero =>
   intro i hi
   refine R49_0 _ _ _ _ ?_
   rw [hl, dec_f (by omega)]
   exact Ev.all fun _ => by first | rfl | trivial
  | succ e ih =>
   intro i hi
   have hlt : i < c.2.1.length := by omega
   have hr := truth_range hv ht hlt
   have hn := ih (i + 1) (by omega)
   refine R49_0 _ _ _ _ ?_
   have hz : ((0, 0, ()) : Sp) = z0 := rfl
   rw [hl, dec_t (show (i : Int) < (c.2.1.length : Int) by omega), dec_t (show (0 : Int) ≤ (i : Int) by omega), Int.toNat_natCast, hg i hlt, hz, L56, can_own ht hlt, wrap_succ (n := i) (by omega)]
   simp only [cond_true, Option.bind_some, Bool.and_self]
   by_cases h0 : i = 0
   ·have : ((i : Int) == 0) = true := by subst h0; rfl
    rw [this]
    exact hn
   ·have e0 : ((i : Int) == 0) = false := by simpa using h0
    have hp := truth_range hv ht (show i - 1 < c.2.1.length by omega)
    have hu := ht.up (i - 1) (by simp only; omega)
    rw [show i - 1 + 1 = i by omega] at hu
    simp only at hu
    have w1 : IntKind.wrap IntKind.i64 ((i : Int) - 1) = ((i - 1 : Nat) : Int) := by rw [wrap_id (by omega) (by omega)]; omega
    have w2 : (if ((i - 1 : Nat) : Int) > 0 then ((i - 1 : Nat) : Int) else 0) = ((i - 1 : Nat) : Int) := by split <;> omega
    rw [e0, w1, w2, dec_t (show (0 : Int) ≤ ((i - 1 : Nat) : Int) by omega), dec_t (show ((i - 1 : Nat) : Int) < (c.2.1.length : Int) by omega), Int.toNat_natCast, hg (i - 1) (by omega), wrap_id (by omega) (by omega), wrap_id (by omega) (by omega), L48, dec_t (by omega), dec_t (by omega)]
    exact hn
 exact key c.2.1.length 0 (by omega)
theorem L10 (c : Mn) : F10 ((c, ()) : Mn × Unit) = some (true, ()) := by
 refine N10 _ ?_
 rw [L23, L47, L22]
 simp only [Option.bind_some]
 cases hs : someB c with
 | false =>
  have he := some_not hs
  have e1 : monthP c = (z0, z0, (ent c 0 0).2.1, ()) := by unfold monthP; rw [if_pos he]
  have e2 : ((ent c 0 0).2.1 != 0) = true := by simpa using he
  have ez : eqD (Ty.struct [Ty.int IntKind.i64, Ty.int IntKind.i64]) z0 (0, 0, ()) = true := by rw [eqD2]; rfl
  rw [e1]
  simp only [Bool.not_false, cond_true, e2, ez]
  exact Ev.all fun _ => by first | rfl | trivial
 | true =>
  obtain ⟨_, hv, ha⟩ := some_ok hs
  have h1 := hv.l1
  have h12 := hv.l12
  obtain ⟨t1, t2⟩ := (spn_char (c, 0, ()) nob hv bd_nob).1 ha
  have hin := ((spn_char (c, 0, ()) nob hv bd_nob).2 _ t1).2
  obtain ⟨s0, s1, s2, s3⟩ := sums_cap hv ha
  have hX := sums_X (c, 0, ()) nob hv bd_nob
  rw [month_some hs]
  simp only [Bool.not_true, cond_false]
  have r1 : ∀ j, j < c.2.1.length → 0 ≤ lows (spn (c, 0, ()) nob) j ∧ lows (spn (c, 0, ()) nob) j ≤ 100 := fun j hj => truth_range hv t1 hj
  have r2 : ∀ j, j < c.2.1.length → 0 ≤ highs (spn (c, 0, ()) nob) j ∧ highs (spn (c, 0, ()) nob) j ≤ 100 := fun j hj => truth_range hv t2 hj
  have q1 : sumU (lows (spn (c, 0, ()) nob)) c.2.1.length = (sums (c, 0, ()) nob).1 := by
   rw [hX]
   have := sumU_X (lows (spn (c, 0, ()) nob)) (c.2.1.length - 1)
   rw [show c.2.1.length - 1 + 1 = c.2.1.length by omega] at this
   exact this
  have q2 : sumU (highs (spn (c, 0, ()) nob)) c.2.1.length = (sums (c, 0, ()) nob).2.1 := by
   rw [hX]
   have := sumU_X (highs (spn (c, 0, ()) nob)) (c.2.1.length - 1)
   rw [show c.2.1.length - 1 + 1 = c.2.1.length by omega] at this
   exact this
  have hnum : ∀ i, i < c.2.1.length → numP c i = ((spn (c, 0, ()) nob).getD i z0, 0, ()) := fun i hi => num_some hs hi
  have hlo : ∀ i, ((spn (c, 0, ()) nob).getD i z0).1 = lows (spn (c, 0, ()) nob) i := fun _ => rfl
  have hhi : ∀ i, ((spn (c, 0, ()) nob).getD i z0).2.1 = highs (spn (c, 0, ()) nob) i := fun _ => rfl
  generalize lows (spn (c, 0, ()) nob) = lo at *
  generalize highs (spn (c, 0, ()) nob) = up at *
  generalize (sums (c, 0, ()) nob).1 = a at *
  generalize (sums (c, 0, ()) nob).2.1 = b at *
  have lm : ∀ (x : Nat → Int) (i : Nat), ((List.range i).map x).length = i := fun x i => by simp
  have gm : ∀ (x : Nat → Int) (n i : Nat), i < n → ((List.range n).map x).getD i 0 = x i := fun x n i h => by
   simp [List.getD_eq_getElem?_getD, h]
  have key : ∀ (e i : Nat), i + e = c.2.1.length → Ev fun k => T10_0 0 ((List.range i).map lo) ((List.range i).map up) (sumU lo i) (sumU up i) i c (lowP a c.2.1.length) (lowP b c.2.1.length) k = some (true, ()) := by
   intro e
   induction e with
   | zero =>
    intro i hi
    have hi : i = c.2.1.length := by omega
    subst hi
    obtain ⟨a', rfl⟩ := Int.eq_ofNat_of_zero_le s0
    obtain ⟨b', rfl⟩ := Int.eq_ofNat_of_zero_le s2
    refine R10_0 _ _ _ _ _ _ _ _ _ ?_
    rw [dec_f (by omega), lm, lm, L49 hv t1 (lm _ _) (gm _ _), L49 hv t2 (lm _ _) (gm _ _), q1, q2, L22]
    have l1 := L43 a' c.2.1.length (by omega) (by omega) (by omega)
    have l2 := L43 b' c.2.1.length (by omega) (by omega) (by omega)
    rw [l1, l2]
    simp only [cond_false, Option.bind_some, eqD2, decide_true, Bool.and_self, cond_true]
    exact Ev.all fun _ => by first | rfl | trivial
   | succ e ih =>
    intro i hi
    have hlt : i < c.2.1.length := by omega
    have hn := ih (i + 1) (by omega)
    have k1 := r1 i hlt
    have k2 := r2 i hlt
    have k3 := hin i hlt
    have u1 := sumU_cap r1 i (by omega)
    have u2 := sumU_cap r2 i (by omega)
    have e1 : sumU lo i + lo i = sumU lo (i + 1) := rfl
    have e2 : sumU up i + up i = sumU up (i + 1) := rfl
    have e3 : ∀ v : Int, List.set (List.replicate 1 0) 0 v = [v] := fun _ => rfl
    have e4 : ∀ x : Nat → Int, (List.range i).map x ++ [x i] = (List.range (i + 1)).map x := fun x => by rw [List.range_succ, List.map_append]; rfl
    refine R10_0 _ _ _ _ _ _ _ _ _ ?_
    rw [dec_t (show (i : Int) < (c.2.1.length : Int) by omega), L20 c i, hnum i hlt]
    simp only [Option.bind_some, cond_true, hlo, hhi, L48, bne_self_eq_false, cond_false, e3, e4, lm, List.length_cons, List.length_nil]
    rw [dec_t (show (0 : Int) ≤ lo i by omega), dec_t (show lo i ≤ 100 by omega), dec_t (show lo i ≤ up i by omega), dec_t (show up i ≤ 100 by omega)]
    rw [dec_t (show i ≤ 2147483648 by omega), dec_t (show i + (0 + 1) ≤ 2147483648 by omega), wrap_id (by omega) (by omega), wrap_id (by omega) (by omega), wrap_succ (n := i) (by omega), e1, e2]
    exact hn
  exact key c.2.1.length 0 (by omega)
end Go.Proofs.YtjigflnjgmgmnaaDoor
