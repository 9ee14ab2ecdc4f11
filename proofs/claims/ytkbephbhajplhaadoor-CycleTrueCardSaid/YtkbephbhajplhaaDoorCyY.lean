/- The states at the cuts of the reference (b). Conditions: none (abbreviations). -/
import Derived.Test.YtkbephbhajplhaaDoorCyR
import Derived.Test.YtkbephbhajplhaaDoorGhI
import Derived.Test.YtkbephbhajplhaaDoorCyN
namespace Go.Proofs.YtkbephbhajplhaaDoor
open Go Go.Gh Go.Proofs
noncomputable abbrev T41_0 (t0 : (List Int)) (t4 : Int) (h0 : (List Int)) (f : Nat) : Option (denL [(.slice (.int .i64))]) := iter cx40 S41 [(.slice (.int .i64))] 6000 f 0 K41_0 (((t0, ((), (t4, ()))), ()), (h0, ()))
theorem U41_0 (t0 : (List Int)) (t4 : Int) (h0 : (List Int)) {y : denL [(.slice (.int .i64))]} (h : Ev fun k => seg cx40 S41 [(.slice (.int .i64))] 6000 some (iter cx40 S41 [(.slice (.int .i64))] 6000 k) 0 K41_0 (((t0, ((), (t4, ()))), ()), (h0, ())) = some y) : Ev fun k => T41_0 t0 t4 h0 k = some y := iter_ev h
noncomputable abbrev T44_0 (t0 : (List Int)) (t1 : Int) (t5 : Int) (f : Nat) : Option (denL [.bool]) := iter cx22 S44 [.bool] 6000 f 0 K44_0 (((t0, (t1, (t5, ()))), ()), ())
theorem U44_0 (t0 : (List Int)) (t1 : Int) (t5 : Int) {y : denL [.bool]} (h : Ev fun k => seg cx22 S44 [.bool] 6000 some (iter cx22 S44 [.bool] 6000 k) 0 K44_0 (((t0, (t1, (t5, ()))), ()), ()) = some y) : Ev fun k => T44_0 t0 t1 t5 k = some y := iter_ev h
noncomputable abbrev T50_0 (t0 : (List Int)) (t6 : Int) (t7 : Int) (t9 : Int) (h0 : Sp) (h1 : (List Int)) (f : Nat) : Option (denL [(.slice (.int .i64))]) := iter cx27 S50 [(.slice (.int .i64))] 6000 f 0 K50_0 (((t0, ((), (t6, (t7, ((), (t9, ())))))), ()), (h0, (h1, ())))
theorem U50_0 (t0 : (List Int)) (t6 : Int) (t7 : Int) (t9 : Int) (h0 : Sp) (h1 : (List Int)) {y : denL [(.slice (.int .i64))]} (h : Ev fun k => seg cx27 S50 [(.slice (.int .i64))] 6000 some (iter cx27 S50 [(.slice (.int .i64))] 6000 k) 0 K50_0 (((t0, ((), (t6, (t7, ((), (t9, ())))))), ()), (h0, (h1, ()))) = some y) : Ev fun k => T50_0 t0 t6 t7 t9 h0 h1 k = some y := iter_ev h
end Go.Proofs.YtkbephbhajplhaaDoor
/- The equations at the cuts of the reference, with the states' names (b). Conditions: none. (Printed by rest.py.) -/
namespace Go.Proofs.YtkbephbhajplhaaDoor
open Go Go.Gh Go.Proofs
theorem R41_0 (t0 : (List Int)) (t4 : Int) (h0 : (List Int)) {y : denL [(.slice (.int .i64))]} (h : Ev fun k =>
 (bif decide (IntKind.wrap IntKind.i64 (t4 + 1) < (↑(List.length t0) : Int)) then
 bif decide (0 ≤ t4) && decide (t4 < (↑(List.length t0) : Int)) then
   bif decide (0 ≤ IntKind.wrap IntKind.i64 (t4 - 1)) && decide (IntKind.wrap IntKind.i64 (t4 - 1) < (↑(List.length t0) : Int)) then
    bif decide (List.getD t0 (Int.toNat t4) 0 < List.getD t0 (Int.toNat (IntKind.wrap IntKind.i64 (t4 - 1))) 0) then
     bif decide (0 ≤ t4) && decide (t4 < (↑(List.length t0) : Int)) then
      bif decide (0 ≤ IntKind.wrap IntKind.i64 (t4 + 1)) && decide (IntKind.wrap IntKind.i64 (t4 + 1) < (↑(List.length t0) : Int)) then
       bif decide (List.getD t0 (Int.toNat t4) 0 < List.getD t0 (Int.toNat (IntKind.wrap IntKind.i64 (t4 + 1))) 0) then bif decide (List.length h0 + List.length (List.set (List.replicate 1 0) 0 t4) ≤ 2147483648) then T41_0 t0 (IntKind.wrap IntKind.i64 (t4 + 1)) (h0 ++ List.set (List.replicate 1 0) 0 t4) k else none
       else T41_0 t0 (IntKind.wrap IntKind.i64 (t4 + 1)) h0 k
      else none
     else none
    else T41_0 t0 (IntKind.wrap IntKind.i64 (t4 + 1)) h0 k
   else none
 else none
 else some (h0, ()) : Option (denL [(.slice (.int .i64))])) = some y) : Ev fun k => T41_0 t0 t4 h0 k = some y := U41_0 _ _ _ (Ev.eq (fun _ => Q41_0 _ _ _ _) h)
theorem N41 (t0 : (List Int)) {y : denL [(.slice (.int .i64))]} (h : Ev fun k =>
 (T41_0 t0 1 ([]) k : Option (denL [(.slice (.int .i64))])) = some y) : F41 (t0, ()) = some y := ghost_eq (Ev.eq (fun _ => E41 _ _) h)
theorem R44_0 (t0 : (List Int)) (t1 : Int) (t5 : Int) {y : denL [.bool]} (h : Ev fun k =>
 (bif decide (t5 < (↑(List.length t0) : Int)) then bif decide (0 ≤ t5) && decide (t5 < (↑(List.length t0) : Int)) then bif List.getD t0 (Int.toNat t5) 0 == t1 then some (true, ()) else T44_0 t0 t1 (IntKind.wrap IntKind.i64 (t5 + 1)) k else none else some (false, ()) : Option (denL [.bool])) = some y) : Ev fun k => T44_0 t0 t1 t5 k = some y := U44_0 _ _ _ (Ev.eq (fun _ => Q44_0 _ _ _ _) h)
theorem N44 (t0 : (List Int)) (t1 : Int) {y : denL [.bool]} (h : Ev fun k =>
 (T44_0 t0 t1 0 k : Option (denL [.bool])) = some y) : F44 (t0, (t1, ())) = some y := ghost_eq (Ev.eq (fun _ => E44 _ _ _) h)
theorem R50_0 (t0 : (List Int)) (t6 : Int) (t7 : Int) (t9 : Int) (h0 : Sp) (h1 : (List Int)) {y : denL [(.slice (.int .i64))]} (h : Ev fun k =>
 (bif decide (t9 ≤ IntKind.wrap IntKind.i64 (t6 + Prod.fst (Prod.snd h0))) then
 Option.bind (F42 (IntKind.wrap IntKind.i64 (t9 - t6), h0, ())) fun (y : Bool × Unit) =>
   bif Prod.fst y then
    bif decide (t9 > t7) then bif decide (List.length h1 + List.length (List.set (List.replicate 1 0) 0 t9) ≤ 2147483648) then T50_0 t0 t6 t7 (IntKind.wrap IntKind.i64 (t9 + 1)) h0 (h1 ++ List.set (List.replicate 1 0) 0 t9) k else none
    else
     bif decide (0 ≤ t7) && decide (t7 < (↑(List.length t0) : Int)) then
      bif decide (0 ≤ IntKind.wrap IntKind.i64 (t7 - 1)) && decide (IntKind.wrap IntKind.i64 (t7 - 1) < (↑(List.length t0) : Int)) then
       bif decide (List.getD t0 (Int.toNat t7) 0 > List.getD t0 (Int.toNat (IntKind.wrap IntKind.i64 (t7 - 1))) 0) then bif decide (List.length h1 + List.length (List.set (List.replicate 1 0) 0 t9) ≤ 2147483648) then T50_0 t0 t6 t7 (IntKind.wrap IntKind.i64 (t9 + 1)) h0 (h1 ++ List.set (List.replicate 1 0) 0 t9) k else none
       else T50_0 t0 t6 t7 (IntKind.wrap IntKind.i64 (t9 + 1)) h0 h1 k
      else none
     else none
   else T50_0 t0 t6 t7 (IntKind.wrap IntKind.i64 (t9 + 1)) h0 h1 k
 else some (h1, ()) : Option (denL [(.slice (.int .i64))])) = some y) : Ev fun k => T50_0 t0 t6 t7 t9 h0 h1 k = some y := U50_0 _ _ _ _ _ _ (Ev.eq (fun _ => Q50_0 _ _ _ _ _ _ _) h)
theorem N50 (t0 : (List Int)) (t1 : Sp) {y : denL [(.slice (.int .i64))]} (h : Ev fun k =>
 (Option.bind (F40 (t0, ())) fun (y : List Int × Unit) =>
 bif (↑(List.length (Prod.fst y)) : Int) == 0 then some ([], ())
 else
   bif decide (0 ≤ IntKind.wrap IntKind.i64 ((↑(List.length (Prod.fst y)) : Int) - 1)) && decide (IntKind.wrap IntKind.i64 ((↑(List.length (Prod.fst y)) : Int) - 1) < (↑(List.length (Prod.fst y)) : Int)) then
    T50_0 t0 (List.getD (Prod.fst y) (Int.toNat (IntKind.wrap IntKind.i64 ((↑(List.length (Prod.fst y)) : Int) - 1))) 0) (IntKind.wrap IntKind.i64 ((↑(List.length t0) : Int) - 1)) (IntKind.wrap IntKind.i64 ((↑(List.length t0) : Int) - 1)) t1 ([]) k
   else none : Option (denL [(.slice (.int .i64))])) = some y) : F50 (t0, (t1, ())) = some y := ghost_eq (Ev.eq (fun _ => E50 _ _ _) h)
theorem N49 (t0 : (List Int)) (t1 : Int) (t2 : Sp) (t3 : Int) {y : denL [.bool]} (h : Ev fun _ =>
 (bif decide (0 ≤ t1) && decide (t1 < (↑(List.length t0) : Int)) then
 Option.bind (F42 (List.getD t0 (Int.toNat t1) 0, t2, ())) fun (y : Bool × Unit) =>
   bif !Prod.fst y then some (false, ())
   else
    bif t3 == 1 then
     bif decide (t1 > 0) then
      bif decide (0 ≤ t1) && decide (t1 < (↑(List.length t0) : Int)) then
       bif decide (0 ≤ if IntKind.wrap IntKind.i64 (t1 - 1) > 0 then IntKind.wrap IntKind.i64 (t1 - 1) else 0) && decide ((if IntKind.wrap IntKind.i64 (t1 - 1) > 0 then IntKind.wrap IntKind.i64 (t1 - 1) else 0) < (↑(List.length t0) : Int)) then
        some (decide (List.getD t0 (Int.toNat t1) 0 > List.getD t0 (Int.toNat (if IntKind.wrap IntKind.i64 (t1 - 1) > 0 then IntKind.wrap IntKind.i64 (t1 - 1) else 0)) 0), ())
       else none
      else none
     else some (false, ())
    else
     bif t3 == 2 then
      bif decide (t1 > 0) then
       bif decide (0 ≤ t1) && decide (t1 < (↑(List.length t0) : Int)) then
        bif decide (0 ≤ if IntKind.wrap IntKind.i64 (t1 - 1) > 0 then IntKind.wrap IntKind.i64 (t1 - 1) else 0) && decide ((if IntKind.wrap IntKind.i64 (t1 - 1) > 0 then IntKind.wrap IntKind.i64 (t1 - 1) else 0) < (↑(List.length t0) : Int)) then
         some (decide (List.getD t0 (Int.toNat t1) 0 < List.getD t0 (Int.toNat (if IntKind.wrap IntKind.i64 (t1 - 1) > 0 then IntKind.wrap IntKind.i64 (t1 - 1) else 0)) 0), ())
        else none
       else none
      else some (false, ())
     else some (true, ())
 else none : Option (denL [.bool])) = some y) : F49 (t0, (t1, (t2, (t3, ())))) = some y := ghost_eq (Ev.eq (fun _ => E49 _ _ _ _ _) h)
end Go.Proofs.YtkbephbhajplhaaDoor
/- The reference's 'Turns', 'Gaps' and 'Next' are the program's. Conditions: as each lemma states. -/
namespace Go.Proofs.YtkbephbhajplhaaDoor
open Go Go.Gh Go.Proofs
theorem L41 (l : List Int) (h1 : 1 ≤ l.length) (hl : l.length < 1000000) : F41 ((l, ()) : List Int × Unit) = some (numsL (isBot l.length l) l.length, ()) := by
 refine N41 _ ?_
 have key : ∀ (c i : Nat), i + c = l.length → 1 ≤ i → Ev fun k => T41_0 l i (numsL (isBot l.length l) i) k = some (numsL (isBot l.length l) l.length, ()) := by
  intro c
  induction c with
  | zero =>
   intro i hi h1
   obtain rfl : i = l.length := by omega
   refine R41_0 _ _ _ ?_
   rw [wrap_succ (n := l.length) (by omega), dec_f (by omega)]
   exact Ev.all fun _ => rfl
  | succ c ih =>
   intro i hi h1
   have ih := ih (i + 1) (by omega) (by omega)
   have hs := numsL_succ (isBot l.length l) i
   have hln := numsL_len (isBot l.length l) i
   by_cases h2 : i + 1 < l.length
   ·have hm := isBot_mid (t := l) (show 0 < i by omega) h2
    refine R41_0 _ _ _ ?_
    rw [wrap_succ (n := i) (by omega), wrap_pred (n := i) (by omega) h1, dec_t (show ((i + 1 : Nat) : Int) < (l.length : Int) by omega), dec_t (show (0 : Int) ≤ (i : Int) by omega), dec_t (show (i : Int) < (l.length : Int) by omega), dec_t (show (0 : Int) ≤ ((i - 1 : Nat) : Int) by omega), dec_t (show ((i - 1 : Nat) : Int) < (l.length : Int) by omega), dec_t (show (0 : Int) ≤ ((i + 1 : Nat) : Int) by omega), Int.toNat_natCast, Int.toNat_natCast, Int.toNat_natCast, one_set, dec_t (show (numsL (isBot l.length l) i).length + [(i : Int)].length ≤ 2147483648 by simp; omega)]
    simp only [Bool.and_self, cond_true]
    cases ha : decide (l.getD i 0 < l.getD (i - 1) 0) with
    | false =>
     rw [ha, Bool.false_and] at hm
     rw [hm, if_neg (by simp)] at hs
     rw [hs] at ih
     exact ih
    | true =>
     rw [ha, Bool.true_and] at hm
     cases hb : decide (l.getD i 0 < l.getD (i + 1) 0) with
     | false =>
      rw [hb] at hm
      rw [hm, if_neg (by simp)] at hs
      rw [hs] at ih
      exact ih
     | true =>
      rw [hb] at hm
      rw [hm, if_pos rfl] at hs
      rw [hs] at ih
      exact ih
   ·refine R41_0 _ _ _ ?_
    rw [wrap_succ (n := i) (by omega), dec_f (show ¬ ((i + 1 : Nat) : Int) < (l.length : Int) by omega), show l.length = i + (c + 1) by omega, numsL_stop fun j hj => isBot_end (by omega)]
    exact Ev.all fun _ => rfl
 have h0 : numsL (isBot l.length l) 1 = [] := by
  rw [numsL_succ]
  have : isBot l.length l 0 = false := by simp [isBot]
  rw [this]; rfl
 have := key (l.length - 1) 1 (by omega) (Nat.le_refl _)
 rw [h0] at this
 exact this
theorem L44 (l : List Int) (x : Int) (hl : l.length < 1000000) : F44 ((l, x, ()) : List Int × Int × Unit) = some (decide (x ∈ l), ()) := by
 refine N44 _ _ ?_
 have key : ∀ (c i : Nat), i + c = l.length → Ev fun k => T44_0 l x i k = some (decide (x ∈ l.drop i), ()) := by
  intro c
  induction c with
  | zero =>
   intro i hi
   refine R44_0 _ _ _ ?_
   rw [dec_f (by omega), List.drop_eq_nil_of_le (by omega)]
   exact Ev.all fun _ => rfl
  | succ c ih =>
   intro i hi
   have hlt : i < l.length := by omega
   refine R44_0 _ _ _ ?_
   rw [dec_t (show (i : Int) < (l.length : Int) by omega), dec_t (show (0 : Int) ≤ (i : Int) by omega), Int.toNat_natCast, getD_lt hlt, wrap_succ (n := i) (by omega), List.drop_eq_getElem_cons hlt]
   simp only [Bool.and_self, cond_true]
   by_cases he : l[i] = x
   ·rw [show (l[i] == x) = true from beq_iff_eq.2 he, dec_t (by rw [he]; simp)]
    exact Ev.all fun _ => rfl
   ·have : decide (x ∈ l[i] :: l.drop (i + 1)) = decide (x ∈ l.drop (i + 1)) := by
     rw [Bool.eq_iff_iff, decide_eq_true_eq, decide_eq_true_eq, List.mem_cons]
     exact ⟨fun h => h.resolve_left fun h => he h.symm, .inr⟩
    rw [show (l[i] == x) = false from beq_eq_false_iff_ne.2 he, this]
    exact ih (i + 1) (by omega)
 have := key l.length 0 (by omega)
 rw [List.drop_zero] at this
 exact this
theorem mem_nums {p : Nat → Bool} {k n : Nat} (h : ∀ j, k ≤ j → p j = false) : decide ((n : Int) ∈ numsL p k) = p n := by
 rw [Bool.eq_iff_iff, decide_eq_true_eq, numsL_mem]
 constructor
 ·rintro ⟨m, _, h2, h3⟩
  have : m = n := by omega
  exact this ▸ h2
 ·intro hp
  refine ⟨n, ?_, hp, rfl⟩
  by_cases hk : n < k
  ·exact hk
  ·rw [h n (by omega)] at hp; cases hp
theorem isBot_pad {n : Nat} {q : List Int} (hq : q.length = n) (i : Nat) : isBot n (pad q) i = isBot n q i := by
 by_cases h1 : 0 < i ∧ i + 1 < n
 ·have g : ∀ j, j < n → (pad q).getD j 0 = q.getD j 0 := fun j hj => by
   unfold pad
   rw [List.getD_eq_getElem?_getD, List.getD_eq_getElem?_getD, List.getElem?_append_left (by omega)]
  rw [isBot_mid h1.1 h1.2, isBot_mid h1.1 h1.2, g i (by omega), g (i - 1) (by omega), g (i + 1) (by omega)]
 ·unfold isBot
  have : (decide (0 < i) && decide (i + 1 < n)) = false := by
   rw [Bool.and_eq_false_iff, decide_eq_false_iff_not, decide_eq_false_iff_not]; omega
  rw [this]; rfl
theorem countP_eq {α : Type} {p q : α → Bool} {l : List α} (h : ∀ a ∈ l, p a = q a) : l.countP p = l.countP q := by
 rw [List.countP_eq_length_filter, List.countP_eq_length_filter, List.filter_congr h]
def gapsL : List Nat → List Int
 | a :: b :: r => ((b : Int) - (a : Int)) :: gapsL (b :: r)
 | _ => []
theorem gapW_fold : ∀ (r : List Nat) (C : Sp) (a : Nat), gapW C (a : Int) r = (gapsL (a :: r)).foldl wide C
 | [], C, a => rfl
 | b :: r, C, a => by
  simp only [gapW, gapsL, List.foldl_cons]
  rw [if_neg (by omega), gapW_fold r _ b]
theorem gapW_all (C : Sp) (T : List Nat) : gapW C (-1) T = (gapsL T).foldl wide C := by
 cases T with
 | nil => rfl
 | cons a T =>
  simp only [gapW]
  rw [if_pos (by omega), gapW_fold]
theorem gapsL_bd : ∀ {T : List Nat}, T.Pairwise (· < ·) → (∀ v ∈ T, v < 1000000) → ∀ v ∈ gapsL T, 0 ≤ v ∧ v ≤ 1000000
 | [], _, _, v, h => by simp [gapsL] at h
 | [_], _, _, v, h => by simp [gapsL] at h
 | a :: b :: r, hp, hb, v, h => by
  rw [List.pairwise_cons] at hp
  simp only [gapsL, List.mem_cons] at h
  rcases h with rfl | h
  ·have h1 := hp.1 b (by simp)
   have h2 := hb b (by simp)
   omega
  ·exact gapsL_bd hp.2 (fun v hv => hb v (by simp [hv])) v h
theorem tops_pair (n : Nat) (l : List Int) : (topsFrom n l 0).Pairwise (· < ·) := by
 unfold topsFrom
 exact List.Pairwise.filter _ (List.pairwise_lt_range' ..)
theorem tops_len (n : Nat) (l : List Int) : (topsFrom n l 0).length ≤ n := by
 unfold topsFrom
 refine Nat.le_trans (List.length_filter_le _ _) ?_
 simp
theorem foldl_flat {α : Type} (f : α → List Int) : ∀ (l : List α) (C : Sp), (l.flatMap f).foldl wide C = l.foldl (fun C t => (f t).foldl wide C) C
 | [], _ => rfl
 | a :: l, C => by rw [List.flatMap_cons, List.foldl_append, foldl_flat f l, List.foldl_cons]
end Go.Proofs.YtkbephbhajplhaaDoor
/- The reference's 'Next' and 'Wreck' are the program's. Conditions: as each lemma states. -/
namespace Go.Proofs.YtkbephbhajplhaaDoor
open Go Go.Gh Go.Proofs
theorem wide_spec (x : Sp) (n : Int) : ((wide x n).1 = n ∧ n < x.1 ∨ (wide x n).1 = x.1 ∧ ¬ n < x.1) ∧ ((wide x n).2.1 = n ∧ n > x.2.1 ∨ (wide x n).2.1 = x.2.1 ∧ ¬ n > x.2.1) := by
 unfold wide
 simp only
 constructor
 ·by_cases h : n < x.1
  ·rw [if_pos h]; exact .inl ⟨rfl, h⟩
  ·rw [if_neg h]; exact .inr ⟨rfl, h⟩
 ·by_cases h : n > x.2.1
  ·rw [if_pos h]; exact .inl ⟨rfl, h⟩
  ·rw [if_neg h]; exact .inr ⟨rfl, h⟩
theorem sp_ext {x y : Sp} (h1 : x.1 = y.1) (h2 : x.2.1 = y.2.1) : x = y := Prod.ext h1 (Prod.ext h2 rfl)
theorem fold_upto (C : Sp) : ∀ (d : Nat) (lo hi : Int), lo + d = hi → (Few.upto lo (hi + 1)).foldl wide C = wide (wide C lo) hi
 | 0, lo, hi, h => by
  have : Few.upto lo (hi + 1) = [lo] := by
   rw [Few.upto_cons (by omega), Few.upto_nil (by omega)]
  rw [this, List.foldl_cons, List.foldl_nil]
  have h1 := wide_spec C lo
  have h2 := wide_spec (wide C lo) hi
  exact sp_ext (by omega) (by omega)
 | d + 1, lo, hi, h => by
  have hu : Few.upto lo (hi + 1) = Few.upto lo (hi - 1 + 1) ++ [hi] := by
   unfold Few.upto
   rw [show (hi + 1 - lo).toNat = (hi - 1 + 1 - lo).toNat + 1 by omega, List.range_succ, List.map_append]
   simp only [List.map_cons, List.map_nil]
   congr 2
   omega
  rw [hu, List.foldl_append, fold_upto C d lo (hi - 1) (by omega), List.foldl_cons, List.foldl_nil]
  have h1 := wide_spec C lo
  have h2 := wide_spec (wide C lo) hi
  have h3 := wide_spec (wide C lo) (hi - 1)
  have h4 := wide_spec (wide (wide C lo) (hi - 1)) hi
  exact sp_ext (by omega) (by omega)
theorem filter_upto (lo b : Int) : ∀ (d : Nat) (a : Int), a + d = lo → (Few.upto a b).filter (fun v => decide (lo ≤ v)) = Few.upto lo b
 | 0, a, h => by
  obtain rfl : a = lo := by omega
  rw [List.filter_eq_self]
  intro v hv
  rw [Few.mem_upto] at hv
  rw [decide_eq_true_eq]; exact hv.1
 | d + 1, a, h => by
  by_cases hab : a < b
  ·rw [Few.upto_cons hab, List.filter_cons, dec_f (show ¬ lo ≤ a by omega), if_neg (by simp)]
   exact filter_upto lo b d (a + 1) (by omega)
  ·rw [Few.upto_nil (by omega), Few.upto_nil (by omega)]; rfl
def okNext (s : Se) (q : List Int) (top y : Int) : Bool := inGap s.2.2.1 (y - top) && (decide (y > ((q.length - 1 : Nat) : Int)) || decide (q.getD (q.length - 1) 0 > q.getD (q.length - 2) 0))
def nextsL (s : Se) (q : List Int) : List Int := match (topsFrom q.length q 0).getLast? with
 | none => []
 | some top => (Few.upto ((q.length - 1 : Nat) : Int) ((top : Int) + s.2.2.1.2.1 + 1)).filter (okNext s q top)
theorem L50 (s : Se) (hs : VS s) (q : List Int) (hq : q.length = s.1.length) : F50 ((q, s.2.2.1, ()) : List Int × Sp × Unit) = some (nextsL s q, ()) := by
 have h7 := hs.hi
 have h3 := hs.lo
 have hg := hs.gap
 refine N50 _ _ ?_
 rw [L40 _ (by omega) (by omega), nums_tops]
 simp only [Option.bind_some]
 unfold nextsL
 have tlt : ∀ v ∈ topsFrom q.length q 0, v < q.length := fun v hv => tops_lt hv
 have tlen := tops_len q.length q
 generalize topsFrom q.length q 0 = T at tlt tlen
 cases hT : T.getLast? with
 | none =>
  rw [List.getLast?_eq_none_iff] at hT
  subst hT
  exact Ev.all fun _ => rfl
 | some top =>
  have htop := tlt top (List.mem_of_getLast? hT)
  have hpos : 0 < T.length := by
   cases T with
   | nil => cases hT
   | cons a T => simp
  have hl : (T.map fun v : Nat => (v : Int)).getD (T.length - 1) 0 = (top : Int) := by
   rw [List.getLast?_eq_getElem?] at hT
   rw [List.getD_eq_getElem?_getD, List.getElem?_map, hT]; rfl
  rw [List.length_map, show ((T.length : Int) == 0) = false from beq_eq_false_iff_ne.2 (by omega), wrap_pred (n := T.length) (by omega) (by omega), dec_t (show (0 : Int) ≤ ((T.length - 1 : Nat) : Int) by omega), dec_t (show ((T.length - 1 : Nat) : Int) < (T.length : Int) by omega), Int.toNat_natCast, hl, wrap_pred (n := q.length) (by omega) (by omega)]
  simp only [Bool.and_self, cond_true, cond_false]
  have key : ∀ (c : Nat) (y : Int) (Q : List Int), (q.length - 1 : Nat) ≤ y → (y + c = (top : Int) + s.2.2.1.2.1 + 1 ∨ c = 0 ∧ y ≥ (top : Int) + s.2.2.1.2.1 + 1) → y ≤ 20 → Q.length ≤ y.toNat → Ev fun k => T50_0 q top ((q.length - 1 : Nat) : Int) y s.2.2.1 Q k = some (Q ++ (Few.upto y ((top : Int) + s.2.2.1.2.1 + 1)).filter (okNext s q top), ()) := by
   intro c
   induction c with
   | zero =>
    intro y Q hy hc h20 hQ
    refine R50_0 _ _ _ _ _ _ ?_
    rw [wrap_id (x := (top : Int) + s.2.2.1.2.1) (by omega) (by omega), dec_f (by omega), Few.upto_nil (by omega)]
    simp only [List.filter_nil, List.append_nil]
    exact Ev.all fun _ => rfl
   | succ c ih =>
    intro y Q hy hc h20 hQ
    have hy0 : 0 ≤ y := by omega
    refine R50_0 _ _ _ _ _ _ ?_
    rw [wrap_id (x := (top : Int) + s.2.2.1.2.1) (by omega) (by omega), dec_t (show y ≤ (top : Int) + s.2.2.1.2.1 by omega), wrap_id (x := y - (top : Int)) (by omega) (by omega), L42, Few.upto_cons (show y < (top : Int) + s.2.2.1.2.1 + 1 by omega), List.filter_cons, wrap_id (x := y + 1) (by omega) (by omega), one_set, dec_t (show Q.length + [y].length ≤ 2147483648 by simp only [List.length_cons, List.length_nil]; omega),
     dec_t (show (0 : Int) ≤ ((q.length - 1 : Nat) : Int) by omega), dec_t (show ((q.length - 1 : Nat) : Int) < (q.length : Int) by omega), wrap_pred (n := q.length - 1) (by omega) (by omega), dec_t (show (0 : Int) ≤ ((q.length - 1 - 1 : Nat) : Int) by omega), dec_t (show ((q.length - 1 - 1 : Nat) : Int) < (q.length : Int) by omega), Int.toNat_natCast, Int.toNat_natCast, show q.length - 1 - 1 = q.length - 2 by omega]
    simp only [Bool.and_self, cond_true, Option.bind_some]
    have i1 := ih (y + 1) (Q ++ [y]) (by omega) (by omega) (by omega) (by simp only [List.length_append, List.length_cons, List.length_nil]; omega)
    have i2 := ih (y + 1) Q (by omega) (by omega) (by omega) (by omega)
    rw [List.append_assoc] at i1
    rw [show okNext s q top y = (inGap s.2.2.1 (y - (top : Int)) && (decide (y > ((q.length - 1 : Nat) : Int)) || decide (q.getD (q.length - 1) 0 > q.getD (q.length - 2) 0))) from rfl]
    cases inGap s.2.2.1 (y - (top : Int)) with
    | false => exact i2
    | true =>
     cases decide (y > ((q.length - 1 : Nat) : Int)) with
     | true => exact i1
     | false =>
      cases decide (q.getD (q.length - 1) 0 > q.getD (q.length - 2) 0) with
      | true => exact i1
      | false => exact i2
  by_cases hy : ((q.length - 1 : Nat) : Int) ≤ (top : Int) + s.2.2.1.2.1 + 1
  ·exact key ((top : Int) + s.2.2.1.2.1 + 1 - ((q.length - 1 : Nat) : Int)).toNat ((q.length - 1 : Nat) : Int) [] (Int.le_refl _) (by omega) (by omega) (by simp)
  ·exact key 0 ((q.length - 1 : Nat) : Int) [] (Int.le_refl _) (by omega) (by omega) (by simp)
theorem nexts_fold {s : Se} (hs : VS s) {q : List Int} (hq : q.length = s.1.length) (C : Sp) : nextW s C (pad q) = (nextsL s q).foldl wide C := by
 have h7 := hs.hi
 have h3 := hs.lo
 have hg := hs.gap
 unfold nextW nextsL lastT
 rw [tops_pad hq, hq]
 have tlt : ∀ v ∈ topsFrom s.1.length q 0, v < s.1.length := fun v hv => tops_lt hv
 cases hT : (topsFrom s.1.length q 0).getLast? with
 | none =>
  simp only
  rw [if_pos (by omega)]; rfl
 | some top =>
  have htop := tlt top (List.mem_of_getLast? hT)
  simp only
  rw [if_neg (by omega)]
  have g : ∀ j, j < s.1.length → (pad q).getD j 0 = q.getD j 0 := fun j hj => by
   unfold pad
   rw [List.getD_eq_getElem?_getD, List.getD_eq_getElem?_getD, List.getElem?_append_left (by omega)]
  rw [g (s.1.length - 1) (by omega), g (s.1.length - 2) (by omega)]
  have hlo : ∃ lo : Int, maxI ((top : Int) + s.2.2.1.1) (if q.getD (s.1.length - 1) 0 > q.getD (s.1.length - 2) 0 then ((s.1.length - 1 : Nat) : Int) else (s.1.length : Int)) = lo ∧ ((s.1.length - 1 : Nat) : Int) ≤ lo ∧ ∀ y, ((s.1.length - 1 : Nat) : Int) ≤ y → y < (top : Int) + s.2.2.1.2.1 + 1 → okNext s q top y = decide (lo ≤ y) := by
   refine ⟨_, rfl, ?_, fun y h1 h2 => ?_⟩
   ·unfold maxI
    split <;> split <;> omega
   ·unfold okNext inGap maxI
    rw [hq, Bool.eq_iff_iff]
    by_cases hr : q.getD (s.1.length - 1) 0 > q.getD (s.1.length - 2) 0
    ·rw [dec_t hr, if_pos hr]
     simp only [Bool.and_eq_true, decide_eq_true_eq, Bool.or_true, and_true]
     split <;> omega
    ·rw [dec_f hr, if_neg hr]
     simp only [Bool.and_eq_true, decide_eq_true_eq, Bool.or_false]
     split <;> omega
  obtain ⟨lo, e1, e2, e3⟩ := hlo
  rw [e1]
  have hf : (Few.upto ((s.1.length - 1 : Nat) : Int) ((top : Int) + s.2.2.1.2.1 + 1)).filter (okNext s q top) = Few.upto lo ((top : Int) + s.2.2.1.2.1 + 1) := by
   rw [← filter_upto lo _ (lo - ((s.1.length - 1 : Nat) : Int)).toNat ((s.1.length - 1 : Nat) : Int) (by omega)]
   refine List.filter_congr fun y hy => ?_
   rw [Few.mem_upto] at hy
   exact e3 y hy.1 hy.2
  rw [hf]
  by_cases hle : lo ≤ (top : Int) + s.2.2.1.2.1
  ·rw [if_pos hle, fold_upto C ((top : Int) + s.2.2.1.2.1 - lo).toNat lo _ (by omega)]
  ·rw [if_neg hle, Few.upto_nil (by omega)]; rfl
theorem nexts_bd {s : Se} (hs : VS s) {q : List Int} (hq : q.length = s.1.length) : (nextsL s q).length ≤ 20 ∧ ∀ v ∈ nextsL s q, 0 ≤ v ∧ v ≤ 1000000 := by
 have h7 := hs.hi
 have h3 := hs.lo
 have hg := hs.gap
 unfold nextsL
 have tlt : ∀ v ∈ topsFrom q.length q 0, v < q.length := fun v hv => tops_lt hv
 cases hT : (topsFrom q.length q 0).getLast? with
 | none => simp
 | some top =>
  have htop := tlt top (List.mem_of_getLast? hT)
  simp only
  refine ⟨Nat.le_trans (List.length_filter_le _ _) (by rw [Few.upto_len]; omega), fun v hv => ?_⟩
  have := (List.mem_filter.1 hv).1
  rw [Few.mem_upto] at this
  omega
theorem L49 (q : List Int) (m : Nat) (x : Sp) (seen : Nat) (hm : m < q.length) (h7 : q.length ≤ 7) (hs : seen ≤ 2) (hb : ∀ v ∈ q, 0 ≤ v ∧ v ≤ 99) : F49 ((q, (m : Int), x, (seen : Int), ()) : List Int × Int × Sp × Int × Unit) = some (metAt x seen q m, ()) := by
 refine N49 _ _ _ _ ?_
 rw [dec_t (show (0 : Int) ≤ (m : Int) by omega), dec_t (show (m : Int) < (q.length : Int) by omega), Int.toNat_natCast, L42]
 simp only [Bool.and_self, cond_true, Option.bind_some]
 unfold metAt metP
 cases inGap x (q.getD m 0) with
 | false => exact Ev.all fun _ => rfl
 | true =>
  have h3 : seen = 0 ∨ seen = 1 ∨ seen = 2 := by omega
  have hx : ∀ j, j < q.length → 0 ≤ q.getD j 0 := fun j hj => by rw [getD_lt hj]; exact (hb _ (List.getElem_mem hj)).1
  rcases h3 with rfl | rfl | rfl
  ·exact Ev.all fun _ => rfl
  ·rw [show (((1 : Nat) : Int) == 1) = true from rfl]
   simp only [Bool.not_true, cond_false, cond_true, Bool.true_and]
   by_cases h0 : m = 0
   ·subst h0
    rw [dec_f (show ¬ ((0 : Nat) : Int) > 0 by omega), if_pos rfl, dec_f (show ¬ (-1 : Int) ≥ 0 by omega)]
    exact Ev.all fun _ => rfl
   ·have e : (if IntKind.wrap IntKind.i64 ((m : Int) - 1) > 0 then IntKind.wrap IntKind.i64 ((m : Int) - 1) else 0) = ((m - 1 : Nat) : Int) := by
     rw [wrap_pred (n := m) (by omega) (by omega)]; split <;> omega
    rw [e, dec_t (show (m : Int) > 0 by omega), dec_t (show (0 : Int) ≤ ((m - 1 : Nat) : Int) by omega), dec_t (show ((m - 1 : Nat) : Int) < (q.length : Int) by omega), Int.toNat_natCast, if_neg h0, dec_t (show q.getD (m - 1) 0 ≥ 0 from hx _ (by omega))]
    exact Ev.all fun _ => rfl
  ·rw [show (((2 : Nat) : Int) == 1) = false from rfl, show (((2 : Nat) : Int) == 2) = true from rfl]
   simp only [Bool.not_true, cond_false, cond_true, Bool.true_and]
   by_cases h0 : m = 0
   ·subst h0
    have := hx 0 hm
    rw [dec_f (show ¬ ((0 : Nat) : Int) > 0 by omega), if_pos rfl, dec_f (show ¬ (-1 : Int) > q.getD 0 0 by omega)]
    exact Ev.all fun _ => rfl
   ·have e : (if IntKind.wrap IntKind.i64 ((m : Int) - 1) > 0 then IntKind.wrap IntKind.i64 ((m : Int) - 1) else 0) = ((m - 1 : Nat) : Int) := by
     rw [wrap_pred (n := m) (by omega) (by omega)]; split <;> omega
    rw [e, dec_t (show (m : Int) > 0 by omega), dec_t (show (0 : Int) ≤ ((m - 1 : Nat) : Int) by omega), dec_t (show ((m - 1 : Nat) : Int) < (q.length : Int) by omega), Int.toNat_natCast, if_neg h0]
    exact Ev.all fun _ => rfl
theorem met_pad {s : Se} {q : List Int} (hq : q.length = s.1.length) (x : Sp) (seen i : Nat) (hi : i < s.1.length) : metAt x seen (pad q) i = metAt x seen q i := by
 have g : ∀ j, j < s.1.length → (pad q).getD j 0 = q.getD j 0 := fun j hj => by
  unfold pad
  rw [List.getD_eq_getElem?_getD, List.getD_eq_getElem?_getD, List.getElem?_append_left (by omega)]
 unfold metAt
 rw [g i hi]
 by_cases h0 : i = 0
 ·rw [if_pos h0, if_pos h0]
 ·rw [if_neg h0, if_neg h0, g (i - 1) (by omega)]
theorem any_congr' {α : Type} {p q : α → Bool} {l : List α} (h : ∀ a ∈ l, p a = q a) : l.any p = l.any q := by
 induction l with
 | nil => rfl
 | cons a l ih => rw [List.any_cons, List.any_cons, h a (by simp), ih fun b hb => h b (by simp [hb])]
end Go.Proofs.YtkbephbhajplhaaDoor
/- What the program's functions return of a series that has a truth, told by all truths. Conditions: as each lemma states. -/
namespace Go.Proofs.YtkbephbhajplhaaDoor
open Go Go.Gh Go.Proofs
structure Alv (s : Se) : Prop where
 ok : VS s
 some : truthsR s 0 ≠ []
theorem Alv.wf {s : Se} (h : Alv s) {t : List Int} (ht : t ∈ truthsR s 0) : t.length = s.1.length ∧ ∀ x ∈ t, 0 ≤ x ∧ x ≤ 99 := truthsR_wf h.ok ht
theorem Alv.at_ {s : Se} (h : Alv s) {t : List Int} (ht : t ∈ truthsR s 0) (i : Nat) : 0 ≤ t.getD i 0 ∧ t.getD i 0 ≤ 99 := by
 by_cases hi : i < t.length
 ·rw [getD_lt hi]; exact (h.wf ht).2 _ (List.getElem_mem hi)
 ·rw [List.getD_eq_getElem?_getD, List.getElem?_eq_none (by omega)]; simp
theorem Alv.err {s : Se} (h : Alv s) {l : List Int} (hl : ∀ x ∈ l, 0 ≤ x ∧ x < s.1.length) : errP s 0 l = 0 := by
 unfold errP
 rw [if_pos ((chkP_ok s).2 h.ok), if_neg, if_pos rfl, if_neg (fun e => h.some ((truths_none h.ok).1 e))]
 rw [Bool.not_eq_true, List.any_eq_false]
 intro x hx
 have := hl x hx
 unfold noYear
 rw [Bool.not_eq_true, Bool.or_eq_false_iff, decide_eq_false_iff_not, decide_eq_false_iff_not]
 omega
theorem Alv.hull {s : Se} (h : Alv s) (p : Nat) {q : Nat} (hq : q < s.1.length) : Hull ((truthsR s 0).map fun t => sumL t p q) (numsP s p q) := by
 have h7 := h.ok.hi
 rw [nums_ref h.ok hq]
 refine hull_none (by simpa using h.some) fun v hv => ?_
 rw [List.mem_map] at hv
 obtain ⟨t, h1, rfl⟩ := hv
 have := h.wf h1
 exact sumR_bd (by omega) this.2 p q
theorem Alv.sumbd {s : Se} (h : Alv s) {t : List Int} (ht : t ∈ truthsR s 0) (p q : Nat) : 0 ≤ sumL t p q ∧ sumL t p q ≤ 693 := by
 have h7 := h.ok.hi
 have hw := h.wf ht
 have h1 := sumI_bd (l := (t.take (q + 1)).drop p) fun x hx => hw.2 x (List.mem_of_mem_take (List.mem_of_mem_drop hx))
 have h2 : ((t.take (q + 1)).drop p).length ≤ 7 := by rw [List.length_drop, List.length_take]; omega
 unfold sumL; omega
theorem Alv.nums {s : Se} (h : Alv s) (p : Nat) {q : Nat} (hq : q < s.1.length) : (∃ t ∈ truthsR s 0, sumL t p q = (numsP s p q).1) ∧ (∃ t ∈ truthsR s 0, sumL t p q = (numsP s p q).2.1) ∧ (∀ t ∈ truthsR s 0, (numsP s p q).1 ≤ sumL t p q ∧ sumL t p q ≤ (numsP s p q).2.1) ∧ 0 ≤ (numsP s p q).1 ∧ (numsP s p q).1 ≤ (numsP s p q).2.1 ∧ (numsP s p q).2.1 ≤ 693 := by
 have hh := h.hull p hq
 have h1 := hh.lo
 have h2 := hh.hi
 rw [List.mem_map] at h1 h2
 obtain ⟨t, a1, e1⟩ := h1
 obtain ⟨u, a2, e2⟩ := h2
 have b1 := h.sumbd a1 p q
 have b2 := h.sumbd a2 p q
 have all : ∀ t ∈ truthsR s 0, (numsP s p q).1 ≤ sumL t p q ∧ sumL t p q ≤ (numsP s p q).2.1 := fun t ht => hh.all _ (List.mem_map_of_mem ht)
 have := all t a1
 exact ⟨⟨t, a1, e1⟩, ⟨u, a2, e2⟩, all, by omega, by omega, by omega⟩
theorem Alv.number {s : Se} (h : Alv s) {n : Nat} (hn : n < s.1.length) : numberP s (n : Int) = (numsP s n n, 0, ()) := by
 unfold numberP
 rw [if_pos (h.err fun x hx => by simp only [List.mem_singleton] at hx; omega), Int.toNat_natCast]
theorem Alv.one {s : Se} (h : Alv s) {n : Nat} (hn : n < s.1.length) : (∃ t ∈ truthsR s 0, t.getD n 0 = (numsP s n n).1) ∧ (∃ t ∈ truthsR s 0, t.getD n 0 = (numsP s n n).2.1) ∧ (∀ t ∈ truthsR s 0, (numsP s n n).1 ≤ t.getD n 0 ∧ t.getD n 0 ≤ (numsP s n n).2.1) ∧ 0 ≤ (numsP s n n).1 ∧ (numsP s n n).1 ≤ (numsP s n n).2.1 ∧ (numsP s n n).2.1 ≤ 99 := by
 obtain ⟨⟨t, a1, e1⟩, ⟨u, a2, e2⟩, all, h0, h1, _⟩ := h.nums n hn
 have g : ∀ t ∈ truthsR s 0, sumL t n n = t.getD n 0 := fun t ht => sumL_one (by rw [(h.wf ht).1]; exact hn)
 have b2 := h.at_ a2 n
 rw [g t a1] at e1
 rw [g u a2] at e2
 exact ⟨⟨t, a1, e1⟩, ⟨u, a2, e2⟩, fun t ht => by rw [← g t ht]; exact all t ht, h0, h1, by omega⟩
theorem Alv.mean {s : Se} (h : Alv s) {a b : Nat} (hab : a ≤ b) (hb : b < s.1.length) : meanP s (a : Int) (b : Int) = (lowP (numsP s a b).1 ((b - a + 1 : Nat) : Int), lowP (numsP s a b).2.1 ((b - a + 1 : Nat) : Int), 0, ()) := by
 have he : mErr s (a : Int) (b : Int) = 0 := by
  unfold mErr
  rw [if_neg (by omega)]
  exact h.err fun x hx => by simp only [List.mem_cons, List.not_mem_nil, or_false] at hx; omega
 unfold meanP
 rw [if_pos he, Int.toNat_natCast, Int.toNat_natCast, show (b : Int) - (a : Int) + 1 = ((b - a + 1 : Nat) : Int) by omega]
theorem Alv.turns {s : Se} (h : Alv s) {n : Nat} (hn : n < s.1.length) : turnsP s (n : Int) = (settledP ((truthsR s 0).countP (isTop s.1.length · n) : Nat) ((truthsR s 0).length : Nat), settledP ((truthsR s 0).countP (isBot s.1.length · n) : Nat) ((truthsR s 0).length : Nat), 0, ()) := by
 have e1 : (truthsP s 0).countP (isTop s.1.length · n) = (truthsR s 0).countP (isTop s.1.length · n) := by
  rw [truths_eq h.ok 0, List.countP_map]
  exact countP_eq fun t ht => isTop_pad (h.wf ht).1 n
 have e2 : (truthsP s 0).countP (isBot s.1.length · n) = (truthsR s 0).countP (isBot s.1.length · n) := by
  rw [truths_eq h.ok 0, List.countP_map]
  exact countP_eq fun t ht => isBot_pad (h.wf ht).1 n
 have e3 : (truthsP s 0).length = (truthsR s 0).length := by rw [truths_eq h.ok 0, List.length_map]
 unfold turnsP
 rw [if_pos (h.err fun x hx => by simp only [List.mem_singleton] at hx; omega), Int.toNat_natCast, e1, e2, e3]
def setB (R : List (List Int)) (p : List Int → Bool) : Int := settledP (R.countP p : Nat) (R.length : Nat)
theorem setB_must {R : List (List Int)} {p : List Int → Bool} : setB R p = 1 ↔ ∀ t ∈ R, p t = true := by
 unfold setB settledP
 rw [← List.countP_eq_length]
 constructor
 ·intro h
  by_cases hc : ((R.countP p : Nat) : Int) = (R.length : Nat)
  ·omega
  ·rw [if_neg hc] at h
   split at h <;> omega
 ·intro h; rw [if_pos (by omega)]
theorem setB_never {R : List (List Int)} (hR : R ≠ []) {p : List Int → Bool} : setB R p = 2 ↔ ∀ t ∈ R, p t = false := by
 have h0 : R.length ≠ 0 := fun h => hR (List.length_eq_zero_iff.1 h)
 unfold setB settledP
 constructor
 ·intro h
  by_cases hc : ((R.countP p : Nat) : Int) = (R.length : Nat)
  ·rw [if_pos hc] at h; omega
  ·rw [if_neg hc] at h
   by_cases hz : ((R.countP p : Nat) : Int) = 0
   ·intro t ht
    have := List.countP_eq_zero.1 (show R.countP p = 0 by omega) t ht
    simpa using this
   ·rw [if_neg hz] at h; omega
 ·intro h
  have : R.countP p = 0 := List.countP_eq_zero.2 fun t ht => by rw [h t ht]; simp
  rw [this, if_neg (by omega), if_pos (by omega)]
def gapsR (s : Se) : List Int := (truthsR s 0).flatMap fun t => gapsL (topsFrom s.1.length t 0)
theorem Alv.gaps {s : Se} (h : Alv s) : gapsP s = spanP ((gapsR s).foldl wide noneP) := by
 have he : errP s 0 [] = 0 := h.err fun x hx => by simp at hx
 unfold gapsP gapsR
 rw [if_pos he, truths_eq h.ok 0, List.foldl_map, foldl_flat]
 congr 1
 have : ∀ (l : List (List Int)) (C : Sp), (∀ t ∈ l, t.length = s.1.length) → l.foldl (fun x y => gapW x (-1) (topsFrom s.1.length (pad y) 0)) C = l.foldl (fun C t => (gapsL (topsFrom s.1.length t 0)).foldl wide C) C := by
  intro l
  induction l with
  | nil => intro C _; rfl
  | cons t l ih =>
   intro C h
   rw [List.foldl_cons, List.foldl_cons, gapW_all, tops_pad (h t (by simp)), ih _ fun u hu => h u (by simp [hu])]
 exact this _ _ fun t ht => (h.wf ht).1
theorem gapsR_bd {s : Se} (h7 : s.1.length ≤ 7) : ∀ v ∈ gapsR s, 0 ≤ v ∧ v ≤ 1000000 := fun v hv => by
 unfold gapsR at hv
 rw [List.mem_flatMap] at hv
 obtain ⟨t, _, hv⟩ := hv
 exact gapsL_bd (tops_pair _ _) (fun w hw => by have := tops_lt hw; omega) v hv
theorem spanH {l : List Int} (hb : ∀ v ∈ l, 0 ≤ v ∧ v ≤ 1000000) : (l = [] ∧ spanP (l.foldl wide noneP) = (sp0, 9, ())) ∨ ∃ x, spanP (l.foldl wide noneP) = (x, 0, ()) ∧ Hull l x := by
 by_cases hl : l = []
 ·subst hl; exact .inl ⟨rfl, rfl⟩
 ·have hh := hull_none hl hb
  refine .inr ⟨_, if_neg fun h => ?_, hh⟩
  have := hb _ hh.hi
  rw [h] at this
  exact absurd this.1 (by decide)
def nextsR (s : Se) : List Int := (truthsR s 0).flatMap (nextsL s)
theorem Alv.next {s : Se} (h : Alv s) : nextP s = spanP ((nextsR s).foldl wide noneP) := by
 have he : errP s 0 [] = 0 := h.err fun x hx => by simp at hx
 unfold nextP nextsR
 rw [if_pos he, truths_eq h.ok 0, List.foldl_map, foldl_flat]
 congr 1
 have : ∀ (l : List (List Int)) (C : Sp), (∀ t ∈ l, t.length = s.1.length) → l.foldl (fun x y => nextW s x (pad y)) C = l.foldl (fun C t => (nextsL s t).foldl wide C) C := by
  intro l
  induction l with
  | nil => intro C _; rfl
  | cons t l ih =>
   intro C ha
   rw [List.foldl_cons, List.foldl_cons, nexts_fold h.ok (ha t (by simp)), ih _ fun u hu => ha u (by simp [hu])]
 exact this _ _ fun t ht => (h.wf ht).1
theorem Alv.nextsR_bd {s : Se} (h : Alv s) : ∀ v ∈ nextsR s, 0 ≤ v ∧ v ≤ 1000000 := fun v hv => by
 unfold nextsR at hv
 rw [List.mem_flatMap] at hv
 obtain ⟨t, ht, hv⟩ := hv
 exact (nexts_bd h.ok (h.wf ht).1).2 v hv
theorem Alv.wreck {s : Se} (h : Alv s) (x : Sp) {seen : Nat} (hs : seen ≤ 2) (hx : endsP x 0 99 = 0) : wreckP s x (seen : Int) = (numsL (fun i => (truthsR s 0).any fun t => metAt x seen t i) s.1.length, 0, ()) := by
 have hw : wErr x (seen : Int) = 0 := by unfold wErr; rw [if_neg (by omega), hx]
 unfold wreckP
 rw [hw, if_pos (h.err fun x hx => by simp at hx), Int.toNat_natCast]
 congr 1
 refine numsL_congr fun i hi => ?_
 rw [truths_eq h.ok 0, List.any_map]
 exact any_congr' fun t ht => met_pad (h.wf ht).1 x seen i hi
end Go.Proofs.YtkbephbhajplhaaDoor
