/- The states at the cuts of the reference (b). Conditions: none (abbreviations). -/
import Derived.Test.YtkbephbhajplhaaDoorCyR
import Derived.Test.YtkbephbhajplhaaDoorGhI
import Derived.Test.YtkbephbhajplhaaDoorCyN
namespace Go.Proofs.YtkbephbhajplhaaDoor
open Go Go.Gh Go.Proofs
noncomputable abbrev T44_0 (t0 : (List Int)) (t1 : Int) (t5 : Int) (f : Nat) : Option (denL [.bool]) := iter cx22 S44 [.bool] 6000 f 0 K44_0 (((t0, (t1, (t5, ()))), ()), ())
theorem U44_0 (t0 : (List Int)) (t1 : Int) (t5 : Int) {y : denL [.bool]} (h : Ev fun k => seg cx22 S44 [.bool] 6000 some (iter cx22 S44 [.bool] 6000 k) 0 K44_0 (((t0, (t1, (t5, ()))), ()), ()) = some y) : Ev fun k => T44_0 t0 t1 t5 k = some y := iter_ev h
end Go.Proofs.YtkbephbhajplhaaDoor
/- The equations at the cuts of the reference, with the states' names (b). Conditions: none. (Printed by rest.py.) -/
namespace Go.Proofs.YtkbephbhajplhaaDoor
open Go Go.Gh Go.Proofs
theorem R44_0 (t0 : (List Int)) (t1 : Int) (t5 : Int) {y : denL [.bool]} (h : Ev fun k =>
 (bif decide (t5 < (↑(List.length t0) : Int)) then bif decide (0 ≤ t5) && decide (t5 < (↑(List.length t0) : Int)) then bif List.getD t0 (Int.toNat t5) 0 == t1 then some (true, ()) else T44_0 t0 t1 (IntKind.wrap IntKind.i64 (t5 + 1)) k else none else some (false, ()) : Option (denL [.bool])) = some y) : Ev fun k => T44_0 t0 t1 t5 k = some y := U44_0 _ _ _ (Ev.eq (fun _ => Q44_0 _ _ _ _) h)
theorem N44 (t0 : (List Int)) (t1 : Int) {y : denL [.bool]} (h : Ev fun k =>
 (T44_0 t0 t1 0 k : Option (denL [.bool])) = some y) : F44 (t0, (t1, ())) = some y := ghost_eq (Ev.eq (fun _ => E44 _ _ _) h)
end Go.Proofs.YtkbephbhajplhaaDoor
/- The reference's 'Turns', 'Gaps' and 'Next' are the program's. Conditions: as each lemma states. -/
namespace Go.Proofs.YtkbephbhajplhaaDoor
open Go Go.Gh Go.Proofs
theorem L44 (l : List Int) (x : Int) (hl : l.length < 1000000) : F44 ((l, x, ()) : List Int × Int × Unit) = some (decide (x ∈ l), ()) := by
 refine N44 _ _ ?_
 have key : ∀ (c i : Nat), i + c = l.length → Ev fun k => T44_0 l x i k = some (decide (x ∈ l.drop i), ()) := by
  intro c
  induction c with
  | zero =>
   intro i hi
   refine R44_0 _ _ _ ?_
   rw [dec_f (by omega), List.drop_eq_nil_of_le (by omega)]
   exact Ev.all fun _ => rfl
  | succ c ih =>
   intro i hi
   have hlt : i < l.length := by omega
   refine R44_0 _ _ _ ?_
   rw [dec_t (show (i : Int) < (l.length : Int) by omega), dec_t (show (0 : Int) ≤ (i : Int) by omega), Int.toNat_natCast, getD_lt hlt, wrap_succ (n := i) (by omega), List.drop_eq_getElem_cons hlt]
   simp only [Bool.and_self, cond_true]
   by_cases he : l[i] = x
   ·rw [show (l[i] == x) = true from beq_iff_eq.2 he, dec_t (by rw [he]; simp)]
    exact Ev.all fun _ => rfl
   ·have : decide (x ∈ l[i] :: l.drop (i + 1)) = decide (x ∈ l.drop (i + 1)) := by
     rw [Bool.eq_iff_iff, decide_eq_true_eq, decide_eq_true_eq, List.mem_cons]
     exact ⟨fun h => h.resolve_left fun h => he h.symm, .inr⟩
    rw [show (l[i] == x) = false from beq_eq_false_iff_ne.2 he, this]
    exact ih (i + 1) (by omega)
 have := key l.length 0 (by omega)
 rw [List.drop_zero] at this
 exact this
theorem isBot_pad {n : Nat} {q : List Int} (hq : q.length = n) (i : Nat) : isBot n (pad q) i = isBot n q i := by
 by_cases h1 : 0 < i ∧ i + 1 < n
 ·have g : ∀ j, j < n → (pad q).getD j 0 = q.getD j 0 := fun j hj => by
   unfold pad
   rw [List.getD_eq_getElem?_getD, List.getD_eq_getElem?_getD, List.getElem?_append_left (by omega)]
  rw [isBot_mid h1.1 h1.2, isBot_mid h1.1 h1.2, g i (by omega), g (i - 1) (by omega), g (i + 1) (by omega)]
 ·unfold isBot
  have : (decide (0 < i) && decide (i + 1 < n)) = false := by
   rw [Bool.and_eq_false_iff, decide_eq_false_iff_not, decide_eq_false_iff_not]; omega
  rw [this]; rfl
theorem countP_eq {α : Type} {p q : α → Bool} {l : List α} (h : ∀ a ∈ l, p a = q a) : l.countP p = l.countP q := by
 rw [List.countP_eq_length_filter, List.countP_eq_length_filter, List.filter_congr h]
def gapsL : List Nat → List Int
 | a :: b :: r => ((b : Int) - (a : Int)) :: gapsL (b :: r)
 | _ => []
theorem gapW_fold : ∀ (r : List Nat) (C : Sp) (a : Nat), gapW C (a : Int) r = (gapsL (a :: r)).foldl wide C
 | [], C, a => rfl
 | b :: r, C, a => by
  simp only [gapW, gapsL, List.foldl_cons]
  rw [if_neg (by omega), gapW_fold r _ b]
theorem gapW_all (C : Sp) (T : List Nat) : gapW C (-1) T = (gapsL T).foldl wide C := by
 cases T with
 | nil => rfl
 | cons a T =>
  simp only [gapW]
  rw [if_pos (by omega), gapW_fold]
theorem foldl_flat {α : Type} (f : α → List Int) : ∀ (l : List α) (C : Sp), (l.flatMap f).foldl wide C = l.foldl (fun C t => (f t).foldl wide C) C
 | [], _ => rfl
 | a :: l, C => by rw [List.flatMap_cons, List.foldl_append, foldl_flat f l, List.foldl_cons]
end Go.Proofs.YtkbephbhajplhaaDoor
/- The reference's 'Next' and 'Wreck' are the program's. Conditions: as each lemma states. -/
namespace Go.Proofs.YtkbephbhajplhaaDoor
open Go Go.Gh Go.Proofs
theorem wide_spec (x : Sp) (n : Int) : ((wide x n).1 = n ∧ n < x.1 ∨ (wide x n).1 = x.1 ∧ ¬ n < x.1) ∧ ((wide x n).2.1 = n ∧ n > x.2.1 ∨ (wide x n).2.1 = x.2.1 ∧ ¬ n > x.2.1) := by
 unfold wide
 simp only
 constructor
 ·by_cases h : n < x.1
  ·rw [if_pos h]; exact .inl ⟨rfl, h⟩
  ·rw [if_neg h]; exact .inr ⟨rfl, h⟩
 ·by_cases h : n > x.2.1
  ·rw [if_pos h]; exact .inl ⟨rfl, h⟩
  ·rw [if_neg h]; exact .inr ⟨rfl, h⟩
theorem sp_ext {x y : Sp} (h1 : x.1 = y.1) (h2 : x.2.1 = y.2.1) : x = y := Prod.ext h1 (Prod.ext h2 rfl)
theorem fold_upto (C : Sp) : ∀ (d : Nat) (lo hi : Int), lo + d = hi → (Few.upto lo (hi + 1)).foldl wide C = wide (wide C lo) hi
 | 0, lo, hi, h => by
  have : Few.upto lo (hi + 1) = [lo] := by
   rw [Few.upto_cons (by omega), Few.upto_nil (by omega)]
  rw [this, List.foldl_cons, List.foldl_nil]
  have h1 := wide_spec C lo
  have h2 := wide_spec (wide C lo) hi
  exact sp_ext (by omega) (by omega)
 | d + 1, lo, hi, h => by
  have hu : Few.upto lo (hi + 1) = Few.upto lo (hi - 1 + 1) ++ [hi] := by
   unfold Few.upto
   rw [show (hi + 1 - lo).toNat = (hi - 1 + 1 - lo).toNat + 1 by omega, List.range_succ, List.map_append]
   simp only [List.map_cons, List.map_nil]
   congr 2
   omega
  rw [hu, List.foldl_append, fold_upto C d lo (hi - 1) (by omega), List.foldl_cons, List.foldl_nil]
  have h1 := wide_spec C lo
  have h2 := wide_spec (wide C lo) hi
  have h3 := wide_spec (wide C lo) (hi - 1)
  have h4 := wide_spec (wide (wide C lo) (hi - 1)) hi
  exact sp_ext (by omega) (by omega)
theorem filter_upto (lo b : Int) : ∀ (d : Nat) (a : Int), a + d = lo → (Few.upto a b).filter (fun v => decide (lo ≤ v)) = Few.upto lo b
 | 0, a, h => by
  obtain rfl : a = lo := by omega
  rw [List.filter_eq_self]
  intro v hv
  rw [Few.mem_upto] at hv
  rw [decide_eq_true_eq]; exact hv.1
 | d + 1, a, h => by
  by_cases hab : a < b
  ·rw [Few.upto_cons hab, List.filter_cons, dec_f (show ¬ lo ≤ a by omega), if_neg (by simp)]
   exact filter_upto lo b d (a + 1) (by omega)
  ·rw [Few.upto_nil (by omega), Few.upto_nil (by omega)]; rfl
def okNext (s : Se) (q : List Int) (top y : Int) : Bool := inGap s.2.2.1 (y - top) && (decide (y > ((q.length - 1 : Nat) : Int)) || decide (q.getD (q.length - 1) 0 > q.getD (q.length - 2) 0))
def nextsL (s : Se) (q : List Int) : List Int := match (topsFrom q.length q 0).getLast? with
 | none => []
 | some top => (Few.upto ((q.length - 1 : Nat) : Int) ((top : Int) + s.2.2.1.2.1 + 1)).filter (okNext s q top)
theorem nexts_fold {s : Se} (hs : VS s) {q : List Int} (hq : q.length = s.1.length) (C : Sp) : nextW s C (pad q) = (nextsL s q).foldl wide C := by
 have h7 := hs.hi
 have h3 := hs.lo
 have hg := hs.gap
 unfold nextW nextsL lastT
 rw [tops_pad hq, hq]
 have tlt : ∀ v ∈ topsFrom s.1.length q 0, v < s.1.length := fun v hv => tops_lt hv
 cases hT : (topsFrom s.1.length q 0).getLast? with
 | none =>
  simp only
  rw [if_pos (by omega)]; rfl
 | some top =>
  have htop := tlt top (List.mem_of_getLast? hT)
  simp only
  rw [if_neg (by omega)]
  have g : ∀ j, j < s.1.length → (pad q).getD j 0 = q.getD j 0 := fun j hj => by
   unfold pad
   rw [List.getD_eq_getElem?_getD, List.getD_eq_getElem?_getD, List.getElem?_append_left (by omega)]
  rw [g (s.1.length - 1) (by omega), g (s.1.length - 2) (by omega)]
  have hlo : ∃ lo : Int, maxI ((top : Int) + s.2.2.1.1) (if q.getD (s.1.length - 1) 0 > q.getD (s.1.length - 2) 0 then ((s.1.length - 1 : Nat) : Int) else (s.1.length : Int)) = lo ∧ ((s.1.length - 1 : Nat) : Int) ≤ lo ∧ ∀ y, ((s.1.length - 1 : Nat) : Int) ≤ y → y < (top : Int) + s.2.2.1.2.1 + 1 → okNext s q top y = decide (lo ≤ y) := by
   refine ⟨_, rfl, ?_, fun y h1 h2 => ?_⟩
   ·unfold maxI
    split <;> split <;> omega
   ·unfold okNext inGap maxI
    rw [hq, Bool.eq_iff_iff]
    by_cases hr : q.getD (s.1.length - 1) 0 > q.getD (s.1.length - 2) 0
    ·rw [dec_t hr, if_pos hr]
     simp only [Bool.and_eq_true, decide_eq_true_eq, Bool.or_true, and_true]
     split <;> omega
    ·rw [dec_f hr, if_neg hr]
     simp only [Bool.and_eq_true, decide_eq_true_eq, Bool.or_false]
     split <;> omega
  obtain ⟨lo, e1, e2, e3⟩ := hlo
  rw [e1]
  have hf : (Few.upto ((s.1.length - 1 : Nat) : Int) ((top : Int) + s.2.2.1.2.1 + 1)).filter (okNext s q top) = Few.upto lo ((top : Int) + s.2.2.1.2.1 + 1) := by
   rw [← filter_upto lo _ (lo - ((s.1.length - 1 : Nat) : Int)).toNat ((s.1.length - 1 : Nat) : Int) (by omega)]
   refine List.filter_congr fun y hy => ?_
   rw [Few.mem_upto] at hy
   exact e3 y hy.1 hy.2
  rw [hf]
  by_cases hle : lo ≤ (top : Int) + s.2.2.1.2.1
  ·rw [if_pos hle, fold_upto C ((top : Int) + s.2.2.1.2.1 - lo).toNat lo _ (by omega)]
  ·rw [if_neg hle, Few.upto_nil (by omega)]; rfl
theorem nexts_bd {s : Se} (hs : VS s) {q : List Int} (hq : q.length = s.1.length) : (nextsL s q).length ≤ 20 ∧ ∀ v ∈ nextsL s q, 0 ≤ v ∧ v ≤ 1000000 := by
 have h7 := hs.hi
 have h3 := hs.lo
 have hg := hs.gap
 unfold nextsL
 have tlt : ∀ v ∈ topsFrom q.length q 0, v < q.length := fun v hv => tops_lt hv
 cases hT : (topsFrom q.length q 0).getLast? with
 | none => simp
 | some top =>
  have htop := tlt top (List.mem_of_getLast? hT)
  simp only
  refine ⟨Nat.le_trans (List.length_filter_le _ _) (by rw [Few.upto_len]; omega), fun v hv => ?_⟩
  have := (List.mem_filter.1 hv).1
  rw [Few.mem_upto] at this
  omega
theorem met_pad {s : Se} {q : List Int} (hq : q.length = s.1.length) (x : Sp) (seen i : Nat) (hi : i < s.1.length) : metAt x seen (pad q) i = metAt x seen q i := by
 have g : ∀ j, j < s.1.length → (pad q).getD j 0 = q.getD j 0 := fun j hj => by
  unfold pad
  rw [List.getD_eq_getElem?_getD, List.getD_eq_getElem?_getD, List.getElem?_append_left (by omega)]
 unfold metAt
 rw [g i hi]
 by_cases h0 : i = 0
 ·rw [if_pos h0, if_pos h0]
 ·rw [if_neg h0, if_neg h0, g (i - 1) (by omega)]
theorem any_congr' {α : Type} {p q : α → Bool} {l : List α} (h : ∀ a ∈ l, p a = q a) : l.any p = l.any q := by
 induction l with
 | nil => rfl
 | cons a l ih => rw [List.any_cons, List.any_cons, h a (by simp), ih fun b hb => h b (by simp [hb])]
end Go.Proofs.YtkbephbhajplhaaDoor
/- What the program's functions return of a series that has a truth, told by all truths. Conditions: as each lemma states. -/
namespace Go.Proofs.YtkbephbhajplhaaDoor
open Go Go.Gh Go.Proofs
structure Alv (s : Se) : Prop where
 ok : VS s
 some : truthsR s 0 ≠ []
def alvB (s : Se) : Bool := (chkP s).2.2.1 == 0 && decide (truthsR s 0 ≠ [])
theorem alvB_iff {s : Se} : alvB s = true ↔ Alv s := by
 unfold alvB
 rw [Bool.and_eq_true, beq_iff_eq, decide_eq_true_eq, chkP_ok]
 exact ⟨fun h => ⟨h.1, h.2⟩, fun h => ⟨h.ok, h.some⟩⟩
theorem Alv.wf {s : Se} (h : Alv s) {t : List Int} (ht : t ∈ truthsR s 0) : t.length = s.1.length ∧ ∀ x ∈ t, 0 ≤ x ∧ x ≤ 99 := truthsR_wf h.ok ht
theorem Alv.at_ {s : Se} (h : Alv s) {t : List Int} (ht : t ∈ truthsR s 0) (i : Nat) : 0 ≤ t.getD i 0 ∧ t.getD i 0 ≤ 99 := by
 by_cases hi : i < t.length
 ·rw [getD_lt hi]; exact (h.wf ht).2 _ (List.getElem_mem hi)
 ·rw [List.getD_eq_getElem?_getD, List.getElem?_eq_none (by omega)]; simp
theorem Alv.err {s : Se} (h : Alv s) {l : List Int} (hl : ∀ x ∈ l, 0 ≤ x ∧ x < s.1.length) : errP s 0 l = 0 := by
 unfold errP
 rw [if_pos ((chkP_ok s).2 h.ok), if_neg, if_pos rfl, if_neg (fun e => h.some ((truths_none h.ok).1 e))]
 rw [Bool.not_eq_true, List.any_eq_false]
 intro x hx
 have := hl x hx
 unfold noYear
 rw [Bool.not_eq_true, Bool.or_eq_false_iff, decide_eq_false_iff_not, decide_eq_false_iff_not]
 omega
theorem Alv.hull {s : Se} (h : Alv s) (p : Nat) {q : Nat} (hq : q < s.1.length) : Hull ((truthsR s 0).map fun t => sumL t p q) (numsP s p q) := by
 have h7 := h.ok.hi
 rw [nums_ref h.ok hq]
 refine hull_none (by simpa using h.some) fun v hv => ?_
 rw [List.mem_map] at hv
 obtain ⟨t, h1, rfl⟩ := hv
 have := h.wf h1
 exact sumR_bd (by omega) this.2 p q
theorem Alv.sumbd {s : Se} (h : Alv s) {t : List Int} (ht : t ∈ truthsR s 0) (p q : Nat) : 0 ≤ sumL t p q ∧ sumL t p q ≤ 693 := by
 have h7 := h.ok.hi
 have hw := h.wf ht
 have h1 := sumI_bd (l := (t.take (q + 1)).drop p) fun x hx => hw.2 x (List.mem_of_mem_take (List.mem_of_mem_drop hx))
 have h2 : ((t.take (q + 1)).drop p).length ≤ 7 := by rw [List.length_drop, List.length_take]; omega
 unfold sumL; omega
theorem Alv.nums {s : Se} (h : Alv s) (p : Nat) {q : Nat} (hq : q < s.1.length) : (∃ t ∈ truthsR s 0, sumL t p q = (numsP s p q).1) ∧ (∃ t ∈ truthsR s 0, sumL t p q = (numsP s p q).2.1) ∧ (∀ t ∈ truthsR s 0, (numsP s p q).1 ≤ sumL t p q ∧ sumL t p q ≤ (numsP s p q).2.1) ∧ 0 ≤ (numsP s p q).1 ∧ (numsP s p q).1 ≤ (numsP s p q).2.1 ∧ (numsP s p q).2.1 ≤ 693 := by
 have hh := h.hull p hq
 have h1 := hh.lo
 have h2 := hh.hi
 rw [List.mem_map] at h1 h2
 obtain ⟨t, a1, e1⟩ := h1
 obtain ⟨u, a2, e2⟩ := h2
 have b1 := h.sumbd a1 p q
 have b2 := h.sumbd a2 p q
 have all : ∀ t ∈ truthsR s 0, (numsP s p q).1 ≤ sumL t p q ∧ sumL t p q ≤ (numsP s p q).2.1 := fun t ht => hh.all _ (List.mem_map_of_mem ht)
 have := all t a1
 exact ⟨⟨t, a1, e1⟩, ⟨u, a2, e2⟩, all, by omega, by omega, by omega⟩
theorem Alv.number {s : Se} (h : Alv s) {n : Nat} (hn : n < s.1.length) : numberP s (n : Int) = (numsP s n n, 0, ()) := by
 unfold numberP
 rw [if_pos (h.err fun x hx => by simp only [List.mem_singleton] at hx; omega), Int.toNat_natCast]
theorem Alv.one {s : Se} (h : Alv s) {n : Nat} (hn : n < s.1.length) : (∃ t ∈ truthsR s 0, t.getD n 0 = (numsP s n n).1) ∧ (∃ t ∈ truthsR s 0, t.getD n 0 = (numsP s n n).2.1) ∧ (∀ t ∈ truthsR s 0, (numsP s n n).1 ≤ t.getD n 0 ∧ t.getD n 0 ≤ (numsP s n n).2.1) ∧ 0 ≤ (numsP s n n).1 ∧ (numsP s n n).1 ≤ (numsP s n n).2.1 ∧ (numsP s n n).2.1 ≤ 99 := by
 obtain ⟨⟨t, a1, e1⟩, ⟨u, a2, e2⟩, all, h0, h1, _⟩ := h.nums n hn
 have g : ∀ t ∈ truthsR s 0, sumL t n n = t.getD n 0 := fun t ht => sumL_one (by rw [(h.wf ht).1]; exact hn)
 have b2 := h.at_ a2 n
 rw [g t a1] at e1
 rw [g u a2] at e2
 exact ⟨⟨t, a1, e1⟩, ⟨u, a2, e2⟩, fun t ht => by rw [← g t ht]; exact all t ht, h0, h1, by omega⟩
theorem Alv.mean {s : Se} (h : Alv s) {a b : Nat} (hab : a ≤ b) (hb : b < s.1.length) : meanP s (a : Int) (b : Int) = (lowP (numsP s a b).1 ((b - a + 1 : Nat) : Int), lowP (numsP s a b).2.1 ((b - a + 1 : Nat) : Int), 0, ()) := by
 have he : mErr s (a : Int) (b : Int) = 0 := by
  unfold mErr
  rw [if_neg (by omega)]
  exact h.err fun x hx => by simp only [List.mem_cons, List.not_mem_nil, or_false] at hx; omega
 unfold meanP
 rw [if_pos he, Int.toNat_natCast, Int.toNat_natCast, show (b : Int) - (a : Int) + 1 = ((b - a + 1 : Nat) : Int) by omega]
theorem Alv.turns {s : Se} (h : Alv s) {n : Nat} (hn : n < s.1.length) : turnsP s (n : Int) = (settledP ((truthsR s 0).countP (isTop s.1.length · n) : Nat) ((truthsR s 0).length : Nat), settledP ((truthsR s 0).countP (isBot s.1.length · n) : Nat) ((truthsR s 0).length : Nat), 0, ()) := by
 have e1 : (truthsP s 0).countP (isTop s.1.length · n) = (truthsR s 0).countP (isTop s.1.length · n) := by
  rw [truths_eq h.ok 0, List.countP_map]
  exact countP_eq fun t ht => isTop_pad (h.wf ht).1 n
 have e2 : (truthsP s 0).countP (isBot s.1.length · n) = (truthsR s 0).countP (isBot s.1.length · n) := by
  rw [truths_eq h.ok 0, List.countP_map]
  exact countP_eq fun t ht => isBot_pad (h.wf ht).1 n
 have e3 : (truthsP s 0).length = (truthsR s 0).length := by rw [truths_eq h.ok 0, List.length_map]
 unfold turnsP
 rw [if_pos (h.err fun x hx => by simp only [List.mem_singleton] at hx; omega), Int.toNat_natCast, e1, e2, e3]
def setB (R : List (List Int)) (p : List Int → Bool) : Int := settledP (R.countP p : Nat) (R.length : Nat)
theorem setB_must {R : List (List Int)} {p : List Int → Bool} : setB R p = 1 ↔ ∀ t ∈ R, p t = true := by
 unfold setB settledP
 rw [← List.countP_eq_length]
 constructor
 ·intro h
  by_cases hc : ((R.countP p : Nat) : Int) = (R.length : Nat)
  ·omega
  ·rw [if_neg hc] at h
   split at h <;> omega
 ·intro h; rw [if_pos (by omega)]
theorem setB_never {R : List (List Int)} (hR : R ≠ []) {p : List Int → Bool} : setB R p = 2 ↔ ∀ t ∈ R, p t = false := by
 have h0 : R.length ≠ 0 := fun h => hR (List.length_eq_zero_iff.1 h)
 unfold setB settledP
 constructor
 ·intro h
  by_cases hc : ((R.countP p : Nat) : Int) = (R.length : Nat)
  ·rw [if_pos hc] at h; omega
  ·rw [if_neg hc] at h
   by_cases hz : ((R.countP p : Nat) : Int) = 0
   ·intro t ht
    have := List.countP_eq_zero.1 (show R.countP p = 0 by omega) t ht
    simpa using this
   ·rw [if_neg hz] at h; omega
 ·intro h
  have : R.countP p = 0 := List.countP_eq_zero.2 fun t ht => by rw [h t ht]; simp
  rw [this, if_neg (by omega), if_pos (by omega)]
theorem setB_in (R : List (List Int)) (p : List Int → Bool) : setB R p = 0 ∨ setB R p = 1 ∨ setB R p = 2 := by
 unfold setB settledP
 split
 ·exact .inr (.inl rfl)
 ·split
  ·exact .inr (.inr rfl)
  ·exact .inl rfl
def gapsR (s : Se) : List Int := (truthsR s 0).flatMap fun t => gapsL (topsFrom s.1.length t 0)
theorem Alv.gaps {s : Se} (h : Alv s) : gapsP s = spanP ((gapsR s).foldl wide noneP) := by
 have he : errP s 0 [] = 0 := h.err fun x hx => by simp at hx
 unfold gapsP gapsR
 rw [if_pos he, truths_eq h.ok 0, List.foldl_map, foldl_flat]
 congr 1
 have : ∀ (l : List (List Int)) (C : Sp), (∀ t ∈ l, t.length = s.1.length) → l.foldl (fun x y => gapW x (-1) (topsFrom s.1.length (pad y) 0)) C = l.foldl (fun C t => (gapsL (topsFrom s.1.length t 0)).foldl wide C) C := by
  intro l
  induction l with
  | nil => intro C _; rfl
  | cons t l ih =>
   intro C h
   rw [List.foldl_cons, List.foldl_cons, gapW_all, tops_pad (h t (by simp)), ih _ fun u hu => h u (by simp [hu])]
 exact this _ _ fun t ht => (h.wf ht).1
theorem spanH {l : List Int} (hb : ∀ v ∈ l, 0 ≤ v ∧ v ≤ 1000000) : (l = [] ∧ spanP (l.foldl wide noneP) = (sp0, 9, ())) ∨ ∃ x, spanP (l.foldl wide noneP) = (x, 0, ()) ∧ Hull l x := by
 by_cases hl : l = []
 ·subst hl; exact .inl ⟨rfl, rfl⟩
 ·have hh := hull_none hl hb
  refine .inr ⟨_, if_neg fun h => ?_, hh⟩
  have := hb _ hh.hi
  rw [h] at this
  exact absurd this.1 (by decide)
def nextsR (s : Se) : List Int := (truthsR s 0).flatMap (nextsL s)
theorem Alv.next {s : Se} (h : Alv s) : nextP s = spanP ((nextsR s).foldl wide noneP) := by
 have he : errP s 0 [] = 0 := h.err fun x hx => by simp at hx
 unfold nextP nextsR
 rw [if_pos he, truths_eq h.ok 0, List.foldl_map, foldl_flat]
 congr 1
 have : ∀ (l : List (List Int)) (C : Sp), (∀ t ∈ l, t.length = s.1.length) → l.foldl (fun x y => nextW s x (pad y)) C = l.foldl (fun C t => (nextsL s t).foldl wide C) C := by
  intro l
  induction l with
  | nil => intro C _; rfl
  | cons t l ih =>
   intro C ha
   rw [List.foldl_cons, List.foldl_cons, nexts_fold h.ok (ha t (by simp)), ih _ fun u hu => ha u (by simp [hu])]
 exact this _ _ fun t ht => (h.wf ht).1
theorem Alv.nextsR_bd {s : Se} (h : Alv s) : ∀ v ∈ nextsR s, 0 ≤ v ∧ v ≤ 1000000 := fun v hv => by
 unfold nextsR at hv
 rw [List.mem_flatMap] at hv
 obtain ⟨t, ht, hv⟩ := hv
 exact (nexts_bd h.ok (h.wf ht).1).2 v hv
theorem Alv.wreck {s : Se} (h : Alv s) (x : Sp) {seen : Nat} (hs : seen ≤ 2) (hx : endsP x 0 99 = 0) : wreckP s x (seen : Int) = (numsL (fun i => (truthsR s 0).any fun t => metAt x seen t i) s.1.length, 0, ()) := by
 have hw : wErr x (seen : Int) = 0 := by unfold wErr; rw [if_neg (by omega), hx]
 unfold wreckP
 rw [hw, if_pos (h.err fun x hx => by simp at hx), Int.toNat_natCast]
 congr 1
 refine numsL_congr fun i hi => ?_
 rw [truths_eq h.ok 0, List.any_map]
 exact any_congr' fun t ht => met_pad (h.wf ht).1 x seen i hi
end Go.Proofs.YtkbephbhajplhaaDoor
