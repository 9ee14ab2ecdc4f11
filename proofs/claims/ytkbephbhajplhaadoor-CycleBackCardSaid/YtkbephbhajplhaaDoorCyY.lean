/- The states at the cuts of the reference (b). Conditions: none (abbreviations). -/
import Derived.Test.YtkbephbhajplhaaDoorCyR
import Derived.Test.YtkbephbhajplhaaDoorGhI
import Derived.Test.YtkbephbhajplhaaDoorCyN
namespace Go.Proofs.YtkbephbhajplhaaDoor
open Go Go.Gh Go.Proofs
end Go.Proofs.YtkbephbhajplhaaDoor
/- The equations at the cuts of the reference, with the states' names (b). Conditions: none. (Printed by rest.py.) -/
namespace Go.Proofs.YtkbephbhajplhaaDoor
open Go Go.Gh Go.Proofs
end Go.Proofs.YtkbephbhajplhaaDoor
/- The reference's 'Turns', 'Gaps' and 'Next' are the program's. Conditions: as each lemma states. -/
namespace Go.Proofs.YtkbephbhajplhaaDoor
open Go Go.Gh Go.Proofs
theorem isBot_pad {n : Nat} {q : List Int} (hq : q.length = n) (i : Nat) : isBot n (pad q) i = isBot n q i := by
 by_cases h1 : 0 < i ∧ i + 1 < n
 ·have g : ∀ j, j < n → (pad q).getD j 0 = q.getD j 0 := fun j hj => by
   unfold pad
   rw [List.getD_eq_getElem?_getD, List.getD_eq_getElem?_getD, List.getElem?_append_left (by omega)]
  rw [isBot_mid h1.1 h1.2, isBot_mid h1.1 h1.2, g i (by omega), g (i - 1) (by omega), g (i + 1) (by omega)]
 ·unfold isBot
  have : (decide (0 < i) && decide (i + 1 < n)) = false := by
   rw [Bool.and_eq_false_iff, decide_eq_false_iff_not, decide_eq_false_iff_not]; omega
  rw [this]; rfl
theorem countP_eq {α : Type} {p q : α → Bool} {l : List α} (h : ∀ a ∈ l, p a = q a) : l.countP p = l.countP q := by
 rw [List.countP_eq_length_filter, List.countP_eq_length_filter, List.filter_congr h]
def gapsL : List Nat → List Int
 | a :: b :: r => ((b : Int) - (a : Int)) :: gapsL (b :: r)
 | _ => []
theorem gapW_fold : ∀ (r : List Nat) (C : Sp) (a : Nat), gapW C (a : Int) r = (gapsL (a :: r)).foldl wide C
 | [], C, a => rfl
 | b :: r, C, a => by
  simp only [gapW, gapsL, List.foldl_cons]
  rw [if_neg (by omega), gapW_fold r _ b]
theorem gapW_all (C : Sp) (T : List Nat) : gapW C (-1) T = (gapsL T).foldl wide C := by
 cases T with
 | nil => rfl
 | cons a T =>
  simp only [gapW]
  rw [if_pos (by omega), gapW_fold]
theorem gapsL_bd : ∀ {T : List Nat}, T.Pairwise (· < ·) → (∀ v ∈ T, v < 1000000) → ∀ v ∈ gapsL T, 0 ≤ v ∧ v ≤ 1000000
 | [], _, _, v, h => by simp [gapsL] at h
 | [_], _, _, v, h => by simp [gapsL] at h
 | a :: b :: r, hp, hb, v, h => by
  rw [List.pairwise_cons] at hp
  simp only [gapsL, List.mem_cons] at h
  rcases h with rfl | h
  ·have h1 := hp.1 b (by simp)
   have h2 := hb b (by simp)
   omega
  ·exact gapsL_bd hp.2 (fun v hv => hb v (by simp [hv])) v h
theorem tops_pair (n : Nat) (l : List Int) : (topsFrom n l 0).Pairwise (· < ·) := by
 unfold topsFrom
 exact List.Pairwise.filter _ (List.pairwise_lt_range' ..)
theorem foldl_flat {α : Type} (f : α → List Int) : ∀ (l : List α) (C : Sp), (l.flatMap f).foldl wide C = l.foldl (fun C t => (f t).foldl wide C) C
 | [], _ => rfl
 | a :: l, C => by rw [List.flatMap_cons, List.foldl_append, foldl_flat f l, List.foldl_cons]
end Go.Proofs.YtkbephbhajplhaaDoor
/- The reference's 'Next' and 'Wreck' are the program's. Conditions: as each lemma states. -/
namespace Go.Proofs.YtkbephbhajplhaaDoor
open Go Go.Gh Go.Proofs
theorem sp_ext {x y : Sp} (h1 : x.1 = y.1) (h2 : x.2.1 = y.2.1) : x = y := Prod.ext h1 (Prod.ext h2 rfl)
end Go.Proofs.YtkbephbhajplhaaDoor
/- What the program's functions return of a series that has a truth, told by all truths. Conditions: as each lemma states. -/
namespace Go.Proofs.YtkbephbhajplhaaDoor
open Go Go.Gh Go.Proofs
structure Alv (s : Se) : Prop where
 ok : VS s
 some : truthsR s 0 ≠ []
theorem Alv.wf {s : Se} (h : Alv s) {t : List Int} (ht : t ∈ truthsR s 0) : t.length = s.1.length ∧ ∀ x ∈ t, 0 ≤ x ∧ x ≤ 99 := truthsR_wf h.ok ht
theorem Alv.at_ {s : Se} (h : Alv s) {t : List Int} (ht : t ∈ truthsR s 0) (i : Nat) : 0 ≤ t.getD i 0 ∧ t.getD i 0 ≤ 99 := by
 by_cases hi : i < t.length
 ·rw [getD_lt hi]; exact (h.wf ht).2 _ (List.getElem_mem hi)
 ·rw [List.getD_eq_getElem?_getD, List.getElem?_eq_none (by omega)]; simp
theorem Alv.err {s : Se} (h : Alv s) {l : List Int} (hl : ∀ x ∈ l, 0 ≤ x ∧ x < s.1.length) : errP s 0 l = 0 := by
 unfold errP
 rw [if_pos ((chkP_ok s).2 h.ok), if_neg, if_pos rfl, if_neg (fun e => h.some ((truths_none h.ok).1 e))]
 rw [Bool.not_eq_true, List.any_eq_false]
 intro x hx
 have := hl x hx
 unfold noYear
 rw [Bool.not_eq_true, Bool.or_eq_false_iff, decide_eq_false_iff_not, decide_eq_false_iff_not]
 omega
theorem Alv.hull {s : Se} (h : Alv s) (p : Nat) {q : Nat} (hq : q < s.1.length) : Hull ((truthsR s 0).map fun t => sumL t p q) (numsP s p q) := by
 have h7 := h.ok.hi
 rw [nums_ref h.ok hq]
 refine hull_none (by simpa using h.some) fun v hv => ?_
 rw [List.mem_map] at hv
 obtain ⟨t, h1, rfl⟩ := hv
 have := h.wf h1
 exact sumR_bd (by omega) this.2 p q
theorem Alv.sumbd {s : Se} (h : Alv s) {t : List Int} (ht : t ∈ truthsR s 0) (p q : Nat) : 0 ≤ sumL t p q ∧ sumL t p q ≤ 693 := by
 have h7 := h.ok.hi
 have hw := h.wf ht
 have h1 := sumI_bd (l := (t.take (q + 1)).drop p) fun x hx => hw.2 x (List.mem_of_mem_take (List.mem_of_mem_drop hx))
 have h2 : ((t.take (q + 1)).drop p).length ≤ 7 := by rw [List.length_drop, List.length_take]; omega
 unfold sumL; omega
theorem Alv.nums {s : Se} (h : Alv s) (p : Nat) {q : Nat} (hq : q < s.1.length) : (∃ t ∈ truthsR s 0, sumL t p q = (numsP s p q).1) ∧ (∃ t ∈ truthsR s 0, sumL t p q = (numsP s p q).2.1) ∧ (∀ t ∈ truthsR s 0, (numsP s p q).1 ≤ sumL t p q ∧ sumL t p q ≤ (numsP s p q).2.1) ∧ 0 ≤ (numsP s p q).1 ∧ (numsP s p q).1 ≤ (numsP s p q).2.1 ∧ (numsP s p q).2.1 ≤ 693 := by
 have hh := h.hull p hq
 have h1 := hh.lo
 have h2 := hh.hi
 rw [List.mem_map] at h1 h2
 obtain ⟨t, a1, e1⟩ := h1
 obtain ⟨u, a2, e2⟩ := h2
 have b1 := h.sumbd a1 p q
 have b2 := h.sumbd a2 p q
 have all : ∀ t ∈ truthsR s 0, (numsP s p q).1 ≤ sumL t p q ∧ sumL t p q ≤ (numsP s p q).2.1 := fun t ht => hh.all _ (List.mem_map_of_mem ht)
 have := all t a1
 exact ⟨⟨t, a1, e1⟩, ⟨u, a2, e2⟩, all, by omega, by omega, by omega⟩
theorem Alv.number {s : Se} (h : Alv s) {n : Nat} (hn : n < s.1.length) : numberP s (n : Int) = (numsP s n n, 0, ()) := by
 unfold numberP
 rw [if_pos (h.err fun x hx => by simp only [List.mem_singleton] at hx; omega), Int.toNat_natCast]
theorem Alv.one {s : Se} (h : Alv s) {n : Nat} (hn : n < s.1.length) : (∃ t ∈ truthsR s 0, t.getD n 0 = (numsP s n n).1) ∧ (∃ t ∈ truthsR s 0, t.getD n 0 = (numsP s n n).2.1) ∧ (∀ t ∈ truthsR s 0, (numsP s n n).1 ≤ t.getD n 0 ∧ t.getD n 0 ≤ (numsP s n n).2.1) ∧ 0 ≤ (numsP s n n).1 ∧ (numsP s n n).1 ≤ (numsP s n n).2.1 ∧ (numsP s n n).2.1 ≤ 99 := by
 obtain ⟨⟨t, a1, e1⟩, ⟨u, a2, e2⟩, all, h0, h1, _⟩ := h.nums n hn
 have g : ∀ t ∈ truthsR s 0, sumL t n n = t.getD n 0 := fun t ht => sumL_one (by rw [(h.wf ht).1]; exact hn)
 have b2 := h.at_ a2 n
 rw [g t a1] at e1
 rw [g u a2] at e2
 exact ⟨⟨t, a1, e1⟩, ⟨u, a2, e2⟩, fun t ht => by rw [← g t ht]; exact all t ht, h0, h1, by omega⟩
theorem Alv.turns {s : Se} (h : Alv s) {n : Nat} (hn : n < s.1.length) : turnsP s (n : Int) = (settledP ((truthsR s 0).countP (isTop s.1.length · n) : Nat) ((truthsR s 0).length : Nat), settledP ((truthsR s 0).countP (isBot s.1.length · n) : Nat) ((truthsR s 0).length : Nat), 0, ()) := by
 have e1 : (truthsP s 0).countP (isTop s.1.length · n) = (truthsR s 0).countP (isTop s.1.length · n) := by
  rw [truths_eq h.ok 0, List.countP_map]
  exact countP_eq fun t ht => isTop_pad (h.wf ht).1 n
 have e2 : (truthsP s 0).countP (isBot s.1.length · n) = (truthsR s 0).countP (isBot s.1.length · n) := by
  rw [truths_eq h.ok 0, List.countP_map]
  exact countP_eq fun t ht => isBot_pad (h.wf ht).1 n
 have e3 : (truthsP s 0).length = (truthsR s 0).length := by rw [truths_eq h.ok 0, List.length_map]
 unfold turnsP
 rw [if_pos (h.err fun x hx => by simp only [List.mem_singleton] at hx; omega), Int.toNat_natCast, e1, e2, e3]
def setB (R : List (List Int)) (p : List Int → Bool) : Int := settledP (R.countP p : Nat) (R.length : Nat)
theorem setB_must {R : List (List Int)} {p : List Int → Bool} : setB R p = 1 ↔ ∀ t ∈ R, p t = true := by
 unfold setB settledP
 rw [← List.countP_eq_length]
 constructor
 ·intro h
  by_cases hc : ((R.countP p : Nat) : Int) = (R.length : Nat)
  ·omega
  ·rw [if_neg hc] at h
   split at h <;> omega
 ·intro h; rw [if_pos (by omega)]
theorem setB_never {R : List (List Int)} (hR : R ≠ []) {p : List Int → Bool} : setB R p = 2 ↔ ∀ t ∈ R, p t = false := by
 have h0 : R.length ≠ 0 := fun h => hR (List.length_eq_zero_iff.1 h)
 unfold setB settledP
 constructor
 ·intro h
  by_cases hc : ((R.countP p : Nat) : Int) = (R.length : Nat)
  ·rw [if_pos hc] at h; omega
  ·rw [if_neg hc] at h
   by_cases hz : ((R.countP p : Nat) : Int) = 0
   ·intro t ht
    have := List.countP_eq_zero.1 (show R.countP p = 0 by omega) t ht
    simpa using this
   ·rw [if_neg hz] at h; omega
 ·intro h
  have : R.countP p = 0 := List.countP_eq_zero.2 fun t ht => by rw [h t ht]; simp
  rw [this, if_neg (by omega), if_pos (by omega)]
theorem setB_may {R : List (List Int)} (hR : R ≠ []) {p : List Int → Bool} : setB R p = 0 ↔ (∃ t ∈ R, p t = true) ∧ (∃ t ∈ R, p t = false) := by
 have h3 : setB R p = 0 ∨ setB R p = 1 ∨ setB R p = 2 := by
  unfold setB settledP
  split
  ·exact .inr (.inl rfl)
  ·split
   ·exact .inr (.inr rfl)
   ·exact .inl rfl
 constructor
 ·intro h
  constructor
  ·refine Classical.byContradiction fun hn => ?_
   have : setB R p = 2 := (setB_never hR).2 fun t ht => by
    cases hp : p t with
    | false => rfl
    | true => exact absurd ⟨t, ht, hp⟩ hn
   omega
  ·refine Classical.byContradiction fun hn => ?_
   have : setB R p = 1 := setB_must.2 fun t ht => by
    cases hp : p t with
    | true => rfl
    | false => exact absurd ⟨t, ht, hp⟩ hn
   omega
 ·rintro ⟨⟨t, ht, h1⟩, ⟨u, hu, h2⟩⟩
  rcases h3 with h | h | h
  ·exact h
  ·have := setB_must.1 h u hu; rw [h2] at this; cases this
  ·have := (setB_never hR).1 h t ht; rw [h1] at this; cases this
theorem setB_in (R : List (List Int)) (p : List Int → Bool) : setB R p = 0 ∨ setB R p = 1 ∨ setB R p = 2 := by
 unfold setB settledP
 split
 ·exact .inr (.inl rfl)
 ·split
  ·exact .inr (.inr rfl)
  ·exact .inl rfl
def gapsR (s : Se) : List Int := (truthsR s 0).flatMap fun t => gapsL (topsFrom s.1.length t 0)
theorem Alv.gaps {s : Se} (h : Alv s) : gapsP s = spanP ((gapsR s).foldl wide noneP) := by
 have he : errP s 0 [] = 0 := h.err fun x hx => by simp at hx
 unfold gapsP gapsR
 rw [if_pos he, truths_eq h.ok 0, List.foldl_map, foldl_flat]
 congr 1
 have : ∀ (l : List (List Int)) (C : Sp), (∀ t ∈ l, t.length = s.1.length) → l.foldl (fun x y => gapW x (-1) (topsFrom s.1.length (pad y) 0)) C = l.foldl (fun C t => (gapsL (topsFrom s.1.length t 0)).foldl wide C) C := by
  intro l
  induction l with
  | nil => intro C _; rfl
  | cons t l ih =>
   intro C h
   rw [List.foldl_cons, List.foldl_cons, gapW_all, tops_pad (h t (by simp)), ih _ fun u hu => h u (by simp [hu])]
 exact this _ _ fun t ht => (h.wf ht).1
theorem gapsR_bd {s : Se} (h7 : s.1.length ≤ 7) : ∀ v ∈ gapsR s, 0 ≤ v ∧ v ≤ 1000000 := fun v hv => by
 unfold gapsR at hv
 rw [List.mem_flatMap] at hv
 obtain ⟨t, _, hv⟩ := hv
 exact gapsL_bd (tops_pair _ _) (fun w hw => by have := tops_lt hw; omega) v hv
theorem spanH {l : List Int} (hb : ∀ v ∈ l, 0 ≤ v ∧ v ≤ 1000000) : (l = [] ∧ spanP (l.foldl wide noneP) = (sp0, 9, ())) ∨ ∃ x, spanP (l.foldl wide noneP) = (x, 0, ()) ∧ Hull l x := by
 by_cases hl : l = []
 ·subst hl; exact .inl ⟨rfl, rfl⟩
 ·have hh := hull_none hl hb
  refine .inr ⟨_, if_neg fun h => ?_, hh⟩
  have := hb _ hh.hi
  rw [h] at this
  exact absurd this.1 (by decide)
end Go.Proofs.YtkbephbhajplhaaDoor
