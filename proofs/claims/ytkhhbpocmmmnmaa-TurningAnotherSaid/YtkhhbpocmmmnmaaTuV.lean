/- What a truth is, and what the program's answers say of all truths. Conditions: as each lemma states. -/
import Derived.Test.YtkhhbpocmmmnmaaTuH
namespace Go.Proofs.Ytkhhbpocmmmnmaa
open Go Go.Gh Go.Proofs
open Go.Few
structure RT (s : Su) (i : Nat) (r : List Int) : Prop where
 len : r.length = i
 bd : ∀ j, j < i → (s.1.getD j sp0).1 ≤ r.getD j 0 ∧ r.getD j 0 ≤ (s.1.getD j sp0).2.1
 fall : ∀ j, j + 1 < i → r.getD (j + 1) 0 ≤ r.getD j 0
theorem getD_snoc (p : List Int) (v : Int) (j : Nat) : (p ++ [v]).getD j 0 = if j < p.length then p.getD j 0 else if j = p.length then v else 0 := by
 by_cases h : j < p.length
 ·rw [if_pos h, getD_snoc_lt h]
 ·rw [if_neg h]
  by_cases h2 : j = p.length
  ·rw [if_pos h2, h2, getD_snoc_eq]
  ·rw [if_neg h2, List.getD_eq_getElem?_getD, List.getElem?_eq_none (by simp; omega)]
   rfl
theorem snoc_of {p : List Int} {i : Nat} (h : p.length = i + 1) : ∃ q v, p = q ++ [v] ∧ q.length = i := by
 have hne : p ≠ [] := fun e => by rw [e] at h; simp at h
 exact ⟨p.dropLast, p.getLast hne, (List.dropLast_concat_getLast hne).symm, by rw [List.length_dropLast]; omega⟩
theorem mem_rLev (s : Su) : ∀ (i : Nat) (p : List Int), p ∈ rLev s i ↔ RT s i p
 | 0, p => by
  rw [rLev, List.mem_singleton]
  constructor
  ·rintro rfl; exact ⟨rfl, fun _ h => absurd h (by omega), fun _ h => absurd h (by omega)⟩
  ·intro h; exact List.length_eq_zero_iff.1 h.len
 | i + 1, p => by
  rw [rLev_succ, List.mem_flatMap]
  constructor
  ·rintro ⟨q, hq, h⟩
   have hq := (mem_rLev s i q).1 hq
   unfold rNext at h
   rw [List.mem_map] at h
   obtain ⟨v, hv, rfl⟩ := h
   obtain ⟨hv1, hv2⟩ := List.mem_filter.1 hv
   have hv1 := mem_upto.1 hv1
   refine ⟨by simp [hq.len], fun j hj => ?_, fun j hj => ?_⟩
   ·rw [getD_snoc, hq.len]
    by_cases h : j < i
    ·rw [if_pos h]; exact hq.bd j h
    ·have : j = i := by omega
     subst this
     rw [if_neg (by omega), if_pos rfl]; omega
   ·rw [getD_snoc, getD_snoc, hq.len, if_pos (show j < i by omega)]
    by_cases h : j + 1 < i
    ·rw [if_pos h]; exact hq.fall j h
    ·have : j + 1 = i := by omega
     rw [if_neg h, if_pos this]
     have e0 : (i == 0) = false := by simp; omega
     rw [e0, Bool.false_or, decide_eq_true_eq] at hv2
     rw [show i - 1 = j by omega] at hv2
     exact hv2
  ·intro h
   obtain ⟨q, v, rfl, hq⟩ := snoc_of h.len
   have hbd := h.bd
   have hfall := h.fall
   refine ⟨q, (mem_rLev s i q).2 ⟨hq, fun j hj => ?_, fun j hj => ?_⟩, ?_⟩
   ·have := hbd j (by omega)
    rw [getD_snoc, if_pos (by omega)] at this
    exact this
   ·have := hfall j (by omega)
    rw [getD_snoc, getD_snoc, if_pos (by omega), if_pos (by omega)] at this
    exact this
   ·unfold rNext
    rw [List.mem_map]
    refine ⟨v, List.mem_filter.2 ⟨?_, ?_⟩, rfl⟩
    ·have := hbd i (by omega)
     rw [getD_snoc, if_neg (by omega), if_pos hq.symm] at this
     exact mem_upto.2 (by omega)
    ·by_cases h0 : i = 0
     ·simp [h0]
     ·have := hfall (i - 1) (by omega)
      rw [show i - 1 + 1 = i by omega, getD_snoc, getD_snoc, if_neg (by omega), if_pos hq.symm, if_pos (by omega)] at this
      rw [dec_t this, Bool.or_true]
structure GT (i : Nat) (g : List Int) : Prop where
 len : g.length = i
 low : ∀ j, j < i → ∃ k : Nat, k ≤ j ∧ g.getD j 0 = (k : Int) ∧ g.getD k 0 = (k : Int)
theorem mem_gLev : ∀ (i : Nat) (p : List Int), p ∈ gLev i ↔ GT i p
 | 0, p => by
  rw [gLev, List.mem_singleton]
  constructor
  ·rintro rfl; exact ⟨rfl, fun _ h => absurd h (by omega)⟩
  ·intro h; exact List.length_eq_zero_iff.1 h.len
 | i + 1, p => by
  rw [gLev_succ, List.mem_flatMap]
  constructor
  ·rintro ⟨q, hq, h⟩
   have hq := (mem_gLev i q).1 hq
   unfold gNext at h
   rw [List.mem_map] at h
   obtain ⟨v, hv, rfl⟩ := h
   obtain ⟨hv1, hv2⟩ := List.mem_filter.1 hv
   have hv1 := List.mem_range.1 hv1
   refine ⟨by simp [hq.len], fun j hj => ?_⟩
   by_cases h : j < i
   ·obtain ⟨k, k1, k2, k3⟩ := hq.low j h
    refine ⟨k, k1, ?_, ?_⟩
    ·rw [getD_snoc, hq.len, if_pos h]; exact k2
    ·rw [getD_snoc, hq.len, if_pos (by omega)]; exact k3
   ·have : j = i := by omega
    subst this
    refine ⟨v, by omega, by rw [getD_snoc, hq.len, if_neg (by omega), if_pos rfl], ?_⟩
    rw [getD_snoc, hq.len]
    by_cases hvi : v = j
    ·rw [if_neg (by omega), if_pos hvi]
    ·rw [if_pos (by omega)]
     rw [Bool.or_eq_true, beq_iff_eq, beq_iff_eq] at hv2
     exact hv2.resolve_left hvi
  ·intro h
   obtain ⟨q, v, rfl, hq⟩ := snoc_of h.len
   have hlow := h.low
   refine ⟨q, (mem_gLev i q).2 ⟨hq, fun j hj => ?_⟩, ?_⟩
   ·obtain ⟨k, k1, k2, k3⟩ := hlow j (by omega)
    rw [getD_snoc, if_pos (by omega)] at k2 k3
    exact ⟨k, k1, k2, k3⟩
   ·unfold gNext
    rw [List.mem_map]
    obtain ⟨k, k1, k2, k3⟩ := hlow i (by omega)
    rw [getD_snoc, if_neg (by omega), if_pos hq.symm] at k2
    refine ⟨k, List.mem_filter.2 ⟨List.mem_range.2 (by omega), ?_⟩, by rw [k2]⟩
    by_cases hk : k = i
    ·rw [show (k == i) = true by simpa using hk, Bool.true_or]
    ·rw [getD_snoc, if_pos (by omega)] at k3
     rw [bq k3, Bool.or_true]
structure Truth (s : Su) (but : Nat → Bool) (r g : List Int) : Prop where
 rt : RT s s.1.length r
 gt : GT s.2.2.1.length g
 so : soP s but g = true
 fits : ∀ a b, a < s.2.2.1.length → b < s.2.2.1.length → a ≠ b → g.getD a 0 = g.getD b 0 → canP s r a b = true
theorem fitsP_iff {s : Su} {r g : List Int} {n : Nat} (hn : g.length = n) : fitsP (canP s r) g = true ↔ ∀ a b, a < n → b < n → a ≠ b → g.getD a 0 = g.getD b 0 → canP s r a b = true := by
 unfold fitsP
 rw [hn, List.all_eq_true]
 constructor
 ·intro h a b ha hb hab he
  rcases Nat.lt_or_gt_of_ne hab with hlt | hlt
  ·have := (List.all_eq_true.1 (h b (List.mem_range.2 hb))) a (List.mem_range.2 hlt)
   rw [Bool.or_eq_true, bne_iff_ne] at this
   rw [canP_sym]
   exact this.resolve_left (fun h => h he)
  ·have := (List.all_eq_true.1 (h a (List.mem_range.2 ha))) b (List.mem_range.2 hlt)
   rw [Bool.or_eq_true, bne_iff_ne] at this
   exact this.resolve_left (fun h => h he.symm)
 ·intro h b hb
  rw [List.all_eq_true]
  intro a ha
  have hb := List.mem_range.1 hb
  have ha := List.mem_range.1 ha
  by_cases he : g.getD a 0 = g.getD b 0
  ·rw [h b a hb (by omega) (by omega) he.symm, Bool.or_true]
  ·rw [nbqf he, Bool.true_or]
theorem mem_refT {s : Su} {but : Nat → Bool} {t : Tr} : t ∈ refT s but ↔ Truth s but t.1 t.2.1 := by
 unfold refT
 rw [List.mem_flatMap]
 constructor
 ·rintro ⟨r, hr, h⟩
  unfold truNext at h
  rw [List.mem_map] at h
  obtain ⟨g, hg, rfl⟩ := h
  obtain ⟨h1, h2⟩ := List.mem_filter.1 hg
  rw [Bool.and_eq_true] at h2
  have hgt := (mem_gLev _ g).1 h1
  exact ⟨(mem_rLev s _ r).1 hr, hgt, h2.1, (fitsP_iff hgt.len).1 h2.2⟩
 ·intro h
  refine ⟨t.1, (mem_rLev s _ _).2 h.rt, ?_⟩
  unfold truNext
  rw [List.mem_map]
  exact ⟨t.2.1, List.mem_filter.2 ⟨(mem_gLev _ _).2 h.gt, by rw [h.so, (fitsP_iff h.gt.len).2 h.fits]; rfl⟩, rfl⟩
theorem soP_iff {s : Su} {but : Nat → Bool} {g : List Int} : soP s but g = true ↔ ∀ i, i < s.2.2.2.1.length → but i = false → ((g.getD (s.2.2.2.1.getD i tl0).1.toNat 0 = g.getD (s.2.2.2.1.getD i tl0).2.1.toNat 0) ↔ (s.2.2.2.1.getD i tl0).2.2.1 = true) := by
 unfold soP
 rw [List.all_eq_true]
 constructor
 ·intro h i hi hb
  have := h i (List.mem_range.2 hi)
  rw [hb, Bool.false_or, beq_iff_eq] at this
  rw [← this, beq_iff_eq]
 ·intro h i hi
  have hi := List.mem_range.1 hi
  cases hb : but i with
  | true => rfl
  | false =>
   rw [Bool.false_or, beq_iff_eq, Bool.eq_iff_iff, beq_iff_eq]
   exact h i hi hb
abbrev none' : Nat → Bool := inL []
theorem mem_refL {s : Su} {t : Tr} : t ∈ refL s ↔ Truth s none' t.1 t.2.1 := mem_refT
theorem wide_bd (x : Sp) (n : Int) : (wide x n).1 ≤ x.1 ∧ (wide x n).1 ≤ n ∧ x.2.1 ≤ (wide x n).2.1 ∧ n ≤ (wide x n).2.1 ∧ ((wide x n).1 = x.1 ∨ (wide x n).1 = n) ∧ ((wide x n).2.1 = x.2.1 ∨ (wide x n).2.1 = n) := by
 unfold wide
 simp only
 refine ⟨?_, ?_, ?_, ?_, ?_, ?_⟩ <;> split <;> first | omega | exact .inl rfl | exact .inr rfl
theorem wide_fold : ∀ (l : List Int) (x : Sp), (l.foldl wide x).1 ≤ x.1 ∧ x.2.1 ≤ (l.foldl wide x).2.1 ∧ (∀ n ∈ l, (l.foldl wide x).1 ≤ n ∧ n ≤ (l.foldl wide x).2.1) ∧ ((l.foldl wide x).1 = x.1 ∨ (l.foldl wide x).1 ∈ l) ∧ ((l.foldl wide x).2.1 = x.2.1 ∨ (l.foldl wide x).2.1 ∈ l)
 | [], x => ⟨Int.le_refl _, Int.le_refl _, fun _ h => (by cases h), .inl rfl, .inl rfl⟩
 | n :: l, x => by
  obtain ⟨a1, a2, a3, a4, a5, a6⟩ := wide_bd x n
  obtain ⟨b1, b2, b3, b4, b5⟩ := wide_fold l (wide x n)
  simp only [List.foldl_cons]
  refine ⟨by omega, by omega, fun m hm => ?_, ?_, ?_⟩
  ·rw [List.mem_cons] at hm
   rcases hm with rfl | hm
   ·omega
   ·exact b3 m hm
  ·rw [List.mem_cons]
   rcases b4 with h | h
   ·rcases a5 with h2 | h2
    ·exact .inl (h.trans h2)
    ·exact .inr (.inl (h.trans h2))
   ·exact .inr (.inr h)
  ·rw [List.mem_cons]
   rcases b5 with h | h
   ·rcases a6 with h2 | h2
    ·exact .inl (h.trans h2)
    ·exact .inr (.inl (h.trans h2))
   ·exact .inr (.inr h)
theorem hull_le {l : List Int} {n : Int} (h : n ∈ l) : (hullL l).1 ≤ n ∧ n ≤ (hullL l).2.1 := by
 cases l with
 | nil => cases h
 | cons m l =>
  obtain ⟨b1, b2, b3, _, _⟩ := wide_fold l (m, m, ())
  rw [List.mem_cons] at h
  show (l.foldl wide (m, m, ())).1 ≤ n ∧ n ≤ (l.foldl wide (m, m, ())).2.1
  rcases h with rfl | h
  ·exact ⟨b1, b2⟩
  ·exact b3 n h
theorem hull_mem {l : List Int} (h : l ≠ []) : (hullL l).1 ∈ l ∧ (hullL l).2.1 ∈ l := by
 cases l with
 | nil => exact absurd rfl h
 | cons m l =>
  obtain ⟨_, _, _, b4, b5⟩ := wide_fold l (m, m, ())
  show (l.foldl wide (m, m, ())).1 ∈ m :: l ∧ (l.foldl wide (m, m, ())).2.1 ∈ m :: l
  rw [List.mem_cons, List.mem_cons]
  exact ⟨b4, b5⟩
theorem hull_map_le {L : List Tr} {f : Tr → Int} {t : Tr} (h : t ∈ L) : (hullL (L.map f)).1 ≤ f t ∧ f t ≤ (hullL (L.map f)).2.1 := hull_le (List.mem_map.2 ⟨t, h, rfl⟩)
theorem hull_map_at {L : List Tr} {f : Tr → Int} (h : L ≠ []) : (∃ t ∈ L, f t = (hullL (L.map f)).1) ∧ ∃ t ∈ L, f t = (hullL (L.map f)).2.1 := by
 obtain ⟨h1, h2⟩ := hull_mem (l := L.map f) (by simpa using h)
 exact ⟨List.mem_map.1 h1, List.mem_map.1 h2⟩
section
variable {s : Su} (hs : VS s) (ht : trP s ≠ [])
 include hs ht
theorem refL_ne : refL s ≠ [] := fun h => ht ((refL_nil hs).1 h)
theorem groups_ok : groupsP s = (hullL ((refL s).map fun t => (manyP s.2.2.1.length t.2.1 : Int)), 0, ()) := by
 have he : errP s [] = 0 := by
  rw [errP_none, if_pos ((chkP_ok s).2 hs), if_neg ht]
 unfold groupsP
 have hm : ∀ t : Tr, manyP s.2.2.1.length (pad 5 t.2.1) = manyP s.2.2.1.length t.2.1 := fun t => by
  unfold manyP
  simp only [pad_getD]
 rw [if_pos he, map_tr hs (fun t => (manyP s.2.2.1.length t.2 : Int)) (fun t => (manyP s.2.2.1.length t.2.1 : Int)) (fun t => by rw [hm])]
end
end Go.Proofs.Ytkhhbpocmmmnmaa
