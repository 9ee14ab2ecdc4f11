/- Lists of numbers, by how many and then in order: the first one of which something is so. Conditions: none (lemmas alone). -/

namespace Go.Few
def cmp1 (a b : Int) : Int := if a < b then -1 else if a > b then 1 else 0
def cmpL : List Int → List Int → Int
 | [], [] => 0
 | [], _ :: _ => -1
 | _ :: _, [] => 1
 | a :: r, b :: q => if cmp1 a b ≠ 0 then cmp1 a b else cmpL r q
theorem cmp1_lt {a b : Int} (h : a < b) : cmp1 a b = -1 := by unfold cmp1; rw [if_pos h]
theorem cmp1_gt {a b : Int} (h : b < a) : cmp1 a b = 1 := by unfold cmp1; rw [if_neg (by omega), if_pos h]
theorem cmp1_self (a : Int) : cmp1 a a = 0 := by unfold cmp1; rw [if_neg (by omega), if_neg (by omega)]
def lex : List Int → List Int → Prop
 | a :: r, b :: q => a < b ∨ a = b ∧ lex r q
 | _, _ => False
theorem lex_irr : ∀ l, ¬ lex l l
 | [] => by simp [lex]
 | a :: l => by
  simp only [lex]
  rintro (h | ⟨_, h⟩)
  ·omega
  ·exact lex_irr l h
theorem lex_trans : ∀ {l p q : List Int}, lex l p → lex p q → lex l q
 | [], _, _, h, _ => by simp [lex] at h
 | _ :: _, [], _, h, _ => by simp [lex] at h
 | _ :: _, _ :: _, [], _, h => by simp [lex] at h
 | a :: l, b :: p, c :: q, h1, h2 => by
  simp only [lex] at h1 h2 ⊢
  rcases h1 with h1 | ⟨rfl, h1⟩
  ·rcases h2 with h2 | ⟨rfl, h2⟩
   ·exact .inl (by omega)
   ·exact .inl h1
  ·rcases h2 with h2 | ⟨rfl, h2⟩
   ·exact .inl h2
   ·exact .inr ⟨rfl, lex_trans h1 h2⟩
theorem lex_tri : ∀ {l p : List Int}, l.length = p.length → l = p ∨ lex l p ∨ lex p l
 | [], [], _ => .inl rfl
 | [], _ :: _, h => by simp at h
 | _ :: _, [], h => by simp at h
 | a :: l, b :: p, h => by
  have hl : l.length = p.length := by simpa using h
  rcases Int.lt_trichotomy a b with h1 | h1 | h1
  ·exact .inr (.inl (.inl h1))
  ·subst h1
   rcases lex_tri hl with h2 | h2 | h2
   ·exact .inl (by rw [h2])
   ·exact .inr (.inl (.inr ⟨rfl, h2⟩))
   ·exact .inr (.inr (.inr ⟨rfl, h2⟩))
  ·exact .inr (.inr (.inl h1))
theorem cmpL_lex : ∀ {l p : List Int}, l.length = p.length → (cmpL l p > 0 ↔ lex p l)
 | [], [], _ => by simp [cmpL, lex]
 | [], _ :: _, h => by simp at h
 | _ :: _, [], h => by simp at h
 | a :: l, b :: p, h => by
  have hl : l.length = p.length := by simpa using h
  simp only [cmpL, lex]
  rcases Int.lt_trichotomy a b with h1 | h1 | h1
  ·rw [cmp1_lt h1, if_pos (by decide)]
   constructor
   ·intro h; omega
   ·rintro (h | ⟨h, _⟩) <;> omega
  ·subst h1
   rw [cmp1_self, if_neg (by decide), cmpL_lex hl]
   constructor
   ·intro h; exact .inr ⟨rfl, h⟩
   ·rintro (h | ⟨_, h⟩)
    ·omega
    ·exact h
  ·rw [cmp1_gt h1, if_pos (by decide)]
   exact ⟨fun _ => .inl h1, fun _ => by decide⟩
def fewer (l p : List Int) : Prop := l.length < p.length ∨ l.length = p.length ∧ lex l p
theorem fewer_irr (l : List Int) : ¬ fewer l l := by
 rintro (h | ⟨_, h⟩)
 ·omega
 ·exact lex_irr l h
theorem fewer_trans {l p q : List Int} (h1 : fewer l p) (h2 : fewer p q) : fewer l q := by
 rcases h1 with h1 | ⟨e1, h1⟩ <;> rcases h2 with h2 | ⟨e2, h2⟩
 ·exact .inl (by omega)
 ·exact .inl (by omega)
 ·exact .inl (by omega)
 ·exact .inr ⟨by omega, lex_trans h1 h2⟩
theorem fewer_tri (l p : List Int) : l = p ∨ fewer l p ∨ fewer p l := by
 rcases Nat.lt_trichotomy l.length p.length with h | h | h
 ·exact .inr (.inl (.inl h))
 ·rcases lex_tri h with h1 | h1 | h1
  ·exact .inl h1
  ·exact .inr (.inl (.inr ⟨h, h1⟩))
  ·exact .inr (.inr (.inr ⟨h.symm, h1⟩))
 ·exact .inr (.inr (.inl h))
def worse (l best : List Int) : Bool := decide (l.length > best.length) || (l.length == best.length && decide (cmpL l best > 0))
theorem worse_iff (l best : List Int) : worse l best = true ↔ fewer best l := by
 unfold worse fewer
 rw [Bool.or_eq_true, decide_eq_true_eq, Bool.and_eq_true, beq_iff_eq, decide_eq_true_eq]
 constructor
 ·rintro (h | ⟨h1, h2⟩)
  ·exact .inl h
  ·exact .inr ⟨h1.symm, (cmpL_lex h1).1 h2⟩
 ·rintro (h | ⟨h1, h2⟩)
  ·exact .inl h
  ·exact .inr ⟨h1.symm, (cmpL_lex h1.symm).2 h2⟩
structure Best (P : List Int → Prop) (r : List Int) : Prop where
 is : P r
 first : ∀ q, P q → ¬ fewer q r
theorem Best.one {P : List Int → Prop} {r q : List Int} (h : Best P r) (h' : Best P q) : r = q := by
 rcases fewer_tri r q with e | e | e
 ·exact e
 ·exact absurd e (h'.first r h.is)
 ·exact absurd e (h.first q h'.is)
theorem Best.iff {P Q : List Int → Prop} {r : List Int} (h : Best P r) (e : ∀ l, P l ↔ Q l) : Best Q r := ⟨(e r).1 h.is, fun q hq => h.first q ((e q).2 hq)⟩
def scan (ok : List Int → Bool) : List (List Int) → List Int → Bool → List Int × Bool
 | [], best, found => (best, found)
 | l :: ls, best, found => if (found && worse l best) = true then scan ok ls best found else if ok l = true then scan ok ls l true else scan ok ls best found
theorem scan_spec (ok : List Int → Bool) : ∀ (ls : List (List Int)) (best : List Int) (found : Bool) (P : List Int → Prop), (found = true → Best P best) → (found = false → ∀ l, ¬ P l) →
  ((scan ok ls best found).2 = true → Best (fun l => P l ∨ (l ∈ ls ∧ ok l = true)) (scan ok ls best found).1) ∧ ((scan ok ls best found).2 = false → (∀ l, ¬ (P l ∨ (l ∈ ls ∧ ok l = true))) ∧ scan ok ls best found = (best, found))
 | [], best, found, P, h1, h2 => by
  simp only [scan]
  refine ⟨fun h => (h1 h).iff fun l => by simp, fun h => ⟨fun l hl => ?_, trivial⟩⟩
  rcases hl with hl | ⟨hl, _⟩
  ·exact h2 h l hl
  ·simp at hl
 | l :: ls, best, found, P, h1, h2 => by
  simp only [scan]
  have step : ∀ (b : List Int) (f : Bool), (f = true → Best (fun q => P q ∨ (q = l ∧ ok q = true)) b) → (f = false → ∀ q, ¬ (P q ∨ (q = l ∧ ok q = true))) →
    ((scan ok ls b f).2 = true → Best (fun q => P q ∨ (q ∈ l :: ls ∧ ok q = true)) (scan ok ls b f).1) ∧ ((scan ok ls b f).2 = false → (∀ q, ¬ (P q ∨ (q ∈ l :: ls ∧ ok q = true))) ∧ scan ok ls b f = (b, f)) := by
   intro b f hb hf
   obtain ⟨q1, q2⟩ := scan_spec ok ls b f _ hb hf
   have e : ∀ q, ((P q ∨ (q = l ∧ ok q = true)) ∨ (q ∈ ls ∧ ok q = true)) ↔ (P q ∨ (q ∈ l :: ls ∧ ok q = true)) := by
    intro q
    rw [List.mem_cons]
    constructor
    ·rintro ((h | ⟨h, k⟩) | ⟨h, k⟩)
     ·exact .inl h
     ·exact .inr ⟨.inl h, k⟩
     ·exact .inr ⟨.inr h, k⟩
    ·rintro (h | ⟨h | h, k⟩)
     ·exact .inl (.inl h)
     ·exact .inl (.inr ⟨h, k⟩)
     ·exact .inr ⟨h, k⟩
   exact ⟨fun h => (q1 h).iff e, fun h => ⟨fun q hq => (q2 h).1 q ((e q).2 hq), (q2 h).2⟩⟩
  by_cases hw : (found && worse l best) = true
  ·rw [if_pos hw]
   rw [Bool.and_eq_true] at hw
   have hb := h1 hw.1
   refine step best found (fun _ => ⟨.inl hb.is, fun q hq => ?_⟩) (fun h => by rw [hw.1] at h; cases h)
   rcases hq with hq | ⟨rfl, _⟩
   ·exact hb.first q hq
   ·intro h
    exact fewer_irr _ (fewer_trans h ((worse_iff _ _).1 hw.2))
  ·rw [if_neg hw]
   have hnw : found = true → ¬ fewer best l := fun hf h => hw (by rw [hf, (worse_iff _ _).2 h]; rfl)
   by_cases ho : ok l = true
   ·rw [if_pos ho]
    have := step l true (fun _ => ⟨.inr ⟨rfl, ho⟩, fun q hq => ?_⟩) (fun h => by cases h)
    ·refine ⟨this.1, fun h => ?_⟩
     have h3 := (this.2 h).2
     rw [h3] at h
     cases h
    ·rcases hq with hq | ⟨rfl, _⟩
     ·cases found with
      | false => exact absurd hq (h2 rfl q)
      | true =>
       have hb := h1 rfl
       intro h
       rcases fewer_tri best q with e | e | e
       ·subst e; exact hnw rfl h
       ·exact hnw rfl (fewer_trans e h)
       ·exact hb.first q hq e
     ·exact fewer_irr _
   ·rw [if_neg ho]
    refine step best found (fun hf => ⟨.inl (h1 hf).is, fun q hq => ?_⟩) (fun hf q hq => ?_)
    ·rcases hq with hq | ⟨rfl, h⟩
     ·exact (h1 hf).first q hq
     ·exact absurd h ho
    ·rcases hq with hq | ⟨rfl, h⟩
     ·exact h2 hf q hq
     ·exact absurd h ho
theorem scan_best (ok : List Int → Bool) (ls : List (List Int)) : ((scan ok ls [] false).2 = true → Best (fun l => l ∈ ls ∧ ok l = true) (scan ok ls [] false).1) ∧ ((scan ok ls [] false).2 = false → ∀ l ∈ ls, ok l = false) := by
 obtain ⟨q1, q2⟩ := scan_spec ok ls [] false (fun _ => False) (fun h => by cases h) (fun _ _ h => h)
 refine ⟨fun h => (q1 h).iff fun l => by simp, fun h l hl => ?_⟩
 have := (q2 h).1 l
 cases ho : ok l with
 | false => rfl
 | true => exact absurd (.inr ⟨hl, ho⟩) this
def upto (a b : Int) : List Int := (List.range (b - a).toNat).map fun n : Nat => a + n
def firstOf (i : Nat) (o : List Int) : Int := if 0 < i then o.getD (i - 1) 0 + 1 else 0
def chooseL (b : Int) : Nat → List (List Int)
 | 0 => [[]]
 | i + 1 => (chooseL b i).flatMap fun o => (upto (firstOf i o) b).map fun n => o ++ [n]
structure Rise (b : Int) (m : Nat) (l : List Int) : Prop where
 len : l.length = m
 pair : l.Pairwise (· < ·)
 in_ : ∀ x ∈ l, 0 ≤ x ∧ x < b
theorem Rise.split {b : Int} {m : Nat} {l : List Int} (h : Rise b (m + 1) l) : ∃ o n, l = o ++ [n] ∧ Rise b m o ∧ firstOf m o ≤ n ∧ n < b := by
 have hne : l ≠ [] := fun e => by have := h.len; rw [e] at this; simp at this
 have he := List.dropLast_concat_getLast hne
 generalize l.dropLast = o at he
 generalize l.getLast hne = n at he
 subst he
 have hlen : o.length = m := by have := h.len; simpa using this
 have hp := List.pairwise_append.1 h.pair
 refine ⟨o, n, rfl, ⟨hlen, hp.1, fun x hx => h.in_ x (List.mem_append_left _ hx)⟩, ?_, (h.in_ n (by simp)).2⟩
 unfold firstOf
 split
 ·have hg : o.getD (m - 1) 0 = o[m - 1]'(by omega) := by rw [List.getD_eq_getElem?_getD, List.getElem?_eq_getElem (by omega)]; rfl
  rw [hg]
  have := hp.2.2 _ (List.getElem_mem (show m - 1 < o.length by omega)) n (by simp)
  omega
 ·exact (h.in_ n (by simp)).1
def pick (hs : List Int) (l : List Int) : List Int := l.map fun i => hs.getD i.toNat 0
def selB (hs : List Int) (set : Nat) : Nat → List Int
 | 0 => []
 | j + 1 => if set.testBit j = true then selB hs set j ++ [hs.getD j 0] else selB hs set j
theorem selB_eq (hs : List Int) (set : Nat) : ∀ {j : Nat}, j ≤ hs.length → (selB hs set j).Sublist (hs.take j)
 | 0, _ => by simp [selB]
 | j + 1, h => by
  have ih := selB_eq hs set (j := j) (by omega)
  rw [List.take_add_one, List.getElem?_eq_getElem (by omega)]
  have hg : hs.getD j 0 = hs[j] := by rw [List.getD_eq_getElem?_getD, List.getElem?_eq_getElem (by omega)]; rfl
  simp only [selB, hg, Option.toList_some]
  split
  ·exact ih.append (List.Sublist.refl _)
  ·exact ih.trans (List.sublist_append_left _ _)
theorem selB_sub (hs : List Int) (set : Nat) : (selB hs set hs.length).Sublist hs := by
 have := selB_eq hs set (Nat.le_refl hs.length)
 rwa [List.take_length] at this
theorem selB_low (hs : List Int) {s t : Nat} : ∀ {j : Nat}, (∀ i, i < j → s.testBit i = t.testBit i) → selB hs s j = selB hs t j
 | 0, _ => rfl
 | j + 1, h => by
  simp only [selB, h j (by omega)]
  rw [selB_low hs fun i hi => h i (by omega)]
theorem sub_sel (hs : List Int) : ∀ {j : Nat} {l : List Int}, j ≤ hs.length → l.Sublist (hs.take j) → ∃ set, set < 2 ^ j ∧ selB hs set j = l
 | 0, l, _, h => by
  rw [List.take_zero, List.sublist_nil] at h
  exact ⟨0, by decide, by rw [h]; rfl⟩
 | j + 1, l, hj, h => by
  rw [List.take_add_one, List.getElem?_eq_getElem (by omega)] at h
  have hg : hs.getD j 0 = hs[j] := by rw [List.getD_eq_getElem?_getD, List.getElem?_eq_getElem (by omega)]; rfl
  obtain ⟨l1, l2, rfl, h1, h2⟩ := List.sublist_append_iff.1 h
  obtain ⟨s, hs1, hs2⟩ := sub_sel hs (j := j) (by omega) h1
  have hlow : ∀ i, i < j → (s + 2 ^ j).testBit i = s.testBit i := fun i hi => by
   rw [Nat.add_comm, Nat.testBit_two_pow_add_gt hi]
  rcases List.sublist_cons_iff.1 h2 with h2 | ⟨r, h2, h3⟩
  ·rw [List.sublist_nil] at h2
   subst h2
   refine ⟨s, by rw [Nat.pow_succ]; omega, ?_⟩
   simp only [selB, Nat.testBit_lt_two_pow hs1, Bool.false_eq_true, if_false, hs2, List.append_nil]
  ·rw [List.sublist_nil] at h3
   subst h3
   refine ⟨s + 2 ^ j, by rw [Nat.pow_succ]; omega, ?_⟩
   have hb : (s + 2 ^ j).testBit j = true := by rw [Nat.add_comm, Nat.testBit_two_pow_add_eq, Nat.testBit_lt_two_pow hs1]; rfl
   simp only [selB, hb, if_true]
   rw [selB_low hs hlow, hs2, hg, h2]
def byBits (hs : List Int) : List (List Int) := (List.range (2 ^ hs.length)).map fun set => selB hs set hs.length
theorem mem_byBits {hs l : List Int} : l ∈ byBits hs ↔ l.Sublist hs := by
 unfold byBits
 rw [List.mem_map]
 constructor
 ·rintro ⟨s, _, rfl⟩; exact selB_sub hs s
 ·intro h
  obtain ⟨s, h1, h2⟩ := sub_sel hs (Nat.le_refl hs.length) (by rwa [List.take_length])
  exact ⟨s, List.mem_range.2 h1, h2⟩
def bitsL (l : List Int) : Nat := l.foldl (fun n x => n ||| 2 ^ x.toNat) 0
theorem bits_fold : ∀ (l : List Int) (n i : Nat), (l.foldl (fun n x => n ||| 2 ^ x.toNat) n).testBit i = (n.testBit i || l.any fun x => decide (x.toNat = i))
 | [], n, i => by simp
 | x :: l, n, i => by
  rw [List.foldl_cons, bits_fold l, Nat.testBit_or, Nat.testBit_two_pow, List.any_cons, Bool.or_assoc]
theorem bitsL_bit {l : List Int} (h : ∀ x ∈ l, 0 ≤ x) (i : Nat) : (bitsL l).testBit i = true ↔ (i : Int) ∈ l := by
 unfold bitsL
 rw [bits_fold]
 simp only [Nat.zero_testBit, Bool.false_or, List.any_eq_true, decide_eq_true_eq]
 constructor
 ·rintro ⟨x, hx, e⟩
  have := h x hx
  obtain rfl : x = (i : Int) := by omega
  exact hx
 ·intro h; exact ⟨_, h, by omega⟩
theorem bitsL_concat (l : List Int) (x : Int) : bitsL (l ++ [x]) = bitsL l ||| 2 ^ x.toNat := by simp [bitsL, List.foldl_append]
end Go.Few
