/- The reference: the rows that stand, choices of them, and what stands by them alone. Conditions: as each lemma states. -/
import Derived.Test.YtallblpnlefpeaaRoBa
namespace Go.Proofs.Ytallblpnlefpeaa
open Go Go.Gh Go.Proofs Go.Few

theorem L47 (b : Bk) (h : b.1.length ≤ 1000000) : F47 ((b, ()) : Bk × Unit) = some (standL b, ()) := by
  refine ghost_eq (Ev.eq (fun _ => E47 _ _) ?_)
  unfold standL
  have key : ∀ (c i : Nat), i + c = b.1.length → Ev fun k => T47_0 i b (numsL (fun i => !(b.1.getD i rw0).2.1) i) k = some (numsL (fun i => !(b.1.getD i rw0).2.1) b.1.length, ()) := by
    intro c
    induction c with
    | zero =>
      intro i hi
      obtain rfl : i = b.1.length := by omega
      refine U47_0 _ _ _ (Ev.eq (fun _ => Q47_0 _ _ _ _) ?_)
      rw [dec_f (by omega)]
      exact Ev.all fun _ => by first | rfl | trivial
    | succ c ih =>
      intro i hi
      refine U47_0 _ _ _ (Ev.eq (fun _ => Q47_0 _ _ _ _) ?_)
      have hn := ih (i + 1) (by omega)
      have hl := numsL_len (fun i => !(b.1.getD i rw0).2.1) i
      rw [numsL_succ] at hn
      rw [dec_t (show (i : Int) < (b.1.length : Int) by omega), dec_t (show (0 : Int) ≤ (i : Int) by omega), Int.toNat_natCast, wrap_succ (n := i) (by omega), one_set, dec_t (show (numsL (fun i => !(b.1.getD i rw0).2.1) i).length + [(i : Int)].length ≤ 2147483648 by simp only [List.length_cons, List.length_nil]; omega), getR]
      simp only [Bool.and_self, cond_true]
      cases hs : !(b.1.getD i rw0).2.1 with
      | true => rw [hs, if_pos rfl] at hn; exact hn
      | false => rw [hs, if_neg (by decide)] at hn; exact hn
  exact key b.1.length 0 (by omega)
def butL (l others : List Int) : List Int := l.filter fun x => !decide (x ∈ others)
theorem L100 (l p : List Int) (hl : l.length < 1000000) (hp : p.length < 1000000) : F100 ((l, p, ()) : List Int × List Int × Unit) = some (butL l p, ()) := by
  refine ghost_eq (Ev.eq (fun _ => E100 _ _ _) ?_)
  have key : ∀ (c i : Nat) (a : List Int), i + c = l.length → a.length ≤ i → a ++ butL (l.drop i) p = butL l p → Ev fun k => T100_0 l p i a k = some (butL l p, ()) := by
    intro c
    induction c with
    | zero =>
      intro i a hi ha he
      refine U100_0 _ _ _ _ (Ev.eq (fun _ => Q100_0 _ _ _ _ _) ?_)
      rw [List.drop_eq_nil_of_le (by omega)] at he
      rw [dec_f (by omega), ← he, show butL [] p = [] from rfl, List.append_nil]
      exact Ev.all fun _ => by first | rfl | trivial
    | succ c ih =>
      intro i a hi ha he
      refine U100_0 _ _ _ _ (Ev.eq (fun _ => Q100_0 _ _ _ _ _) ?_)
      have hlt : i < l.length := by omega
      rw [List.drop_eq_getElem_cons hlt, butL, List.filter_cons] at he
      rw [dec_t (show (i : Int) < (l.length : Int) by omega), dec_t (show (0 : Int) ≤ (i : Int) by omega), Int.toNat_natCast, wrap_succ (n := i) (by omega), getD_lt hlt, L45 p (by omega), one_set, dec_t (show a.length + [l[i]].length ≤ 2147483648 by simp only [List.length_cons, List.length_nil]; omega)]
      simp only [Bool.and_self, cond_true, Option.bind_some]
      cases hm : decide (l[i] ∈ p) with
      | true =>
        rw [hm, if_neg (by decide)] at he
        exact ih (i + 1) a (by omega) (by omega) he
      | false =>
        rw [hm, if_pos (by decide), List.append_cons] at he
        exact ih (i + 1) _ (by omega) (by rw [List.length_append, List.length_singleton]; omega) he
  exact key l.length 0 [] (by omega) (Nat.le_refl _) rfl
theorem stand_mem {b : Bk} {x : Int} : x ∈ standL b ↔ ∃ i : Nat, i < b.1.length ∧ (b.1.getD i rw0).2.1 = false ∧ (i : Int) = x := by
  unfold standL
  rw [numsL_mem]
  constructor
  · rintro ⟨i, h1, h2, h3⟩
    exact ⟨i, h1, by simpa using h2, h3⟩
  · rintro ⟨i, h1, h2, h3⟩
    exact ⟨i, h1, (show (!(b.1.getD i rw0).2.1) = true by rw [h2]; rfl), h3⟩
theorem stand_in {b : Bk} {l : List Int} (h : ∀ x ∈ l, x ∈ standL b) : ∀ x ∈ l, 0 ≤ x ∧ x < b.1.length := fun x hx => by
  obtain ⟨i, h1, _, rfl⟩ := stand_mem.1 (h x hx)
  omega
theorem stand_len (b : Bk) : (standL b).length ≤ b.1.length := numsL_len _ _
theorem bits_dec {l : List Int} (h : ∀ x ∈ l, 0 ≤ x) (i : Nat) : (Few.bitsL l).testBit i = decide ((i : Int) ∈ l) := by
  rw [Bool.eq_iff_iff, Few.bitsL_bit h, decide_eq_true_eq]
theorem rows_mem (b : Bk) (i : Nat) : (rowsN b).testBit i = decide ((i : Int) ∈ standL b) := bits_dec (fun x hx => (stand_in (fun _ h => h) x hx).1) i
theorem but_but {b : Bk} {l : List Int} (h : ∀ x ∈ l, x ∈ standL b) : butN (rowsN b) (Few.bitsL (butL (standL b) l)) = Few.bitsL l := by
  apply Nat.eq_of_testBit_eq
  intro i
  have h1 := stand_in h
  have h2 : ∀ x ∈ butL (standL b) l, 0 ≤ x := fun x hx => (stand_in (fun x h => h) x (List.mem_filter.1 hx).1).1
  rw [butN_bit, rows_mem, bits_dec h2, bits_dec fun x hx => (h1 x hx).1]
  have h3 : decide ((i : Int) ∈ butL (standL b) l) = (decide ((i : Int) ∈ standL b) && !decide ((i : Int) ∈ l)) := by
    unfold butL
    rw [Bool.eq_iff_iff, decide_eq_true_eq, List.mem_filter, Bool.and_eq_true, decide_eq_true_eq]
  rw [h3]
  by_cases hl : (i : Int) ∈ l
  · rw [dec_t hl, dec_t (h _ hl)]
    rfl
  · rw [dec_f hl]
    cases decide ((i : Int) ∈ standL b) <;> rfl
/-- 'By', of rows that stand. -/
theorem L48 (b : Bk) (hv : VB b) (n : Nat) (hn : n < b.2.1.length) (l : List Int) (hl : ∀ x ∈ l, x ∈ standL b) (hll : l.length < 1000000) : F48 ((b, (n : Int), l, ()) : Bk × Int × List Int × Unit) = some (okG b n l, ()) := by
  refine ghost_eq (Ev.eq (fun _ => E48 _ _ _ _) ?_)
  have h8 := hv.r8
  have hs8 := stand_len b
  have hin : ∀ x ∈ butL (standL b) l, 0 ≤ x ∧ x < b.1.length := fun x hx => stand_in (fun x h => h) x (List.mem_filter.1 hx).1
  have hbl : (butL (standL b) l).length ≤ 8 := Nat.le_trans (List.length_filter_le _ _) (by omega)
  have hs := with_same b _ hin
  have hvw := hs.vb hv
  rw [L47 b (by omega)]
  simp only [Option.bind_some]
  rw [L100 _ _ (by omega) hll]
  simp only [Option.bind_some]
  rw [L44 b (by omega) _ hin (by omega)]
  simp only [Option.bind_some]
  rw [L46 _ hvw]
  simp only [Option.bind_some]
  have hlen := allT_len hvw (Nat.le_refl _)
  rw [hs.nums] at hlen
  rw [dec_t (show (0 : Int) ≤ (n : Int) by omega), show (withB b (butL (standL b) l)).2.1.length = b.2.1.length by rw [hs.nums], dec_t (show (n : Int) < ((allT (withB b (butL (standL b) l)) b.2.1.length).length : Int) by omega), Int.toNat_natCast, getF]
  have hat := allT_at (b := withB b (butL (standL b) l)) (i := n) (by rw [hs.nums]; exact hn)
  rw [hs.nums] at hat
  rw [hat, with_all b _ hin, but_but hl]
  exact Ev.all fun _ => by first | rfl | trivial
/-- 'choices'. -/
theorem L99 (rows : List Int) (m : Nat) (h8 : rows.length ≤ 8) (hm : m ≤ 8) : F99 ((rows, (m : Int), ()) : List Int × Int × Unit) = some (Few.subs rows m, ()) := by
  refine ghost_eq (Ev.eq (fun _ => E99 _ _ _) ?_)
  rw [L117 rows.length m h8 hm]
  simp only [Option.bind_some]
  have hcap := chooseL_cap h8 hm
  unfold Few.subs
  have hr : ∀ i (h : i < (chooseL rows.length m).length), Rise rows.length m (chooseL rows.length m)[i] := fun i h => mem_chooseL.1 (List.getElem_mem h)
  generalize chooseL rows.length m = L at *
  have key : ∀ (c i : Nat), i + c = L.length → Ev fun k => T99_0 rows m L i ((L.take i).map (Few.pick rows)) k = some (L.map (Few.pick rows), ()) := by
    intro c
    induction c with
    | zero =>
      intro i hi
      refine U99_0 _ _ _ _ _ (Ev.eq (fun _ => Q99_0 _ _ _ _ _ _) ?_)
      rw [dec_f (by omega), List.take_of_length_le (by omega)]
      exact Ev.all fun _ => by first | rfl | trivial
    | succ c ih =>
      intro i hi
      refine U99_0 _ _ _ _ _ (Ev.eq (fun _ => Q99_0 _ _ _ _ _ _) ?_)
      have hlt : i < L.length := by omega
      have hri := hr i hlt
      have hlen := hri.len
      have hih := ih (i + 1) (by omega)
      rw [dec_t (show (i : Int) < (L.length : Int) by omega)]
      simp only [cond_true]
      have inner : ∀ (c j : Nat), j + c = m → Ev fun k => T99_1 rows m L i j (Few.pick rows (L[i].take j)) ((L.take i).map (Few.pick rows)) k = some (L.map (Few.pick rows), ()) := by
        intro c
        induction c with
        | zero =>
          intro j hj
          refine U99_1 _ _ _ _ _ _ _ (Ev.eq (fun _ => Q99_1 _ _ _ _ _ _ _ _) ?_)
          have hll : ((L.take i).map (Few.pick rows)).length ≤ 16777216 := by rw [List.length_map, List.length_take]; omega
          rw [dec_f (show ¬ ((j : Int) < (m : Int)) by omega)]
          simp only [cond_false]
          rw [wrap_succ (n := i) (by omega), one_set, List.take_of_length_le (show L[i].length ≤ j by omega), dec_t (show ((L.take i).map (Few.pick rows)).length + [Few.pick rows L[i]].length ≤ 2147483648 by simp only [List.length_cons, List.length_nil]; omega)]
          rw [List.take_succ_eq_append_getElem hlt, List.map_append] at hih
          exact hih
        | succ c ihj =>
          intro j hj
          refine U99_1 _ _ _ _ _ _ _ (Ev.eq (fun _ => Q99_1 _ _ _ _ _ _ _ _) ?_)
          have hjl : j < L[i].length := by omega
          have hx := hri.in_ _ (List.getElem_mem hjl)
          have hj2 := ihj (j + 1) (by omega)
          have hpl : (Few.pick rows (L[i].take j)).length ≤ j := by rw [pick_len, List.length_take]; omega
          rw [dec_t (show (j : Int) < (m : Int) by omega), dec_t (show (0 : Int) ≤ (i : Int) by omega), dec_t (show (i : Int) < (L.length : Int) by omega), Int.toNat_natCast, Int.toNat_natCast, getD_lt hlt, getD_lt hjl, dec_t (show (0 : Int) ≤ (j : Int) by omega), dec_t (show (j : Int) < (L[i].length : Int) by omega), dec_t hx.1, dec_t hx.2, one_set, wrap_succ (n := j) (by omega), dec_t (show (Few.pick rows (L[i].take j)).length + [rows.getD L[i][j].toNat 0].length ≤ 2147483648 by simp only [List.length_cons, List.length_nil]; omega)]
          rw [List.take_succ_eq_append_getElem hjl, Few.pick, List.map_append] at hj2
          exact hj2
      exact inner m 0 (by omega)
  exact key L.length 0 (by omega)
end Go.Proofs.Ytallblpnlefpeaa
/- Ground, Needs, Cut and Wrong of the reference: as the program. Conditions: as each lemma states. -/
namespace Go.Proofs.Ytallblpnlefpeaa
open Go Go.Gh Go.Proofs Go.Few

/-! ### the fewest, by sets or in order -/
theorem sub_nums {q : Nat → Bool} : ∀ {k : Nat} {l : List Int}, l.Sublist (numsL q k) → l = numsL (fun i => decide ((i : Int) ∈ l)) k
  | 0, l, h => by
    have : l = [] := List.sublist_nil.1 h
    rw [this]
    rfl
  | k + 1, l, h => by
    rw [numsL_succ] at h
    have low : ∀ {p : List Int}, p.Sublist (numsL q k) → ¬ (k : Int) ∈ p := fun hp hk => by
      obtain ⟨n, h1, _, h3⟩ := numsL_mem.1 (hp.subset hk)
      omega
    by_cases hq : q k = true
    · rw [if_pos hq] at h
      obtain ⟨l1, l2, rfl, h1, h2⟩ := List.sublist_append_iff.1 h
      have hl1 := sub_nums h1
      rw [numsL_succ]
      have e2 : l2 = [] ∨ l2 = [(k : Int)] := by
        cases h2 with
        | cons _ h2 => exact .inl (List.sublist_nil.1 h2)
        | cons_cons _ h2 => exact .inr (by rw [List.sublist_nil.1 h2])
      rcases e2 with rfl | rfl
      · rw [List.append_nil, dec_f (low h1), if_neg (by decide)]
        exact hl1
      · rw [dec_t (show (k : Int) ∈ l1 ++ [(k : Int)] by simp), if_pos rfl]
        congr 1
        refine hl1.trans (numsL_congr fun i hi => ?_)
        refine decide_eq_decide.2 ⟨fun h => List.mem_append_left _ h, fun h => ?_⟩
        rcases List.mem_append.1 h with h | h
        · exact h
        · have := List.mem_singleton.1 h
          omega
    · rw [if_neg hq] at h
      rw [numsL_succ, dec_f (low h), if_neg (by decide)]
      exact sub_nums h
theorem stand_pair (b : Bk) : (standL b).Pairwise (· < ·) := numsL_pair _ _
theorem filter_sub {p q : Nat → Bool} (h : ∀ i, p i = true → q i = true) : ∀ k, (numsL p k).Sublist (numsL q k)
  | 0 => List.Sublist.refl _
  | k + 1 => by
    have ih := filter_sub h k
    rw [numsL_succ, numsL_succ]
    by_cases hp : p k = true
    · rw [if_pos hp, if_pos (h k hp)]
      exact ih.append (List.Sublist.refl _)
    · rw [if_neg hp]
      split
      · exact ih.trans (List.sublist_append_left _ _)
      · exact ih
theorem nums_more {p : Nat → Bool} {k : Nat} (h : ∀ i, p i = true → i < k) : ∀ c, numsL p (k + c) = numsL p k
  | 0 => rfl
  | c + 1 => by
    rw [show k + (c + 1) = (k + c) + 1 by omega, numsL_succ, if_neg (fun hp => by have := h _ hp; omega)]
    exact nums_more h c
theorem but_zero {a c : Nat} (h : butN a c = 0) {i : Nat} (hi : a.testBit i = true) : c.testBit i = true := by
  have := butN_bit a c i
  rw [h, hi, Nat.zero_testBit, Bool.true_and] at this
  cases hc : c.testBit i with
  | true => rfl
  | false => rw [hc] at this; cases this
theorem mem_sets {b : Bk} (h8 : b.1.length ≤ 8) {l : List Int} : l ∈ setsL b ↔ l.Sublist (standL b) := by
  have hr := rowsN_lt h8
  unfold setsL restL
  rw [List.mem_map]
  constructor
  · rintro ⟨set, hs, rfl⟩
    rw [List.mem_filter, beq_iff_eq] at hs
    have hbit : ∀ i, set.testBit i = true → (decide (i < b.1.length) && !(b.1.getD i rw0).2.1) = true := fun i hi => by
      rw [← stand_bit]
      exact but_zero hs.2 hi
    have e : numsL (fun i => set.testBit i) 8 = numsL (fun i => set.testBit i) b.1.length := by
      obtain ⟨c, hc⟩ := Nat.le.dest h8
      rw [← hc]
      exact nums_more (fun i hi => by
        have := hbit i hi
        rw [Bool.and_eq_true, decide_eq_true_eq] at this
        exact this.1) c
    unfold lstN standL
    rw [e]
    exact filter_sub (fun i hi => by
      have := hbit i hi
      rw [Bool.and_eq_true] at this
      exact this.2) _
  · intro h
    have hm : ∀ x ∈ l, x ∈ standL b := fun x hx => h.subset hx
    have hin := stand_in hm
    have hb : ∀ i, (Few.bitsL l).testBit i = decide ((i : Int) ∈ l) := bits_dec fun x hx => (hin x hx).1
    have hsub : butN (Few.bitsL l) (rowsN b) = 0 := by
      apply Nat.eq_of_testBit_eq
      intro i
      rw [butN_bit, hb, rows_mem, Nat.zero_testBit]
      by_cases hi : (i : Int) ∈ l
      · rw [dec_t (hm _ hi), Bool.not_true, Bool.and_false]
      · rw [dec_f hi, Bool.false_and]
    have hle : Few.bitsL l ≤ rowsN b := by
      have : Few.bitsL l = rowsN b &&& Few.bitsL l := by
        apply Nat.eq_of_testBit_eq
        intro i
        rw [Nat.testBit_and]
        cases hi : (Few.bitsL l).testBit i with
        | false => rw [Bool.and_false]
        | true => rw [but_zero hsub hi]; rfl
      rw [this]
      exact Nat.and_le_left
    refine ⟨Few.bitsL l, List.mem_filter.2 ⟨List.mem_range'_1.2 ⟨Nat.zero_le _, by omega⟩, by rw [hsub]; rfl⟩, ?_⟩
    unfold lstN
    rw [numsL_congr fun i _ => hb i]
    unfold standL at h
    obtain ⟨c, hc⟩ := Nat.le.dest h8
    rw [← hc, nums_more (fun i hi => by
      have := hin _ (of_decide_eq_true hi)
      omega) c]
    exact (sub_nums h).symm
/-- The fewest, as the reference looks for them. -/
def refFew (hs : List Int) (ok : List Int → Bool) : List Int := ((Few.subsTo hs hs.length).find? ok).getD hs
theorem subs_full {hs l : List Int} : l ∈ Few.subs hs hs.length ↔ l = hs := by
  rw [mem_subs]
  exact ⟨fun h => h.1.eq_of_length h.2, fun h => by rw [h]; exact ⟨List.Sublist.refl _, rfl⟩⟩
theorem few_best {hs : List Int} (hp : hs.Pairwise (· < ·)) {ok : List Int → Bool} (h : ok hs = true) : Best (fun l => l.Sublist hs ∧ ok l = true) (refFew hs ok) := by
  unfold refFew
  cases hf : (Few.subsTo hs hs.length).find? ok with
  | some r =>
    have := find_best ok (subsTo_pair hp _) (find_mono hf (k := hs.length + 1) (by omega))
    exact this.iff fun l => by rw [mem_all]
  | none =>
    have hn := List.find?_eq_none.1 hf
    refine ⟨⟨List.Sublist.refl _, h⟩, fun q hq hlt => ?_⟩
    have hle := hq.1.length_le
    rcases hlt with h1 | ⟨h1, h2⟩
    · exact hn q (mem_subsTo.2 ⟨hq.1, h1⟩) hq.2
    · rw [hq.1.eq_of_length h1] at h2
      exact lex_irr _ h2
theorem few_same {b : Bk} (h8 : b.1.length ≤ 8) {ok : List Int → Bool} (h : ok (standL b) = true) : (scan ok (setsL b) [] false).1 = refFew (standL b) ok := by
  obtain ⟨q1, q2⟩ := scan_best ok (setsL b)
  have e : ∀ l, (l ∈ setsL b ∧ ok l = true) ↔ (l.Sublist (standL b) ∧ ok l = true) := fun l => by rw [mem_sets h8]
  cases hf : (scan ok (setsL b) [] false).2 with
  | true => exact ((q1 hf).iff e).one (few_best (stand_pair b) h)
  | false =>
    have := q2 hf (standL b) ((mem_sets h8).2 (List.Sublist.refl _))
    rw [h] at this
    cases this
theorem subs_mem {hs l : List Int} {m : Nat} (h : l ∈ Few.subs hs m) : ∀ x ∈ l, x ∈ hs := fun _ hx => (mem_subs.1 h).1.subset hx
theorem subs_len {hs l : List Int} {m : Nat} (h : l ∈ Few.subs hs m) : l.length = m := (mem_subs.1 h).2
theorem bits_stand (b : Bk) : Few.bitsL (standL b) = rowsN b := rfl
theorem subs_cap {hs : List Int} {m : Nat} (h8 : hs.length ≤ 8) (hm : m ≤ 8) : (Few.subs hs m).length ≤ 16777216 := by
  unfold Few.subs
  rw [List.length_map]
  exact chooseL_cap h8 hm
theorem find_drop' {ok : List Int → Bool} {L : List (List Int)} {i : Nat} (h : i < L.length) : (L.drop i).find? ok = if ok L[i] = true then some L[i] else (L.drop (i + 1)).find? ok := by
  rw [List.drop_eq_getElem_cons h, List.find?_cons]
  cases ok L[i] <;> rfl
/-- 'Ground' of the reference. -/
theorem ref31 (b : Bk) (hv : VB b) (n : Nat) (hn6 : n < b.2.1.length) : ∀ (c m : Nat), m + c = (standL b).length → (Few.subsTo (standL b) m).find? (okG b n) = none → Ev fun k => T31_0 n (standL b) m b k = some (refFew (standL b) (okG b n), 0, ()) := by
  have h8 := hv.r8
  have hs8 := stand_len b
  intro c
  induction c with
  | zero =>
    intro m hm hn
    obtain rfl : m = (standL b).length := by omega
    refine U31_0 _ _ _ _ (Ev.eq (fun _ => Q31_0 _ _ _ _ _) ?_)
    rw [dec_f (by omega), refFew, hn]
    exact Ev.all fun _ => by first | rfl | trivial
  | succ c ih =>
    intro m hm hn
    refine U31_0 _ _ _ _ (Ev.eq (fun _ => Q31_0 _ _ _ _ _) ?_)
    have hih := ih (m + 1) (by omega)
    rw [Few.subsTo, List.find?_append, hn, Option.none_or] at hih
    rw [dec_t (show (m : Int) < ((standL b).length : Int) by omega), L99 _ _ (by omega) (by omega)]
    simp only [cond_true, Option.bind_some]
    have hmem : ∀ l ∈ Few.subs (standL b) m, ∀ x ∈ l, x ∈ standL b := fun l hl => subs_mem hl
    have hlen : ∀ l ∈ Few.subs (standL b) m, l.length = m := fun l hl => subs_len hl
    have hcap := subs_cap (hs := standL b) (m := m) (by omega) (by omega)
    have hfin : ∀ r, (Few.subs (standL b) m).find? (okG b n) = some r → refFew (standL b) (okG b n) = r := fun r hr => by
      have h1 : (Few.subsTo (standL b) (m + 1)).find? (okG b n) = some r := by rw [Few.subsTo, List.find?_append, hn, hr]; rfl
      rw [refFew, find_mono h1 (show m + 1 ≤ (standL b).length by omega)]
      rfl
    generalize Few.subs (standL b) m = L at *
    have inner : ∀ (c i : Nat), i + c = L.length → (L.drop i).find? (okG b n) = L.find? (okG b n) → Ev fun k => T31_1 n (standL b) m L i b k = some (refFew (standL b) (okG b n), 0, ()) := by
      intro c
      induction c with
      | zero =>
        intro i hi he
        refine U31_1 _ _ _ _ _ _ (Ev.eq (fun _ => Q31_1 _ _ _ _ _ _ _) ?_)
        rw [List.drop_eq_nil_of_le (by omega)] at he
        rw [dec_f (show ¬ ((i : Int) < (L.length : Int)) by omega), wrap_succ (n := m) (by omega)]
        exact hih he.symm
      | succ c ihi =>
        intro i hi he
        refine U31_1 _ _ _ _ _ _ (Ev.eq (fun _ => Q31_1 _ _ _ _ _ _ _) ?_)
        have hlt : i < L.length := by omega
        have hm1 := hmem _ (List.getElem_mem hlt)
        have hl1 := hlen _ (List.getElem_mem hlt)
        rw [find_drop' hlt] at he
        rw [dec_t (show (i : Int) < (L.length : Int) by omega), dec_t (show (0 : Int) ≤ (i : Int) by omega), Int.toNat_natCast, getD_lt hlt, wrap_succ (n := i) (by omega)]
        simp only [Bool.and_self, cond_true]
        rw [L48 b hv n hn6 _ hm1 (by omega)]
        simp only [Option.bind_some]
        cases hok : (okG b n) L[i] with
        | true =>
          rw [if_pos hok] at he
          rw [hfin _ he.symm]
          exact Ev.all fun _ => by first | rfl | trivial
        | false =>
          rw [if_neg (by rw [hok]; decide)] at he
          exact ihi (i + 1) (by omega) he
    exact inner L.length 0 (by omega) (by rw [List.drop_zero])
/-- A number stands without some rows. -/
theorem cut_by {b : Bk} {l : List Int} (hl : ∀ x ∈ l, x ∈ standL b) (n : Nat) : okC b n l = !okG b n (butL (standL b) l) := by
  have h2 : ∀ x ∈ butL (standL b) l, x ∈ standL b := fun x hx => (List.mem_filter.1 hx).1
  have e : Few.bitsL (butL (standL b) l) = butN (rowsN b) (Few.bitsL l) := by
    apply Nat.eq_of_testBit_eq
    intro i
    have h1 := stand_in hl
    rw [butN_bit, rows_mem, bits_dec fun x hx => (stand_in h2 x hx).1, bits_dec fun x hx => (h1 x hx).1]
    unfold butL
    rw [Bool.eq_iff_iff, decide_eq_true_eq, List.mem_filter, Bool.and_eq_true, decide_eq_true_eq]
  unfold okC okG
  rw [e]
/-- 'Cut' of the reference. -/
theorem ref35 (b : Bk) (hv : VB b) (n : Nat) (hn6 : n < b.2.1.length) : ∀ (c m : Nat), m + c = (standL b).length → (Few.subsTo (standL b) m).find? (okC b n) = none → Ev fun k => T35_0 n (standL b) m b k = some (refFew (standL b) (okC b n), 0, ()) := by
  have h8 := hv.r8
  have hs8 := stand_len b
  intro c
  induction c with
  | zero =>
    intro m hm hn
    obtain rfl : m = (standL b).length := by omega
    refine U35_0 _ _ _ _ (Ev.eq (fun _ => Q35_0 _ _ _ _ _) ?_)
    rw [dec_f (by omega), refFew, hn]
    exact Ev.all fun _ => by first | rfl | trivial
  | succ c ih =>
    intro m hm hn
    refine U35_0 _ _ _ _ (Ev.eq (fun _ => Q35_0 _ _ _ _ _) ?_)
    have hih := ih (m + 1) (by omega)
    rw [Few.subsTo, List.find?_append, hn, Option.none_or] at hih
    rw [dec_t (show (m : Int) < ((standL b).length : Int) by omega), L99 _ _ (by omega) (by omega)]
    simp only [cond_true, Option.bind_some]
    have hmem : ∀ l ∈ Few.subs (standL b) m, ∀ x ∈ l, x ∈ standL b := fun l hl => subs_mem hl
    have hlen : ∀ l ∈ Few.subs (standL b) m, l.length = m := fun l hl => subs_len hl
    have hcap := subs_cap (hs := standL b) (m := m) (by omega) (by omega)
    have hfin : ∀ r, (Few.subs (standL b) m).find? (okC b n) = some r → refFew (standL b) (okC b n) = r := fun r hr => by
      have h1 : (Few.subsTo (standL b) (m + 1)).find? (okC b n) = some r := by rw [Few.subsTo, List.find?_append, hn, hr]; rfl
      rw [refFew, find_mono h1 (show m + 1 ≤ (standL b).length by omega)]
      rfl
    generalize Few.subs (standL b) m = L at *
    have inner : ∀ (c i : Nat), i + c = L.length → (L.drop i).find? (okC b n) = L.find? (okC b n) → Ev fun k => T35_1 n (standL b) m L i b k = some (refFew (standL b) (okC b n), 0, ()) := by
      intro c
      induction c with
      | zero =>
        intro i hi he
        refine U35_1 _ _ _ _ _ _ (Ev.eq (fun _ => Q35_1 _ _ _ _ _ _ _) ?_)
        rw [List.drop_eq_nil_of_le (by omega)] at he
        rw [dec_f (show ¬ ((i : Int) < (L.length : Int)) by omega), wrap_succ (n := m) (by omega)]
        exact hih he.symm
      | succ c ihi =>
        intro i hi he
        refine U35_1 _ _ _ _ _ _ (Ev.eq (fun _ => Q35_1 _ _ _ _ _ _ _) ?_)
        have hlt : i < L.length := by omega
        have hm1 := hmem _ (List.getElem_mem hlt)
        have hl1 := hlen _ (List.getElem_mem hlt)
        rw [find_drop' hlt] at he
        rw [dec_t (show (i : Int) < (L.length : Int) by omega), dec_t (show (0 : Int) ≤ (i : Int) by omega), Int.toNat_natCast, getD_lt hlt, wrap_succ (n := i) (by omega)]
        simp only [Bool.and_self, cond_true]
        have h2 : ∀ x ∈ butL (standL b) L[i], x ∈ standL b := fun _ hx => (List.mem_filter.1 hx).1
        have h3 : (butL (standL b) L[i]).length ≤ 8 := Nat.le_trans (List.length_filter_le _ _) (by omega)
        rw [L100 _ _ (by omega) (by omega)]
        simp only [Option.bind_some]
        rw [L48 b hv n hn6 _ h2 (by omega)]
        simp only [Option.bind_some]
        rw [← cut_by hm1 n]
        cases hok : (okC b n) L[i] with
        | true =>
          rw [if_pos hok] at he
          rw [hfin _ he.symm]
          exact Ev.all fun _ => by first | rfl | trivial
        | false =>
          rw [if_neg (by rw [hok]; decide)] at he
          exact ihi (i + 1) (by omega) he
    exact inner L.length 0 (by omega) (by rw [List.drop_zero])
theorem L103 (b : Bk) (hv : VB b) (l : List Int) (hl : ∀ x ∈ l, 0 ≤ x ∧ x < b.1.length) (hll : l.length < 1000000) (h0 : (chkP b).2.2.1 = 0) : F103 ((b, l, ()) : Bk × List Int × Unit) = some (okW b l, ()) := by
  refine ghost_eq (Ev.eq (fun _ => E103 _ _ _) ?_)
  have h8 := hv.r8
  have hs := with_same b l hl
  rw [L44 b (by omega) l hl (by omega)]
  simp only [Option.bind_some]
  rw [L23]
  simp only [Option.bind_some]
  unfold clashR okW
  rw [hs.chk, if_neg (fun h => h h0), with_rows b l hl, hs.clash]
  rcases clashP b (butN (rowsN b) (Few.bitsL l)) with _ | ⟨n, i, k⟩ <;> exact Ev.all fun _ => by first | rfl | trivial
/-- 'Wrong' of the reference. -/
theorem ref37 (b : Bk) (hv : VB b) (h0 : (chkP b).2.2.1 = 0) : ∀ (c m : Nat), m + c = (standL b).length → (Few.subsTo (standL b) m).find? (okW b) = none → Ev fun k => T37_0 (standL b) m b k = some (refFew (standL b) (okW b), 0, ()) := by
  have h8 := hv.r8
  have hs8 := stand_len b
  intro c
  induction c with
  | zero =>
    intro m hm hn
    obtain rfl : m = (standL b).length := by omega
    refine U37_0 _ _ _ (Ev.eq (fun _ => Q37_0 _ _ _ _) ?_)
    rw [dec_f (by omega), refFew, hn]
    exact Ev.all fun _ => by first | rfl | trivial
  | succ c ih =>
    intro m hm hn
    refine U37_0 _ _ _ (Ev.eq (fun _ => Q37_0 _ _ _ _) ?_)
    have hih := ih (m + 1) (by omega)
    rw [Few.subsTo, List.find?_append, hn, Option.none_or] at hih
    rw [dec_t (show (m : Int) < ((standL b).length : Int) by omega), L99 _ _ (by omega) (by omega)]
    simp only [cond_true, Option.bind_some]
    have hmem : ∀ l ∈ Few.subs (standL b) m, ∀ x ∈ l, x ∈ standL b := fun l hl => subs_mem hl
    have hlen : ∀ l ∈ Few.subs (standL b) m, l.length = m := fun l hl => subs_len hl
    have hcap := subs_cap (hs := standL b) (m := m) (by omega) (by omega)
    have hfin : ∀ r, (Few.subs (standL b) m).find? (okW b) = some r → refFew (standL b) (okW b) = r := fun r hr => by
      have h1 : (Few.subsTo (standL b) (m + 1)).find? (okW b) = some r := by rw [Few.subsTo, List.find?_append, hn, hr]; rfl
      rw [refFew, find_mono h1 (show m + 1 ≤ (standL b).length by omega)]
      rfl
    generalize Few.subs (standL b) m = L at *
    have inner : ∀ (c i : Nat), i + c = L.length → (L.drop i).find? (okW b) = L.find? (okW b) → Ev fun k => T37_1 (standL b) m L i b k = some (refFew (standL b) (okW b), 0, ()) := by
      intro c
      induction c with
      | zero =>
        intro i hi he
        refine U37_1 _ _ _ _ _ (Ev.eq (fun _ => Q37_1 _ _ _ _ _ _) ?_)
        rw [List.drop_eq_nil_of_le (by omega)] at he
        rw [dec_f (show ¬ ((i : Int) < (L.length : Int)) by omega), wrap_succ (n := m) (by omega)]
        exact hih he.symm
      | succ c ihi =>
        intro i hi he
        refine U37_1 _ _ _ _ _ (Ev.eq (fun _ => Q37_1 _ _ _ _ _ _) ?_)
        have hlt : i < L.length := by omega
        have hm1 := hmem _ (List.getElem_mem hlt)
        have hl1 := hlen _ (List.getElem_mem hlt)
        rw [find_drop' hlt] at he
        rw [dec_t (show (i : Int) < (L.length : Int) by omega), dec_t (show (0 : Int) ≤ (i : Int) by omega), Int.toNat_natCast, getD_lt hlt, wrap_succ (n := i) (by omega)]
        simp only [Bool.and_self, cond_true]
        rw [L103 b hv _ (stand_in hm1) (by omega) h0]
        simp only [Option.bind_some]
        cases hok : (okW b) L[i] with
        | true =>
          rw [if_pos hok] at he
          rw [hfin _ he.symm]
          exact Ev.all fun _ => by first | rfl | trivial
        | false =>
          rw [if_neg (by rw [hok]; decide)] at he
          exact ihi (i + 1) (by omega) he
    exact inner L.length 0 (by omega) (by rw [List.drop_zero])
/-! ### without any rows -/
theorem none_makes {b : Bk} {n : Nat} (hn : n ≤ 6) (h8 : b.1.length ≤ 8) {w : Wy} (hw : VW b n w) {l : List Fd} (hl : ∀ i, (l.getD i fd0).1 = false) : makesP b w 0 l = fd0 := by
  obtain ⟨m, hm1⟩ := Int.eq_ofNat_of_zero_le hw.r0
  obtain ⟨t, ht⟩ := Int.eq_ofNat_of_zero_le hw.n0
  have h1 := hw.r1
  have h2 := hw.n1
  have hsome := hw.some
  rw [hm1] at h1
  rw [ht] at h2
  rw [hm1, ht] at hsome
  have h1 : m < 2 ^ b.1.length := by exact_mod_cast h1
  have h2 : t < 2 ^ n := by exact_mod_cast h2
  unfold makesP
  by_cases hm0 : m = 0
  · have ht0 : t ≠ 0 := fun h => hsome ⟨by rw [hm0]; rfl, by rw [h]; rfl⟩
    obtain ⟨i, hi⟩ := Nat.exists_testBit_of_ne_zero ht0
    have hi6 := bit_lt hi h2
    split
    · rfl
    · rw [if_pos]
      rw [List.any_eq_true]
      exact ⟨i, mem_bitL.2 ⟨by omega, by rw [ht, Int.toNat_natCast]; exact hi⟩, by rw [hl i]; rfl⟩
  · obtain ⟨i, hi⟩ := Nat.exists_testBit_of_ne_zero hm0
    have hi8 := bit_lt hi h1
    rw [if_pos]
    rw [List.any_eq_true]
    exact ⟨i, mem_bitL.2 ⟨by omega, by rw [hm1, Int.toNat_natCast]; exact hi⟩, by simp⟩
theorem rep_fd (i : Nat) : ((List.replicate 6 fd0).getD i fd0).1 = false := by
  rw [List.getD_eq_getElem?_getD, List.getElem?_replicate]
  split <;> rfl
theorem none_all {b : Bk} (hv : VB b) : ∀ n, n ≤ b.2.1.length → allN b 0 n = List.replicate 6 fd0
  | 0, _ => rfl
  | n + 1, hn => by
    have h6 := hv.n6
    rw [allN, none_all hv n (by omega)]
    have : firstP b 0 (List.replicate 6 fd0) (b.2.1.getD n []) = none := by
      unfold firstP
      rw [List.find?_eq_none]
      intro f hf
      obtain ⟨w, hw, rfl⟩ := List.mem_map.1 hf
      rw [none_makes (n := n) (by omega) hv.r8 (hv.ways n (by omega) w hw) rep_fd]
      decide
    rw [this]
theorem none_clash {b : Bk} (hv : VB b) : clashP b 0 = none := by
  unfold clashP allP
  have h6 := hv.n6
  rw [none_all hv _ (Nat.le_refl _)]
  have hk : ∀ (l : List Fd), (∀ f ∈ l, f = fd0) → ∀ k, clK fd0 l k = none := fun l _ k => clK_f rfl l k
  have hi : ∀ (l : List Fd) (i : Nat), (∀ f ∈ l, f = fd0) → clI l i = none := by
    intro l
    induction l with
    | nil => intro i _; rfl
    | cons x l ih =>
      intro i h
      rw [clI, h x (List.mem_cons_self ..), hk l (fun f hf => h f (List.mem_cons_of_mem _ hf))]
      exact ih _ fun f hf => h f (List.mem_cons_of_mem _ hf)
  have hn : ∀ (c n : Nat), n + c = b.2.1.length → clN b 0 (List.replicate 6 fd0) (b.2.1.drop n) n = none := by
    intro c
    induction c with
    | zero => intro n hn; rw [List.drop_eq_nil_of_le (by omega)]; rfl
    | succ c ih =>
      intro n hn
      have hlt : n < b.2.1.length := by omega
      rw [List.drop_eq_getElem_cons hlt, clN, ← getD_lt (z := []) hlt, hi _ 0 fun f hf => by
        obtain ⟨w, hw, rfl⟩ := List.mem_map.1 hf
        exact none_makes (n := n) (by omega) hv.r8 (hv.ways n hlt w hw) rep_fd]
      exact ih (n + 1) (by omega)
  have := hn b.2.1.length 0 (by omega)
  rw [List.drop_zero] at this
  exact this
theorem but_self (b : Bk) : butN (rowsN b) (Few.bitsL (standL b)) = 0 := by
  rw [bits_stand]
  apply Nat.eq_of_testBit_eq
  intro i
  rw [butN_bit, Nat.zero_testBit]
  cases (rowsN b).testBit i <;> rfl
theorem cut_all {b : Bk} (hv : VB b) (n : Nat) : okC b n (standL b) = true := by
  unfold okC allP
  rw [but_self, show ((0 : Nat) : Int) = 0 from rfl, none_all hv _ (Nat.le_refl _), rep_fd]
  rfl
theorem wrong_all {b : Bk} (hv : VB b) : okW b (standL b) = true := by
  unfold okW
  rw [but_self, show ((0 : Nat) : Int) = 0 from rfl, none_clash hv]
  rfl
theorem L31 (b : Bk) (n : Int) : F31 ((b, n, ()) : Bk × Int × Unit) = some (groundP b n) := by
  refine ghost_eq (Ev.eq (fun _ => E31 _ _ _) ?_)
  rw [L87]
  simp only [Option.bind_some]
  unfold groundP
  by_cases h : standE b n = 0
  · obtain ⟨hv, h0, h1, h2⟩ := standE_ok h
    have h8 := hv.r8
    obtain ⟨m, rfl⟩ := Int.eq_ofNat_of_zero_le h0
    rw [h, if_pos rfl, L47 b (by omega), Int.toNat_natCast, few_same h8 (ok := okG b m) (by unfold okG; rw [bits_stand]; simpa using h2)]
    simp only [Option.bind_some]
    exact ref31 b hv m (by omega) (standL b).length 0 (by omega) rfl
  · rw [if_neg h, bne_iff_ne.2 h]
    exact Ev.all fun _ => by first | rfl | trivial
theorem L35 (b : Bk) (n : Int) : F35 ((b, n, ()) : Bk × Int × Unit) = some (cutP b n) := by
  refine ghost_eq (Ev.eq (fun _ => E35 _ _ _) ?_)
  rw [L94 b n _ fun hv => ⟨by omega, by have := hv.n6; omega⟩]
  simp only [Option.bind_some]
  unfold cutP
  by_cases h : enterE b n b.2.1.length = 0
  · obtain ⟨hv, h0, h1⟩ := enterE_ok h
    have h8 := hv.r8
    obtain ⟨m, rfl⟩ := Int.eq_ofNat_of_zero_le h0
    rw [h, if_pos rfl, L47 b (by omega), Int.toNat_natCast, few_same h8 (ok := okC b m) (cut_all hv m)]
    simp only [Option.bind_some]
    exact ref35 b hv m (by omega) (standL b).length 0 (by omega) rfl
  · rw [if_neg h, bne_iff_ne.2 h]
    exact Ev.all fun _ => by first | rfl | trivial
theorem L37 (b : Bk) : F37 ((b, ()) : Bk × Unit) = some (wrongP b) := by
  refine ghost_eq (Ev.eq (fun _ => E37 _ _) ?_)
  rw [L19]
  simp only [Option.bind_some]
  unfold wrongP
  by_cases h : (chkP b).2.2.1 = 0
  · have hv := VB_of h
    have h8 := hv.r8
    rw [if_pos h, L47 b (by omega), few_same h8 (ok := okW b) (wrong_all hv), h]
    simp only [Option.bind_some]
    exact ref37 b hv h (standL b).length 0 (by omega) rfl
  · rw [if_neg h, bne_iff_ne.2 h]
    exact Ev.all fun _ => by first | rfl | trivial
end Go.Proofs.Ytallblpnlefpeaa
/- Needs of the reference, and lengths. Conditions: as each lemma states. -/
namespace Go.Proofs.Ytallblpnlefpeaa
open Go Go.Gh Go.Proofs Go.Few

theorem numsL_filter (q : Nat → Bool) (p : Int → Bool) : ∀ k, (numsL q k).filter p = numsL (fun i => q i && p (i : Int)) k
  | 0 => rfl
  | k + 1 => by
    rw [numsL_succ, numsL_succ]
    by_cases hq : q k = true
    · rw [if_pos hq, List.filter_append, numsL_filter q p k, hq, Bool.true_and]
      by_cases hp : p (k : Int) = true
      · rw [if_pos hp, List.filter_cons, if_pos hp]
        rfl
      · rw [if_neg hp, List.filter_cons, if_neg hp, List.filter_nil, List.append_nil]
    · have hq' : q k = false := by simpa using hq
      rw [if_neg hq, hq', Bool.false_and, if_neg (by decide)]
      exact numsL_filter q p k
theorem but_bits {b : Bk} {l : List Int} (hl : ∀ x ∈ l, x ∈ standL b) : Few.bitsL (butL (standL b) l) = butN (rowsN b) (Few.bitsL l) := by
  have h2 : ∀ x ∈ butL (standL b) l, x ∈ standL b := fun x hx => (List.mem_filter.1 hx).1
  apply Nat.eq_of_testBit_eq
  intro i
  have h1 := stand_in hl
  rw [butN_bit, rows_mem, bits_dec fun x hx => (stand_in h2 x hx).1, bits_dec fun x hx => (h1 x hx).1]
  unfold butL
  rw [Bool.eq_iff_iff, decide_eq_true_eq, List.mem_filter, Bool.and_eq_true, decide_eq_true_eq]
theorem needs_filter {b : Bk} (h8 : b.1.length ≤ 8) (n : Nat) : (standL b).filter (fun x => !okG b n (butL (standL b) [x])) = numsL (needsB b n) 8 := by
  have e1 : (standL b).filter (fun x => !okG b n (butL (standL b) [x])) = (standL b).filter fun x => !((allP b (offN b x.toNat)).getD n fd0).1 := by
    refine List.filter_congr fun x hx => ?_
    obtain ⟨i, h1, h2, rfl⟩ := stand_mem.1 hx
    unfold okG
    rw [but_bits fun y hy => by rw [List.mem_singleton.1 hy]; exact hx, bits_one, Int.toNat_natCast]
    rfl
  rw [e1]
  have e2 : numsL (needsB b n) 8 = numsL (needsB b n) b.1.length := by
    obtain ⟨c, hc⟩ := Nat.le.dest h8
    rw [← hc]
    refine nums_more (fun i hi => ?_) c
    unfold needsB at hi
    rw [stand_bit, Bool.and_eq_true, Bool.and_eq_true, decide_eq_true_eq] at hi
    exact hi.1.1
  rw [e2]
  unfold standL
  rw [numsL_filter]
  refine numsL_congr fun i hi => ?_
  unfold needsB
  rw [stand_bit, dec_t hi, Bool.true_and, Int.toNat_natCast]
theorem L33 (b : Bk) (n : Int) : F33 ((b, n, ()) : Bk × Int × Unit) = some (needsP b n) := by
  refine ghost_eq (Ev.eq (fun _ => E33 _ _ _) ?_)
  rw [L87]
  simp only [Option.bind_some]
  unfold needsP
  by_cases h : standE b n = 0
  · obtain ⟨hv, h0, h1, h2⟩ := standE_ok h
    have h8 := hv.r8
    have hs8 := stand_len b
    obtain ⟨m, rfl⟩ := Int.eq_ofNat_of_zero_le h0
    rw [h, if_pos rfl, L47 b (by omega), Int.toNat_natCast, ← needs_filter h8 m]
    simp only [Option.bind_some]
    have hmem : ∀ x ∈ standL b, x ∈ standL b := fun _ h => h
    generalize hS : standL b = S at *
    have key : ∀ (c i : Nat), i + c = S.length → Ev fun k => T33_0 m S i b ((S.take i).filter fun x => !okG b m (butL S [x])) k = some (S.filter fun x => !okG b m (butL S [x]), 0, ()) := by
      intro c
      induction c with
      | zero =>
        intro i hi
        refine U33_0 _ _ _ _ _ (Ev.eq (fun _ => Q33_0 _ _ _ _ _ _) ?_)
        rw [dec_f (by omega), List.take_of_length_le (by omega)]
        exact Ev.all fun _ => by first | rfl | trivial
      | succ c ih =>
        intro i hi
        refine U33_0 _ _ _ _ _ (Ev.eq (fun _ => Q33_0 _ _ _ _ _ _) ?_)
        have hlt : i < S.length := by omega
        have hih := ih (i + 1) (by omega)
        have hx := hmem _ (List.getElem_mem hlt)
        have h2 : ∀ x ∈ butL S [S[i]], x ∈ S := fun x hx => (List.mem_filter.1 hx).1
        have h3 : (butL S [S[i]]).length ≤ 8 := Nat.le_trans (List.length_filter_le _ _) (by omega)
        have h4 : ((S.take i).filter fun x => !okG b m (butL S [x])).length ≤ i := Nat.le_trans (List.length_filter_le _ _) (by rw [List.length_take]; omega)
        rw [dec_t (show (i : Int) < (S.length : Int) by omega), dec_t (show (0 : Int) ≤ (i : Int) by omega), Int.toNat_natCast, getD_lt hlt, wrap_succ (n := i) (by omega), one_set, L100 _ _ (by omega) (by simp)]
        simp only [Bool.and_self, cond_true, Option.bind_some]
        rw [L48 b hv m (by omega) _ (fun x hx => by rw [hS]; exact h2 x hx) (by omega), dec_t (show ((S.take i).filter fun x => !okG b m (butL S [x])).length + [S[i]].length ≤ 2147483648 by simp only [List.length_cons, List.length_nil]; omega)]
        simp only [Option.bind_some, cond_true]
        rw [List.take_succ_eq_append_getElem hlt, List.filter_append, List.filter_cons, List.filter_nil] at hih
        cases hok : okG b m (butL S [S[i]]) with
        | true =>
          rw [hok, if_neg (by decide), List.append_nil] at hih
          exact hih
        | false =>
          rw [hok, if_pos (by decide)] at hih
          exact hih
    exact key S.length 0 (by omega)
  · rw [if_neg h, bne_iff_ne.2 h]
    exact Ev.all fun _ => by first | rfl | trivial
theorem few_len {b : Bk} (h8 : b.1.length ≤ 8) {ok : List Int → Bool} (h : ok (standL b) = true) : (refFew (standL b) ok).length ≤ 8 := by
  have := (few_best (stand_pair b) h).is.1.length_le
  have := stand_len b
  omega
theorem ground_len (b : Bk) (n : Int) : (groundP b n).1.length < 1000000 := by
  unfold groundP
  split
  · rename_i h
    obtain ⟨hv, h0, h1, h2⟩ := standE_ok h
    have hk : okG b n.toNat (standL b) = true := by unfold okG; rw [bits_stand]; exact h2
    have := few_len hv.r8 hk
    simp only
    rw [few_same hv.r8 hk]
    omega
  · exact (show ([] : List Int).length < 1000000 by decide)
theorem cut_len (b : Bk) (n : Int) : (cutP b n).1.length < 1000000 := by
  unfold cutP
  split
  · rename_i h
    have hv := (enterE_ok h).1
    have := few_len hv.r8 (cut_all hv n.toNat)
    simp only
    rw [few_same hv.r8 (cut_all hv n.toNat)]
    omega
  · exact (show ([] : List Int).length < 1000000 by decide)
theorem wrong_len (b : Bk) : (wrongP b).1.length < 1000000 := by
  unfold wrongP
  split
  · rename_i h
    have hv := VB_of h
    have := few_len hv.r8 (wrong_all hv)
    simp only
    rw [few_same hv.r8 (wrong_all hv)]
    omega
  · exact (show ([] : List Int).length < 1000000 by decide)
theorem needs_len (b : Bk) (n : Int) : (needsP b n).1.length < 1000000 := by
  unfold needsP
  split
  · have := numsL_len (needsB b n.toNat) 8
    simp only
    omega
  · exact (show ([] : List Int).length < 1000000 by decide)
end Go.Proofs.Ytallblpnlefpeaa
