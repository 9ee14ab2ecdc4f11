/- The reference: the rows that stand, choices of them, and what stands by them alone. Conditions: as each lemma states. -/
import Derived.Test.YtallblpnlefpeaaRoBa
namespace Go.Proofs.Ytallblpnlefpeaa
open Go Go.Gh Go.Proofs Go.Few
theorem stand_mem {b : Bk} {x : Int} : x ∈ standL b ↔ ∃ i : Nat, i < b.1.length ∧ (b.1.getD i rw0).2.1 = false ∧ (i : Int) = x := by
 unfold standL
 rw [numsL_mem]
 constructor
 ·rintro ⟨i, h1, h2, h3⟩
  exact ⟨i, h1, by simpa using h2, h3⟩
 ·rintro ⟨i, h1, h2, h3⟩
  exact ⟨i, h1, (show (!(b.1.getD i rw0).2.1) = true by rw [h2]; rfl), h3⟩
theorem stand_in {b : Bk} {l : List Int} (h : ∀ x ∈ l, x ∈ standL b) : ∀ x ∈ l, 0 ≤ x ∧ x < b.1.length := fun x hx => by
 obtain ⟨i, h1, _, rfl⟩ := stand_mem.1 (h x hx)
 omega
theorem stand_len (b : Bk) : (standL b).length ≤ b.1.length := numsL_len _ _
theorem bits_dec {l : List Int} (h : ∀ x ∈ l, 0 ≤ x) (i : Nat) : (Few.bitsL l).testBit i = decide ((i : Int) ∈ l) := by
 rw [Bool.eq_iff_iff, Few.bitsL_bit h, decide_eq_true_eq]
theorem rows_mem (b : Bk) (i : Nat) : (rowsN b).testBit i = decide ((i : Int) ∈ standL b) := bits_dec (fun x hx => (stand_in (fun _ h => h) x hx).1) i
end Go.Proofs.Ytallblpnlefpeaa
/- Ground, Needs, Cut and Wrong of the reference: as the program. Conditions: as each lemma states. -/
namespace Go.Proofs.Ytallblpnlefpeaa
open Go Go.Gh Go.Proofs Go.Few
theorem sub_nums {q : Nat → Bool} : ∀ {k : Nat} {l : List Int}, l.Sublist (numsL q k) → l = numsL (fun i => decide ((i : Int) ∈ l)) k
 | 0, l, h => by
  have : l = [] := List.sublist_nil.1 h
  rw [this]
  rfl
 | k + 1, l, h => by
  rw [numsL_succ] at h
  have low : ∀ {p : List Int}, p.Sublist (numsL q k) → ¬ (k : Int) ∈ p := fun hp hk => by
   obtain ⟨n, h1, _, h3⟩ := numsL_mem.1 (hp.subset hk)
   omega
  by_cases hq : q k = true
  ·rw [if_pos hq] at h
   obtain ⟨l1, l2, rfl, h1, h2⟩ := List.sublist_append_iff.1 h
   have hl1 := sub_nums h1
   rw [numsL_succ]
   have e2 : l2 = [] ∨ l2 = [(k : Int)] := by
    cases h2 with
    | cons _ h2 => exact .inl (List.sublist_nil.1 h2)
    | cons_cons _ h2 => exact .inr (by rw [List.sublist_nil.1 h2])
   rcases e2 with rfl | rfl
   ·rw [List.append_nil, dec_f (low h1), if_neg (by decide)]
    exact hl1
   ·rw [dec_t (show (k : Int) ∈ l1 ++ [(k : Int)] by simp), if_pos rfl]
    congr 1
    refine hl1.trans (numsL_congr fun i hi => ?_)
    refine decide_eq_decide.2 ⟨fun h => List.mem_append_left _ h, fun h => ?_⟩
    rcases List.mem_append.1 h with h | h
    ·exact h
    ·have := List.mem_singleton.1 h
     omega
  ·rw [if_neg hq] at h
   rw [numsL_succ, dec_f (low h), if_neg (by decide)]
   exact sub_nums h
theorem stand_pair (b : Bk) : (standL b).Pairwise (· < ·) := numsL_pair _ _
theorem filter_sub {p q : Nat → Bool} (h : ∀ i, p i = true → q i = true) : ∀ k, (numsL p k).Sublist (numsL q k)
 | 0 => List.Sublist.refl _
 | k + 1 => by
  have ih := filter_sub h k
  rw [numsL_succ, numsL_succ]
  by_cases hp : p k = true
  ·rw [if_pos hp, if_pos (h k hp)]
   exact ih.append (List.Sublist.refl _)
  ·rw [if_neg hp]
   split
   ·exact ih.trans (List.sublist_append_left _ _)
   ·exact ih
theorem nums_more {p : Nat → Bool} {k : Nat} (h : ∀ i, p i = true → i < k) : ∀ c, numsL p (k + c) = numsL p k
 | 0 => rfl
 | c + 1 => by
  rw [show k + (c + 1) = (k + c) + 1 by omega, numsL_succ, if_neg (fun hp => by have := h _ hp; omega)]
  exact nums_more h c
theorem but_zero {a c : Nat} (h : butN a c = 0) {i : Nat} (hi : a.testBit i = true) : c.testBit i = true := by
 have := butN_bit a c i
 rw [h, hi, Nat.zero_testBit, Bool.true_and] at this
 cases hc : c.testBit i with
 | true => rfl
 | false => rw [hc] at this; cases this
theorem mem_sets {b : Bk} (h8 : b.1.length ≤ 8) {l : List Int} : l ∈ setsL b ↔ l.Sublist (standL b) := by
 have hr := rowsN_lt h8
 unfold setsL restL
 rw [List.mem_map]
 constructor
 ·rintro ⟨set, hs, rfl⟩
  rw [List.mem_filter, beq_iff_eq] at hs
  have hbit : ∀ i, set.testBit i = true → (decide (i < b.1.length) && !(b.1.getD i rw0).2.1) = true := fun i hi => by
   rw [← stand_bit]
   exact but_zero hs.2 hi
  have e : numsL (fun i => set.testBit i) 8 = numsL (fun i => set.testBit i) b.1.length := by
   obtain ⟨c, hc⟩ := Nat.le.dest h8
   rw [← hc]
   exact nums_more (fun i hi => by
    have := hbit i hi
    rw [Bool.and_eq_true, decide_eq_true_eq] at this
    exact this.1) c
  unfold lstN standL
  rw [e]
  exact filter_sub (fun i hi => by
   have := hbit i hi
   rw [Bool.and_eq_true] at this
   exact this.2) _
 ·intro h
  have hm : ∀ x ∈ l, x ∈ standL b := fun x hx => h.subset hx
  have hin := stand_in hm
  have hb : ∀ i, (Few.bitsL l).testBit i = decide ((i : Int) ∈ l) := bits_dec fun x hx => (hin x hx).1
  have hsub : butN (Few.bitsL l) (rowsN b) = 0 := by
   apply Nat.eq_of_testBit_eq
   intro i
   rw [butN_bit, hb, rows_mem, Nat.zero_testBit]
   by_cases hi : (i : Int) ∈ l
   ·rw [dec_t (hm _ hi), Bool.not_true, Bool.and_false]
   ·rw [dec_f hi, Bool.false_and]
  have hle : Few.bitsL l ≤ rowsN b := by
   have : Few.bitsL l = rowsN b &&& Few.bitsL l := by
    apply Nat.eq_of_testBit_eq
    intro i
    rw [Nat.testBit_and]
    cases hi : (Few.bitsL l).testBit i with
    | false => rw [Bool.and_false]
    | true => rw [but_zero hsub hi]; rfl
   rw [this]
   exact Nat.and_le_left
  refine ⟨Few.bitsL l, List.mem_filter.2 ⟨List.mem_range'_1.2 ⟨Nat.zero_le _, by omega⟩, by rw [hsub]; rfl⟩, ?_⟩
  unfold lstN
  rw [numsL_congr fun i _ => hb i]
  unfold standL at h
  obtain ⟨c, hc⟩ := Nat.le.dest h8
  rw [← hc, nums_more (fun i hi => by
   have := hin _ (of_decide_eq_true hi)
   omega) c]
  exact (sub_nums h).symm
def refFew (hs : List Int) (ok : List Int → Bool) : List Int := ((Few.subsTo hs hs.length).find? ok).getD hs
theorem few_best {hs : List Int} (hp : hs.Pairwise (· < ·)) {ok : List Int → Bool} (h : ok hs = true) : Best (fun l => l.Sublist hs ∧ ok l = true) (refFew hs ok) := by
 unfold refFew
 cases hf : (Few.subsTo hs hs.length).find? ok with
 | some r =>
  have := find_best ok (subsTo_pair hp _) (find_mono hf (k := hs.length + 1) (by omega))
  exact this.iff fun l => by rw [mem_all]
 | none =>
  have hn := List.find?_eq_none.1 hf
  refine ⟨⟨List.Sublist.refl _, h⟩, fun q hq hlt => ?_⟩
  have hle := hq.1.length_le
  rcases hlt with h1 | ⟨h1, h2⟩
  ·exact hn q (mem_subsTo.2 ⟨hq.1, h1⟩) hq.2
  ·rw [hq.1.eq_of_length h1] at h2
   exact lex_irr _ h2
theorem few_same {b : Bk} (h8 : b.1.length ≤ 8) {ok : List Int → Bool} (h : ok (standL b) = true) : (scan ok (setsL b) [] false).1 = refFew (standL b) ok := by
 obtain ⟨q1, q2⟩ := scan_best ok (setsL b)
 have e : ∀ l, (l ∈ setsL b ∧ ok l = true) ↔ (l.Sublist (standL b) ∧ ok l = true) := fun l => by rw [mem_sets h8]
 cases hf : (scan ok (setsL b) [] false).2 with
 | true => exact ((q1 hf).iff e).one (few_best (stand_pair b) h)
 | false =>
  have := q2 hf (standL b) ((mem_sets h8).2 (List.Sublist.refl _))
  rw [h] at this
  cases this
theorem bits_stand (b : Bk) : Few.bitsL (standL b) = rowsN b := rfl
theorem none_makes {b : Bk} {n : Nat} (hn : n ≤ 6) (h8 : b.1.length ≤ 8) {w : Wy} (hw : VW b n w) {l : List Fd} (hl : ∀ i, (l.getD i fd0).1 = false) : makesP b w 0 l = fd0 := by
 obtain ⟨m, hm1⟩ := Int.eq_ofNat_of_zero_le hw.r0
 obtain ⟨t, ht⟩ := Int.eq_ofNat_of_zero_le hw.n0
 have h1 := hw.r1
 have h2 := hw.n1
 have hsome := hw.some
 rw [hm1] at h1
 rw [ht] at h2
 rw [hm1, ht] at hsome
 have h1 : m < 2 ^ b.1.length := by exact_mod_cast h1
 have h2 : t < 2 ^ n := by exact_mod_cast h2
 unfold makesP
 by_cases hm0 : m = 0
 ·have ht0 : t ≠ 0 := fun h => hsome ⟨by rw [hm0]; rfl, by rw [h]; rfl⟩
  obtain ⟨i, hi⟩ := Nat.exists_testBit_of_ne_zero ht0
  have hi6 := bit_lt hi h2
  split
  ·rfl
  ·rw [if_pos]
   rw [List.any_eq_true]
   exact ⟨i, mem_bitL.2 ⟨by omega, by rw [ht, Int.toNat_natCast]; exact hi⟩, by rw [hl i]; rfl⟩
 ·obtain ⟨i, hi⟩ := Nat.exists_testBit_of_ne_zero hm0
  have hi8 := bit_lt hi h1
  rw [if_pos]
  rw [List.any_eq_true]
  exact ⟨i, mem_bitL.2 ⟨by omega, by rw [hm1, Int.toNat_natCast]; exact hi⟩, by simp⟩
theorem rep_fd (i : Nat) : ((List.replicate 6 fd0).getD i fd0).1 = false := by
 rw [List.getD_eq_getElem?_getD, List.getElem?_replicate]
 split <;> rfl
theorem none_all {b : Bk} (hv : VB b) : ∀ n, n ≤ b.2.1.length → allN b 0 n = List.replicate 6 fd0
 | 0, _ => rfl
 | n + 1, hn => by
  have h6 := hv.n6
  rw [allN, none_all hv n (by omega)]
  have : firstP b 0 (List.replicate 6 fd0) (b.2.1.getD n []) = none := by
   unfold firstP
   rw [List.find?_eq_none]
   intro f hf
   obtain ⟨w, hw, rfl⟩ := List.mem_map.1 hf
   rw [none_makes (n := n) (by omega) hv.r8 (hv.ways n (by omega) w hw) rep_fd]
   decide
  rw [this]
theorem but_self (b : Bk) : butN (rowsN b) (Few.bitsL (standL b)) = 0 := by
 rw [bits_stand]
 apply Nat.eq_of_testBit_eq
 intro i
 rw [butN_bit, Nat.zero_testBit]
 cases (rowsN b).testBit i <;> rfl
theorem cut_all {b : Bk} (hv : VB b) (n : Nat) : okC b n (standL b) = true := by
 unfold okC allP
 rw [but_self, show ((0 : Nat) : Int) = 0 from rfl, none_all hv _ (Nat.le_refl _), rep_fd]
 rfl
end Go.Proofs.Ytallblpnlefpeaa
/- Needs of the reference, and lengths. Conditions: as each lemma states. -/
namespace Go.Proofs.Ytallblpnlefpeaa
open Go Go.Gh Go.Proofs Go.Few
theorem few_len {b : Bk} (h8 : b.1.length ≤ 8) {ok : List Int → Bool} (h : ok (standL b) = true) : (refFew (standL b) ok).length ≤ 8 := by
 have := (few_best (stand_pair b) h).is.1.length_le
 have := stand_len b
 omega
theorem cut_len (b : Bk) (n : Int) : (cutP b n).1.length < 1000000 := by
 unfold cutP
 split
 ·rename_i h
  have hv := (enterE_ok h).1
  have := few_len hv.r8 (cut_all hv n.toNat)
  simp only
  rw [few_same hv.r8 (cut_all hv n.toNat)]
  omega
 ·exact (show ([] : List Int).length < 1000000 by decide)
end Go.Proofs.Ytallblpnlefpeaa
