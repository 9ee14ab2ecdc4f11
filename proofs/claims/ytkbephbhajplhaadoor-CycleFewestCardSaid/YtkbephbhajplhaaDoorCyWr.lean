/- The states at the cuts of the reference (c). Conditions: none (abbreviations). -/
import Derived.Test.YtkbephbhajplhaaDoorCyR
import Derived.Test.YtkbephbhajplhaaDoorGhI
import Derived.Test.YtkbephbhajplhaaDoorCyY
namespace Go.Proofs.YtkbephbhajplhaaDoor
open Go Go.Gh Go.Proofs
noncomputable abbrev T54_0 (t1 : (List Int)) (t6 : Int) (h0 : Se) (h1 : Se) (h2 : (List Sm)) (f : Nat) : Option (denL [tSe]) := iter cx31 S54 [tSe] 6000 f 0 K54_0 (((t1, ((), ((), ((), (t6, ()))))), ()), (h0, (h1, (h2, ()))))
theorem U54_0 (t1 : (List Int)) (t6 : Int) (h0 : Se) (h1 : Se) (h2 : (List Sm)) {y : denL [tSe]} (h : Ev fun k => seg cx31 S54 [tSe] 6000 some (iter cx31 S54 [tSe] 6000 k) 0 K54_0 (((t1, ((), ((), ((), (t6, ()))))), ()), (h0, (h1, (h2, ())))) = some y) : Ev fun k => T54_0 t1 t6 h0 h1 h2 k = some y := iter_ev h
end Go.Proofs.YtkbephbhajplhaaDoor
/- The equations at the cuts of the reference, with the states' names (c). Conditions: none. (Printed by rest.py.) -/
namespace Go.Proofs.YtkbephbhajplhaaDoor
open Go Go.Gh Go.Proofs
theorem R54_0 (t1 : (List Int)) (t6 : Int) (h0 : Se) (h1 : Se) (h2 : (List Sm)) {y : denL [tSe]} (h : Ev fun k =>
 (bif decide (t6 < (↑(List.length (Prod.fst (Prod.snd h0))) : Int)) then
 Option.bind (F44 (t1, t6, ())) fun (y : Bool × Unit) =>
   bif !Prod.fst y then
    bif decide (0 ≤ t6) && decide (t6 < (↑(List.length (Prod.fst (Prod.snd h0))) : Int)) then
     bif decide (List.length h2 + List.length (List.set (List.replicate 1 (0, 0, (0, 0, ()), ())) 0 (List.getD (Prod.fst (Prod.snd h0)) (Int.toNat t6) (0, 0, (0, 0, ()), ()))) ≤ 2147483648) then
      T54_0 t1 (IntKind.wrap IntKind.i64 (t6 + 1)) h0 h1 (h2 ++ List.set (List.replicate 1 (0, 0, (0, 0, ()), ())) 0 (List.getD (Prod.fst (Prod.snd h0)) (Int.toNat t6) (0, 0, (0, 0, ()), ()))) k
     else none
    else none
   else T54_0 t1 (IntKind.wrap IntKind.i64 (t6 + 1)) h0 h1 h2 k
 else some ((Prod.fst h0, h2, Prod.fst (Prod.snd (Prod.snd h0)), ()), ()) : Option (denL [tSe])) = some y) : Ev fun k => T54_0 t1 t6 h0 h1 h2 k = some y := U54_0 _ _ _ _ _ (Ev.eq (fun _ => Q54_0 _ _ _ _ _ _) h)
theorem N54 (t0 : Se) (t1 : (List Int)) {y : denL [tSe]} (h : Ev fun k =>
 (T54_0 t1 0 t0 ([], [], (0, 0, ()), ()) ([]) k : Option (denL [tSe])) = some y) : F54 (t0, (t1, ())) = some y := ghost_eq (Ev.eq (fun _ => E54 _ _ _) h)
end Go.Proofs.YtkbephbhajplhaaDoor
/- The reference's 'Wrong' is the program's. Conditions: as each lemma states. -/
namespace Go.Proofs.YtkbephbhajplhaaDoor
open Go Go.Gh Go.Proofs
open Go.Few
def butS (s : Se) (l : List Int) (i : Nat) : List Sm := ((List.range i).filter fun k : Nat => !decide ((k : Int) ∈ l)).map fun k => s.2.1.getD k sm0
def butSe (s : Se) (l : List Int) : Se := (s.1, butS s l s.2.1.length, s.2.2.1, ())
theorem butS_succ (s : Se) (l : List Int) (i : Nat) : butS s l (i + 1) = if (!decide ((i : Int) ∈ l)) = true then butS s l i ++ [s.2.1.getD i sm0] else butS s l i := by
 unfold butS
 rw [List.range_succ, List.filter_append, List.map_append]
 simp only [List.filter_cons, List.filter_nil]
 split <;> simp
theorem L54 (s : Se) (l : List Int) (hl : l.length < 1000000) (h4 : s.2.1.length ≤ 4) : F54 ((s, l, ()) : Se × List Int × Unit) = some (butSe s l, ()) := by
 refine N54 _ _ ?_
 have key : ∀ (c i : Nat), i + c = s.2.1.length → Ev fun k => T54_0 l i s ([], [], (0, 0, ()), ()) (butS s l i) k = some (butSe s l, ()) := by
  intro c
  induction c with
  | zero =>
   intro i hi
   obtain rfl : i = s.2.1.length := by omega
   refine R54_0 _ _ _ _ _ ?_
   rw [dec_f (by omega)]
   exact Ev.all fun _ => rfl
  | succ c ih =>
   intro i hi
   have ih := ih (i + 1) (by omega)
   have hlen : (butS s l i).length ≤ 4 := by
    unfold butS
    rw [List.length_map]
    refine Nat.le_trans (List.length_filter_le _ _) ?_
    rw [List.length_range]; omega
   refine R54_0 _ _ _ _ _ ?_
   rw [dec_t (show (i : Int) < (s.2.1.length : Int) by omega), L44 l i hl, dec_t (show (0 : Int) ≤ (i : Int) by omega), Int.toNat_natCast, one_set, wrap_succ (n := i) (by omega), show s.2.1.getD i (0, 0, (0, 0, ()), ()) = s.2.1.getD i sm0 from rfl, dec_t (show (butS s l i).length + [s.2.1.getD i sm0].length ≤ 2147483648 by simp only [List.length_cons, List.length_nil]; omega)]
   simp only [Bool.and_self, cond_true, Option.bind_some]
   rw [butS_succ] at ih
   cases hd : decide ((i : Int) ∈ l) with
   | true =>
    rw [hd, if_neg (by simp)] at ih
    exact ih
   | false =>
    rw [hd, if_pos (show (!false) = true from rfl)] at ih
    exact ih
 exact key s.2.1.length 0 (by omega)
theorem butS_mem {s : Se} {l : List Int} {c : Sm} (h : c ∈ butS s l s.2.1.length) : ∃ k, k < s.2.1.length ∧ s.2.1.getD k sm0 = c := by
 unfold butS at h
 rw [List.mem_map] at h
 obtain ⟨k, hk, rfl⟩ := h
 exact ⟨k, List.mem_range.1 (List.mem_filter.1 hk).1, rfl⟩
theorem but_vs {s : Se} (hs : VS s) (l : List Int) : VS (butSe s l) := by
 refine ⟨hs.lo, hs.hi, hs.years, ?_, fun k hk => ?_, hs.gap⟩
 ·show (butS s l s.2.1.length).length ≤ 4
  unfold butS
  rw [List.length_map]
  refine Nat.le_trans (List.length_filter_le _ _) ?_
  rw [List.length_range]; exact hs.many
 ·have hk : k < (butS s l s.2.1.length).length := hk
  have hm : (butS s l s.2.1.length)[k] ∈ butS s l s.2.1.length := List.getElem_mem hk
  obtain ⟨j, hj, e⟩ := butS_mem hm
  have := hs.sums j hj
  rw [show (butSe s l).2.1.getD k sm0 = s.2.1.getD j sm0 from (getD_lt hk).trans e.symm]
  exact this
theorem but_all (s : Se) (l : List Int) : ∀ i, allB (butSe s l) i = allB s i
 | 0 => rfl
 | i + 1 => by
  simp only [allB, but_all s l i]
  rfl
theorem but_ok (s : Se) (l : List Int) (hl : ∀ x ∈ l, 0 ≤ x) (q : List Int) : okAll (butSe s l) 0 q = okAll s (Few.bitsL l) q := by
 unfold okAll
 congr 1
 rw [Bool.eq_iff_iff, List.all_eq_true, List.all_eq_true]
 have key : ∀ c : Sm, (inGap c.2.2.1 (sumL q c.1.toNat c.2.1.toNat) = true) = (inGap c.2.2.1 (sumL q c.1.toNat c.2.1.toNat) = true) := fun _ => rfl
 constructor
 ·intro h k hk
  unfold okSumR
  cases hb : (Few.bitsL l).testBit k with
  | true => rfl
  | false =>
   have hn : ¬ (k : Int) ∈ l := fun hm => by
    have := (Few.bitsL_bit hl k).2 hm
    rw [hb] at this; cases this
   have hm : s.2.1.getD k sm0 ∈ butS s l s.2.1.length := by
    unfold butS
    rw [List.mem_map]
    exact ⟨k, List.mem_filter.2 ⟨hk, by simp [hn]⟩, rfl⟩
   obtain ⟨j, hj, e⟩ := List.mem_iff_getElem.1 hm
   have h2 := h j (List.mem_range.2 hj)
   unfold okSumR at h2
   rw [Nat.zero_testBit, Bool.false_or, show (butSe s l).2.1.getD j sm0 = s.2.1.getD k sm0 from (getD_lt hj).trans e] at h2
   rw [Bool.false_or]
   exact h2
 ·intro h j hj
  have hj : j < (butS s l s.2.1.length).length := List.mem_range.1 hj
  unfold okSumR
  rw [Nat.zero_testBit, Bool.false_or, show (butSe s l).2.1.getD j sm0 = (butS s l s.2.1.length)[j] from getD_lt hj]
  have hm : (butS s l s.2.1.length)[j] ∈ butS s l s.2.1.length := List.getElem_mem hj
  generalize (butS s l s.2.1.length)[j] = c at hm
  unfold butS at hm
  rw [List.mem_map] at hm
  obtain ⟨k, hk, rfl⟩ := hm
  obtain ⟨h1, h2⟩ := List.mem_filter.1 hk
  have h3 := h k h1
  unfold okSumR at h3
  have hb : (Few.bitsL l).testBit k = false := by
   cases hb : (Few.bitsL l).testBit k with
   | false => rfl
   | true =>
    have := (Few.bitsL_bit hl k).1 hb
    rw [dec_t this] at h2; cases h2
  rw [hb, Bool.false_or] at h3
  exact h3
theorem but_truths (s : Se) (l : List Int) (hl : ∀ x ∈ l, 0 ≤ x) : truthsR (butSe s l) 0 = truthsR s (Few.bitsL l) := by
 unfold truthsR
 rw [but_all]
 show (allB s s.1.length).filter _ = _
 exact List.filter_congr fun q _ => but_ok s l hl q
theorem okW_but {s : Se} (hs : VS s) (l : List Int) (hl : ∀ x ∈ l, 0 ≤ x) : okW s l = decide (truthsR (butSe s l) 0 ≠ []) := by
 unfold okW
 rw [but_truths s l hl, truths_eq hs]
 rw [Bool.eq_iff_iff, decide_eq_true_eq, decide_eq_true_eq]
 simp
def idxL (s : Se) : List Int := upto 0 (s.2.1.length : Nat)
theorem idx_len (s : Se) : (idxL s).length = s.2.1.length := by
 unfold idxL
 rw [Few.upto_len]; omega
theorem idx_get (s : Se) {i : Nat} (h : i < s.2.1.length) : (idxL s).getD i 0 = (i : Int) := by
 rw [getD_lt (by rw [idx_len]; exact h)]
 unfold idxL upto
 simp
theorem sel_nums (s : Se) (set : Nat) : ∀ j, j ≤ s.2.1.length → Few.selB (idxL s) set j = numsL (set.testBit ·) j
 | 0, _ => rfl
 | j + 1, h => by
  rw [numsL_succ, ← sel_nums s set j (by omega)]
  simp only [Few.selB, idx_get s (show j < s.2.1.length by omega)]
theorem bits_sets (s : Se) : Few.byBits (idxL s) = setsL s.2.1.length 0 (2 ^ s.2.1.length) := by
 unfold Few.byBits setsL
 rw [idx_len, ← List.range_eq_range']
 exact List.map_congr_left fun set _ => sel_nums s set _ (Nat.le_refl _)
theorem wrong_find {s : Se} (h0 : (chkP s).2.2.1 = 0) : wrongP s = match (Few.subsTo (idxL s) (s.2.1.length + 1)).find? (okW s) with
  | some r => (r, 0, ())
  | none => ([], 9, ()) := by
 have hsf := Few.scan_find (ok := okW s) (ok' := okW s) (hs := idxL s) (show (idxL s).Pairwise (· < ·) from Few.upto_pair _ _) fun _ _ => rfl
 rw [bits_sets, idx_len] at hsf
 unfold wrongP
 rw [if_pos h0]
 cases hf : (Few.subsTo (idxL s) (s.2.1.length + 1)).find? (okW s) with
 | some r => rw [hsf.1 r hf]; rfl
 | none => rw [hsf.2 hf]; rfl
end Go.Proofs.YtkbephbhajplhaaDoor
