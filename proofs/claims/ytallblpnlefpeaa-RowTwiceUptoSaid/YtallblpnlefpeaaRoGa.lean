/- Helpers of the outright statements. Conditions: as each lemma states. (Some texts of another chapter, turned to this one.) -/
import Derived.Test.YtallblpnlefpeaaRoDa
import Derived.Test.YtallblpnlefpeaaRoF
namespace Go.Proofs.Ytallblpnlefpeaa
open Go Go.Gh Go.Proofs Go.Few

/-- 'Less', of lists of one length. -/
theorem L104 (l p : List Int) (hl : l.length < 1000000000000) (hlp : l.length = p.length) : ∃ b : Bool, F104 ((l, p, ()) : List Int × List Int × Unit) = some (b, ()) ∧ (b = true ↔ lex l p) := by
  have key : ∀ (e i : Nat), i + e = l.length → ∃ b : Bool, (Ev fun k => iter cx25 S104 [.bool] 6000 k 0 K104_0 (((l, (p, ((i : Int), ()))), ()), ()) = some (b, ())) ∧ (b = true ↔ lex (l.drop i) (p.drop i)) := by
    intro e
    induction e with
    | zero =>
      intro i hi
      refine ⟨false, iter_ev (Ev.eq (fun _ => Q104_0 _ _ _ _) ?_), ?_⟩
      · rw [dec_f (by omega), dec_f (show ¬ ((l.length : Int) < (p.length : Int)) by omega)]
        exact Ev.all fun _ => by first | rfl | trivial
      · rw [List.drop_eq_nil_of_le (by omega)]
        exact ⟨fun h => (by cases h), fun h => by simp [lex] at h⟩
    | succ e ih =>
      intro i hi
      obtain ⟨b, h1, h2⟩ := ih (i + 1) (by omega)
      have hlt : i < l.length := by omega
      have hlt' : i < p.length := by omega
      rw [List.drop_eq_getElem_cons hlt, List.drop_eq_getElem_cons hlt']
      simp only [lex]
      by_cases h : l[i] = p[i]
      · refine ⟨b, iter_ev (Ev.eq (fun _ => Q104_0 _ _ _ _) ?_), ?_⟩
        · have e1 : (l[i] != p[i]) = false := by simp [h]
          rw [Int.toNat_natCast, getD_lt hlt, getD_lt hlt', e1, wrap_succ (n := i) (by omega), dec_t (show (i : Int) < (l.length : Int) by omega), dec_t (show (i : Int) < (p.length : Int) by omega), dec_t (show (0 : Int) ≤ (i : Int) by omega)]
          exact h1
        · rw [h2]
          exact ⟨fun h3 => .inr ⟨h, h3⟩, fun h3 => by
            rcases h3 with h3 | ⟨_, h3⟩
            · omega
            · exact h3⟩
      · refine ⟨decide (l[i] < p[i]), iter_ev (Ev.eq (fun _ => Q104_0 _ _ _ _) ?_), ?_⟩
        · have e1 : (l[i] != p[i]) = true := by simpa using h
          rw [Int.toNat_natCast, getD_lt hlt, getD_lt hlt', e1, dec_t (show (i : Int) < (l.length : Int) by omega), dec_t (show (i : Int) < (p.length : Int) by omega), dec_t (show (0 : Int) ≤ (i : Int) by omega)]
          exact Ev.all fun _ => by first | rfl | trivial
        · rw [decide_eq_true_eq]
          exact ⟨fun h3 => .inl h3, fun h3 => by
            rcases h3 with h3 | ⟨h3, _⟩
            · exact h3
            · exact absurd h3 h⟩
  obtain ⟨b, h1, h2⟩ := key l.length 0 (by omega)
  rw [List.drop_zero, List.drop_zero] at h2
  exact ⟨b, ghost_eq (Ev.eq (fun _ => E104 _ _ _) h1), h2⟩
/-- 'Fewer'. -/
theorem L50 (l p : List Int) (hl : l.length < 1000000000000) : ∃ b : Bool, F50 ((l, p, ()) : List Int × List Int × Unit) = some (b, ()) ∧ (b = true ↔ fewer l p) := by
  by_cases h1 : l.length < p.length
  · refine ⟨true, ghost_eq (Ev.eq (fun _ => E50 _ _ _) ?_), ⟨fun _ => .inl h1, fun _ => rfl⟩⟩
    rw [dec_t (show (l.length : Int) < (p.length : Int) by omega)]
    exact Ev.all fun _ => by first | rfl | trivial
  · by_cases h2 : l.length = p.length
    · obtain ⟨b, h3, h4⟩ := L104 l p hl h2
      refine ⟨b, ghost_eq (Ev.eq (fun _ => E50 _ _ _) ?_), ?_⟩
      · have e1 : ((l.length : Int) == (p.length : Int)) = true := beq_iff_eq.2 (by rw [h2])
        rw [dec_f (show ¬ ((l.length : Int) < (p.length : Int)) by omega), e1, h3]
        exact Ev.all fun _ => by first | rfl | trivial
      · rw [h4]
        exact ⟨fun h => .inr ⟨h2, h⟩, fun h => by
          rcases h with h | ⟨_, h⟩
          · omega
          · exact h⟩
    · refine ⟨false, ghost_eq (Ev.eq (fun _ => E50 _ _ _) ?_), ⟨fun h => (by cases h), fun h => ?_⟩⟩
      · have e1 : ((l.length : Int) == (p.length : Int)) = false := by simp; omega
        rw [dec_f (show ¬ ((l.length : Int) < (p.length : Int)) by omega), e1]
        exact Ev.all fun _ => by first | rfl | trivial
      · rcases h with h | ⟨h, _⟩ <;> omega
/-- 'Rising', of lists that rise. -/
theorem L42 (l : List Int) (n : Nat) (hn : n < 1000000000000) (hl : l.length < 1000000000000) (hp : l.Pairwise (· < ·)) (hin : ∀ x ∈ l, 0 ≤ x ∧ x < n) : F42 ((l, (n : Int), ()) : List Int × Int × Unit) = some (true, ()) := by
  refine ghost_eq (Ev.eq (fun _ => E42 _ _ _) ?_)
  have key : ∀ (e i : Nat), i + e = l.length → Ev fun k => iter cx50 S42 [.bool] 6000 k 0 K42_0 (((l, ((n : Int), ((i : Int), ()))), ()), ()) = some (true, ()) := by
    intro e
    induction e with
    | zero =>
      intro i hi
      refine iter_ev (Ev.eq (fun _ => Q42_0 _ _ _ _) ?_)
      rw [dec_f (by omega)]
      exact Ev.all fun _ => by first | rfl | trivial
    | succ e ih =>
      intro i hi
      refine iter_ev (Ev.eq (fun _ => Q42_0 _ _ _ _) ?_)
      have hlt : i < l.length := by omega
      have hx := hin _ (List.getElem_mem hlt)
      rw [wrap_succ (n := i) (by omega), wrap_id (x := (n : Int) - 1) (by omega) (by omega), Int.toNat_natCast, getD_lt hlt, L51]
      simp only [Option.bind_some]
      rw [dec_t (show (i : Int) < (l.length : Int) by omega), dec_t (show (0 : Int) ≤ (i : Int) by omega), dec_t hx.1, dec_t (show l[i] ≤ (n : Int) - 1 by omega)]
      simp only [Bool.and_self, cond_true, Bool.not_true, cond_false]
      cases i with
      | zero => exact ih 1 (by omega)
      | succ i =>
        have w1 : IntKind.wrap IntKind.i64 (((i + 1 : Nat) : Int) - 1) = (i : Int) := by rw [wrap_id (by omega) (by omega)]; omega
        have := List.pairwise_iff_getElem.1 hp i (i + 1) (by omega) hlt (by omega)
        rw [w1, Int.toNat_natCast, getD_lt (show i < l.length by omega), dec_t (show ((i + 1 : Nat) : Int) > 0 by omega), dec_t (show (0 : Int) ≤ (i : Int) by omega), dec_t (show (i : Int) < (l.length : Int) by omega), dec_f (show ¬ (l[i + 1] ≤ l[i]) by omega)]
        exact ih (i + 2) (by omega)
  exact key l.length 0 (by omega)
/-- 'subset'. -/
theorem L43 (l p : List Int) (hl : l.length < 1000000000000) (hp : p.length < 1000000000000) : F43 ((l, p, ()) : List Int × List Int × Unit) = some (l.all fun x => decide (x ∈ p), ()) := by
  refine ghost_eq (Ev.eq (fun _ => E43 _ _ _) ?_)
  have key : ∀ (e i : Nat), i + e = l.length → Ev fun k => iter cx39 S43 [.bool] 6000 k 0 K43_0 (((l, (p, ((i : Int), ()))), ()), ()) = some ((l.drop i).all fun x => decide (x ∈ p), ()) := by
    intro e
    induction e with
    | zero =>
      intro i hi
      refine iter_ev (Ev.eq (fun _ => Q43_0 _ _ _ _) ?_)
      rw [dec_f (by omega), List.drop_eq_nil_of_le (by omega)]
      exact Ev.all fun _ => by first | rfl | trivial
    | succ e ih =>
      intro i hi
      refine iter_ev (Ev.eq (fun _ => Q43_0 _ _ _ _) ?_)
      have hlt : i < l.length := by omega
      rw [dec_t (show (i : Int) < (l.length : Int) by omega), dec_t (show (0 : Int) ≤ (i : Int) by omega), Int.toNat_natCast, getD_lt hlt, wrap_succ (n := i) (by omega), List.drop_eq_getElem_cons hlt, List.all_cons, L45 p hp]
      simp only [Bool.and_self, cond_true, Option.bind_some]
      by_cases h : l[i] ∈ p
      · rw [dec_t h]
        exact ih (i + 1) (by omega)
      · rw [dec_f h]
        exact Ev.all fun _ => by first | rfl | trivial
  have := key l.length 0 (by omega)
  rw [List.drop_zero] at this
  exact this
/-- 'valid'. -/
theorem L39 (b : Bk) : F39 ((b, ()) : Bk × Unit) = some ((chkP b).2.2.1 == 0, ()) := by
  refine ghost_eq (Ev.eq (fun _ => E39 _ _) ?_)
  rw [L19]
  exact Ev.all fun _ => by first | rfl | trivial
/-- What bits choose of a list. -/
def someL (l : List Int) (bits : Nat) : Nat → List Int
  | 0 => []
  | k + 1 => if bits.testBit k = true then someL l bits k ++ [l.getD k 0] else someL l bits k
theorem someL_len (l : List Int) (bits : Nat) : ∀ k, (someL l bits k).length ≤ k
  | 0 => Nat.le_refl _
  | k + 1 => by
    have := someL_len l bits k
    rw [someL]
    split
    · rw [List.length_append, List.length_singleton]; omega
    · omega
theorem someL_sub (l : List Int) (bits : Nat) : ∀ k, k ≤ l.length → (someL l bits k).Sublist (l.take k)
  | 0, _ => List.Sublist.refl _
  | k + 1, h => by
    have ih := someL_sub l bits k (by omega)
    have hlt : k < l.length := by omega
    rw [someL, List.take_succ_eq_append_getElem hlt]
    split
    · rw [getD_lt hlt]
      exact ih.append (List.Sublist.refl _)
    · exact ih.trans (List.sublist_append_left _ _)
theorem some_sub (l : List Int) (bits : Nat) : (someL l bits l.length).Sublist l := by
  have := someL_sub l bits l.length (Nat.le_refl _)
  rwa [List.take_length] at this
theorem L49 (l : List Int) (hl : l.length ≤ 1000000) (bits : Nat) (hb : bits ≤ 255) : F49 ((l, (bits : Int), ()) : List Int × Int × Unit) = some (someL l bits l.length, ()) := by
  refine ghost_eq (Ev.eq (fun _ => E49 _ _ _) ?_)
  have key : ∀ (c i : Nat), i + c = l.length → Ev fun k => iter cx43 S49 [.slice (.int .i64)] 6000 k 0 K49_0 (((l, ((bits : Int), ((), ((i : Int), ())))), ()), (someL l bits i, ())) = some (someL l bits l.length, ()) := by
    intro c
    induction c with
    | zero =>
      intro i hi
      obtain rfl : i = l.length := by omega
      refine iter_ev (Ev.eq (fun _ => Q49_0 _ _ _ _ _) ?_)
      rw [dec_f (by omega)]
      exact Ev.all fun _ => by first | rfl | trivial
    | succ c ih =>
      intro i hi
      refine iter_ev (Ev.eq (fun _ => Q49_0 _ _ _ _ _) ?_)
      have h := ih (i + 1) (by omega)
      have hn := someL_len l bits i
      rw [someL] at h
      rw [dec_t (show (i : Int) < (l.length : Int) by omega), wrap_id (x := (bits : Int)) (by omega) (by omega), L40 bits (by omega) i (by omega), dec_t (show (0 : Int) ≤ (i : Int) by omega), Int.toNat_natCast, wrap_succ (n := i) (by omega), one_set, dec_t (show (someL l bits i).length + [l.getD i 0].length ≤ 2147483648 by simp only [List.length_cons, List.length_nil]; omega)]
      simp only [Bool.and_self, cond_true, Option.bind_some]
      cases hb : bits.testBit i with
      | true => rw [hb, if_pos rfl] at h; exact h
      | false => rw [hb, if_neg (by decide)] at h; exact h
  exact key l.length 0 (by omega)

/-! ### with more rows no fewer numbers stand -/
theorem first_some {b : Bk} {rows : Int} {l : List Fd} {ws : List Wy} : (firstP b rows l ws).isSome = ws.any fun w => (makesP b w rows l).1 := by
  unfold firstP
  induction ws with
  | nil => rfl
  | cons w ws ih =>
    rw [List.map_cons, List.find?_cons, List.any_cons]
    cases (makesP b w rows l).1 with
    | true => rfl
    | false => exact ih
theorem stands_iff {b : Bk} {w : Wy} {n : Nat} (hn : n ≤ 6) (h8 : b.1.length ≤ 8) (hw : VW b n w) {rows : Int} {l : List Fd} :
    (makesP b w rows l).1 = true ↔ (∀ i, w.2.1.toNat.testBit i = true → rows.toNat.testBit i = true) ∧ ∀ i, w.2.2.1.toNat.testBit i = true → (l.getD i fd0).1 = true := by
  obtain ⟨m, hm1⟩ := Int.eq_ofNat_of_zero_le hw.r0
  obtain ⟨t, ht⟩ := Int.eq_ofNat_of_zero_le hw.n0
  have h1 := hw.r1
  have h2 := hw.n1
  have hsome := hw.some
  rw [hm1] at h1
  rw [ht] at h2
  rw [hm1, ht] at hsome
  have h1 : m < 2 ^ b.1.length := by exact_mod_cast h1
  have h2 : t < 2 ^ n := by exact_mod_cast h2
  rw [hm1, ht, Int.toNat_natCast, Int.toNat_natCast]
  unfold makesP
  constructor
  · intro h
    split at h
    · cases h
    · split at h
      · cases h
      · rename_i c1 c2
        rw [Bool.not_eq_true, List.any_eq_false] at c1 c2
        refine ⟨fun i hi => ?_, fun i hi => ?_⟩
        · have := c1 i (mem_bitL.2 ⟨by have := bit_lt hi h1; omega, by rw [hm1, Int.toNat_natCast]; exact hi⟩)
          simpa using this
        · have := c2 i (mem_bitL.2 ⟨by have := bit_lt hi h2; omega, by rw [ht, Int.toNat_natCast]; exact hi⟩)
          simpa using this
  · rintro ⟨c1, c2⟩
    rw [if_neg, if_neg]
    · have hne : (bitL w.2.1 8).map (fun i => (b.1.getD i rw0).1) ++ (bitL w.2.2.1 6).map (fun i => (l.getD i fd0).2.1) ≠ [] := by
        intro h
        rw [List.append_eq_nil_iff, List.map_eq_nil_iff, List.map_eq_nil_iff] at h
        by_cases hm0 : m = 0
        · have ht0 : t ≠ 0 := fun h => hsome ⟨by rw [hm0]; rfl, by rw [h]; rfl⟩
          obtain ⟨i, hi⟩ := Nat.exists_testBit_of_ne_zero ht0
          have : i ∈ bitL w.2.2.1 6 := mem_bitL.2 ⟨by have := bit_lt hi h2; omega, by rw [ht, Int.toNat_natCast]; exact hi⟩
          rw [h.2] at this
          cases this
        · obtain ⟨i, hi⟩ := Nat.exists_testBit_of_ne_zero hm0
          have : i ∈ bitL w.2.1 8 := mem_bitL.2 ⟨by have := bit_lt hi h1; omega, by rw [hm1, Int.toNat_natCast]; exact hi⟩
          rw [h.1] at this
          cases this
      cases hv : (bitL w.2.1 8).map (fun i => (b.1.getD i rw0).1) ++ (bitL w.2.2.1 6).map (fun i => (l.getD i fd0).2.1) with
      | nil => exact absurd hv hne
      | cons v r => rfl
    · rw [Bool.not_eq_true, List.any_eq_false]
      intro i hi
      have := c2 i (by have := (mem_bitL.1 hi).2; rw [ht, Int.toNat_natCast] at this; exact this)
      rw [this]
      decide
    · rw [Bool.not_eq_true, List.any_eq_false]
      intro i hi
      have := c1 i (by have := (mem_bitL.1 hi).2; rw [hm1, Int.toNat_natCast] at this; exact this)
      rw [this]
      decide
/-- A number of a book, by what was found before it. -/
theorem allN_at {b : Bk} (hv : VB b) (rows : Int) {n : Nat} (hn : n < b.2.1.length) : (allP b rows).getD n fd0 = (firstP b rows (allP b rows) (b.2.1.getD n [])).getD fd0 := by
  have h6 := hv.n6
  have hk := allN_ok hv rows n (by omega)
  obtain ⟨c, hc⟩ := Nat.le.dest (show n + 1 ≤ b.2.1.length by omega)
  have e : firstP b rows (allP b rows) (b.2.1.getD n []) = firstP b rows (allN b rows n) (b.2.1.getD n []) := by
    refine firstP_congr (fun i hi => ?_) (hv.ways n hn)
    unfold allP
    obtain ⟨c2, hc2⟩ := Nat.le.dest (show n ≤ b.2.1.length by omega)
    rw [← hc2]
    exact allN_stay b rows hi c2
  rw [e]
  unfold allP
  rw [← hc, allN_stay b rows (show n < n + 1 by omega) c, allN]
  cases hf : firstP b rows (allN b rows n) (b.2.1.getD n []) with
  | none =>
    simp only [Option.getD_none]
    exact hk.2.2 n (Nat.le_refl _)
  | some f =>
    simp only [Option.getD_some]
    rw [getD_set' (by rw [hk.1]; omega), if_pos rfl]
theorem at_stands {b : Bk} (hv : VB b) (rows : Int) {n : Nat} (hn : n < b.2.1.length) : ((allP b rows).getD n fd0).1 = (b.2.1.getD n []).any fun w => (makesP b w rows (allP b rows)).1 := by
  rw [allN_at hv rows hn, ← first_some]
  cases hf : firstP b rows (allP b rows) (b.2.1.getD n []) with
  | none => rfl
  | some f =>
    obtain ⟨w, _, _, h⟩ := firstP_of hf
    exact h
theorem stands_mono {b : Bk} (hv : VB b) {r s : Nat} (h : ∀ i, r.testBit i = true → s.testBit i = true) : ∀ n, n < b.2.1.length → ((allP b r).getD n fd0).1 = true → ((allP b s).getD n fd0).1 = true := by
  intro n
  induction n using Nat.strongRecOn with
  | _ n ih =>
    intro hn h1
    have h6 := hv.n6
    rw [at_stands hv _ hn, List.any_eq_true] at h1 ⊢
    obtain ⟨w, hw, h2⟩ := h1
    have hvw := hv.ways n hn w hw
    rw [stands_iff (n := n) (by omega) hv.r8 hvw] at h2
    refine ⟨w, hw, (stands_iff (n := n) (by omega) hv.r8 hvw).2 ⟨fun i hi => ?_, fun i hi => ?_⟩⟩
    · have := h2.1 i hi
      rw [Int.toNat_natCast] at this ⊢
      exact h i this
    · have hin := hvw.bit hi
      exact ih i hin (by omega) (h2.2 i hi)
end Go.Proofs.Ytallblpnlefpeaa
/- Values of a book without some rows, and numbers that have nothing to do with a row. Conditions: as each lemma states. -/
namespace Go.Proofs.Ytallblpnlefpeaa
open Go Go.Gh Go.Proofs Go.Few

def valA (A : List Fd) (n : Nat) : Int × Int × Unit := (if (A.getD n fd0).1 = true then (A.getD n fd0).2.1 else 0, if (A.getD n fd0).1 = true then 0 else 8, ())
theorem enterE_in {b : Bk} (h : (chkP b).2.2.1 = 0) {n below : Int} (h0 : 0 ≤ n) (h1 : n < below) : enterE b n below = 0 := by
  unfold enterE
  rw [if_neg (fun hn => hn h), if_neg (by omega)]
theorem value_b {b : Bk} (h : (chkP b).2.2.1 = 0) {n : Nat} (hn : n < b.2.1.length) : valueP b n = valA (allP b (rowsN b)) n := by
  unfold valueP standE valA
  rw [enterE_in h (by omega) (by omega), Int.toNat_natCast]
  simp only [ne_eq, not_true_eq_false, if_false]
  cases ((allP b (rowsN b)).getD n fd0).1 <;> rfl
theorem value_with {b : Bk} (h : (chkP b).2.2.1 = 0) {l : List Int} (hl : ∀ x ∈ l, 0 ≤ x ∧ x < b.1.length) {n : Nat} (hn : n < b.2.1.length) : valueP (withB b l) n = valA (allP b (butN (rowsN b) (Few.bitsL l))) n := by
  have hs := with_same b l hl
  rw [value_b (by rw [hs.chk]; exact h) (by rw [hs.nums]; exact hn), with_all b l hl]
theorem makesP_congr2 {b c : Bk} {w : Wy} {rows rows' : Int} {l l' : List Fd} (h1 : ∀ i, w.2.1.toNat.testBit i = true → rows.toNat.testBit i = rows'.toNat.testBit i ∧ (b.1.getD i rw0).1 = (c.1.getD i rw0).1)
    (h2 : ∀ i, w.2.2.1.toNat.testBit i = true → l.getD i fd0 = l'.getD i fd0) : makesP b w rows l = makesP c w rows' l' := by
  unfold makesP
  have e1 : ((bitL w.2.1 8).any fun i => !rows.toNat.testBit i) = (bitL w.2.1 8).any fun i => !rows'.toNat.testBit i := any_congr' fun i hi => by rw [(h1 i (mem_bitL.1 hi).2).1]
  have e2 : ((bitL w.2.2.1 6).any fun i => !(l.getD i fd0).1) = (bitL w.2.2.1 6).any fun i => !(l'.getD i fd0).1 := any_congr' fun i hi => by rw [h2 i (mem_bitL.1 hi).2]
  have e3 : ((bitL w.2.1 8).map fun i => (b.1.getD i rw0).1) = (bitL w.2.1 8).map fun i => (c.1.getD i rw0).1 := List.map_congr_left fun i hi => by rw [(h1 i (mem_bitL.1 hi).2).2]
  have e4 : ((bitL w.2.2.1 6).map fun i => (l.getD i fd0).2.1) = (bitL w.2.2.1 6).map fun i => (l'.getD i fd0).2.1 := List.map_congr_left fun i hi => by rw [h2 i (mem_bitL.1 hi).2]
  rw [e1, e2, e3, e4]
theorem off_bit {b : Bk} (r i : Nat) : (offN b r).testBit i = ((rowsN b).testBit i && !decide (r = i)) := by
  unfold offN
  rw [butN_bit, pow_bit]
theorem con_off {b : Bk} (hv : VB b) (r : Nat) : ∀ n, n < b.2.1.length → conF b r 6 n = false → (allP b (offN b r)).getD n fd0 = (allP b (rowsN b)).getD n fd0 := by
  intro n
  induction n using Nat.strongRecOn with
  | _ n ih =>
    intro hn hc
    have h6 := hv.n6
    rw [allN_at hv _ hn, allN_at hv _ hn]
    congr 1
    unfold firstP
    congr 1
    refine List.map_congr_left fun w hw => ?_
    have hvw := hv.ways n hn w hw
    have hwc : wayC b r 5 w = false := by
      rw [show conF b r 6 n = (b.2.1.getD n []).any (wayC b r 5) from rfl, List.any_eq_false] at hc
      simpa using hc w hw
    unfold wayC at hwc
    rw [Bool.or_eq_false_iff, List.any_eq_false] at hwc
    refine makesP_congr2 (fun i hi => ⟨?_, rfl⟩) (fun i hi => ?_)
    · rw [Int.toNat_natCast, Int.toNat_natCast, off_bit, dec_f (fun e => by rw [e] at hwc; rw [hwc.1] at hi; cases hi), Bool.not_false, Bool.and_true]
    · have hin := hvw.bit hi
      refine ih i hin (by omega) ?_
      have := hwc.2 i (List.mem_range'_1.2 (by omega))
      rw [hi, Bool.true_and, Bool.not_eq_true] at this
      rw [conF_stay hv r i (by omega) 6 5 (by omega) (by omega)]
      exact this
theorem chk_bool (b : Bk) : ((chkP b).2.2.1 == 0) = decide ((chkP b).2.2.1 = 0) := rfl
/-- What is chosen by a small number. -/
theorem tmod_nat (x m : Nat) : Int.tmod (x : Int) (m : Int) = ((x % m : Nat) : Int) := by
  rw [Int.tmod_eq_emod_of_nonneg (by omega)]
  simp
theorem enter_bad {b : Bk} (h : (chkP b).2.2.1 ≠ 0) (n below : Int) : enterE b n below = (chkP b).2.2.1 := by
  unfold enterE
  rw [if_pos h]
theorem mem_numsL {p : Nat → Bool} {k n : Nat} (hn : n < k) : decide ((n : Int) ∈ numsL p k) = p n := by
  rw [Bool.eq_iff_iff, decide_eq_true_eq, numsL_mem]
  constructor
  · rintro ⟨i, _, h2, h3⟩
    rw [show n = i by omega]
    exact h2
  · intro h
    exact ⟨n, hn, h, rfl⟩
theorem numsL_in {p : Nat → Bool} {k : Nat} : ∀ x ∈ numsL p k, 0 ≤ x ∧ x < k := fun x hx => by
  obtain ⟨i, h1, _, rfl⟩ := numsL_mem.1 hx
  omega
end Go.Proofs.Ytallblpnlefpeaa
