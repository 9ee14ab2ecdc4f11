/- The reference: what has to do with a row, and rows that are struck out. Conditions: as each lemma states. -/
import Derived.Test.YtallblpnlefpeaaRoAa
namespace Go.Proofs.Ytallblpnlefpeaa
open Go Go.Gh Go.Proofs Go.Few

/-! ### what has to do with rows -/
def conW (b : Bk) (rows : Nat) (is : List Bool) (n : Nat) (w : Wy) : Bool :=
  ((List.range' 0 b.1.length).any fun i => w.2.1.toNat.testBit i && rows.testBit i) || (List.range' 0 n).any fun i => w.2.2.1.toNat.testBit i && is.getD i false
def conR (b : Bk) (rows : Nat) : Nat → List Bool
  | 0 => []
  | n + 1 => conR b rows n ++ [(b.2.1.getD n []).any (conW b rows (conR b rows n) n)]
theorem conR_len (b : Bk) (rows : Nat) : ∀ n, (conR b rows n).length = n
  | 0 => rfl
  | n + 1 => by rw [conR, List.length_append, conR_len b rows n]; rfl
theorem conR_at (b : Bk) (rows : Nat) {i n : Nat} (hi : i < n) : ∀ c, (conR b rows (n + c)).getD i false = (conR b rows n).getD i false
  | 0 => rfl
  | c + 1 => by
    have hl := conR_len b rows (n + c)
    rw [show n + (c + 1) = (n + c) + 1 by omega, conR, List.getD_eq_getElem?_getD, List.getElem?_append_left (by omega), ← List.getD_eq_getElem?_getD, conR_at b rows hi c]
theorem conR_last (b : Bk) (rows n : Nat) : (conR b rows (n + 1)).getD n false = (b.2.1.getD n []).any (conW b rows (conR b rows n) n) := by
  have hl := conR_len b rows n
  rw [conR, List.getD_eq_getElem?_getD, List.getElem?_append_right (by omega), hl]
  simp
theorem L41 (b : Bk) (hv : VB b) (rows : Nat) (hr : rows < 1000000000000) : F41 ((b, (rows : Int), ()) : Bk × Int × Unit) = some (conR b rows b.2.1.length, ()) := by
  refine ghost_eq (Ev.eq (fun _ => E41 _ _ _) ?_)
  have h6 := hv.n6
  have h8 := hv.r8
  have key : ∀ (c n : Nat), n + c = b.2.1.length → Ev fun k => T41_0 rows n b (conR b rows n) k = some (conR b rows b.2.1.length, ()) := by
    intro c
    induction c with
    | zero =>
      intro n hn
      obtain rfl : n = b.2.1.length := by omega
      refine U41_0 _ _ _ _ (Ev.eq (fun _ => Q41_0 _ _ _ _ _) ?_)
      rw [dec_f (by omega)]
      exact Ev.all fun _ => by first | rfl | trivial
    | succ c ih =>
      intro n hn
      refine U41_0 _ _ _ _ (Ev.eq (fun _ => Q41_0 _ _ _ _ _) ?_)
      have hlt : n < b.2.1.length := by omega
      have hih := ih (n + 1) (by omega)
      have hm := hv.many n hlt
      have hw := hv.ways n hlt
      have hl := conR_len b rows n
      rw [dec_t (show (n : Int) < (b.2.1.length : Int) by omega)]
      simp only [cond_true]
      rw [conR] at hih
      generalize hwe : b.2.1.getD n [] = ws at *
      generalize conR b rows n = is at *
      have ways : ∀ (c j : Nat) (met : Bool), j + c = ws.length → (met || (ws.drop j).any (conW b rows is n)) = ws.any (conW b rows is n) → Ev fun k => T41_1 rows n met j b is k = some (conR b rows b.2.1.length, ()) := by
        intro c
        induction c with
        | zero =>
          intro j met hj he
          refine U41_1 _ _ _ _ _ _ (Ev.eq (fun _ => Q41_1 _ _ _ _ _ _ _) ?_)
          rw [List.drop_eq_nil_of_le (by omega), List.any_nil, Bool.or_false] at he
          rw [← he] at hih
          rw [dec_t (show (0 : Int) ≤ (n : Int) by omega), dec_t (show (n : Int) < (b.2.1.length : Int) by omega), Int.toNat_natCast, hwe, dec_f (show ¬ ((j : Int) < (ws.length : Int)) by omega), wrap_succ (n := n) (by omega), one_set, dec_t (show is.length + [met].length ≤ 2147483648 by simp only [List.length_cons, List.length_nil]; omega)]
          exact hih
        | succ c ih2 =>
          intro j met hj he
          refine U41_1 _ _ _ _ _ _ (Ev.eq (fun _ => Q41_1 _ _ _ _ _ _ _) ?_)
          have hjl : j < ws.length := by omega
          rw [dec_t (show (0 : Int) ≤ (n : Int) by omega), dec_t (show (n : Int) < (b.2.1.length : Int) by omega), Int.toNat_natCast, hwe, dec_t (show (j : Int) < (ws.length : Int) by omega), Int.toNat_natCast, dec_t (show (0 : Int) ≤ (j : Int) by omega), getD_lt hjl]
          simp only [Bool.and_self, cond_true]
          rw [List.drop_eq_getElem_cons hjl, List.any_cons] at he
          have hww := hw _ (List.getElem_mem hjl)
          generalize ws[j] = w at *
          obtain ⟨p, hp⟩ := Int.eq_ofNat_of_zero_le hww.r0
          obtain ⟨q, hq⟩ := Int.eq_ofNat_of_zero_le hww.n0
          have h1 := hww.r1
          have h2 := hww.n1
          rw [hp] at h1
          rw [hq] at h2
          have h1 : p < 2 ^ b.1.length := by exact_mod_cast h1
          have h2 : q < 2 ^ n := by exact_mod_cast h2
          have hp8 : p < 2 ^ 8 := Nat.lt_of_lt_of_le h1 (Nat.pow_le_pow_right (by decide) h8)
          have hq6 : q < 2 ^ 6 := Nat.lt_of_lt_of_le h2 (Nat.pow_le_pow_right (by decide) (by omega))
          have hcw : conW b rows is n w = (((List.range' 0 b.1.length).any fun i => p.testBit i && rows.testBit i) || (List.range' 0 n).any fun i => q.testBit i && is.getD i false) := by
            rw [conW, hp, hq, Int.toNat_natCast, Int.toNat_natCast]
          rw [hcw] at he
          have nums : ∀ (c i : Nat) (m : Bool), i + c = n → ((m || (List.range' i c).any fun i => q.testBit i && is.getD i false) || (ws.drop (j + 1)).any (conW b rows is n)) = ws.any (conW b rows is n) → Ev fun k => T41_3 rows n m j i b w is k = some (conR b rows b.2.1.length, ()) := by
            intro c
            induction c with
            | zero =>
              intro i m hi hme
              refine U41_3 _ _ _ _ _ _ _ _ (Ev.eq (fun _ => Q41_3 _ _ _ _ _ _ _ _ _) ?_)
              rw [dec_f (show ¬ ((i : Int) < (n : Int)) by omega), wrap_succ (n := j) (by omega)]
              exact ih2 (j + 1) m (by omega) (by rw [List.range'_zero, List.any_nil, Bool.or_false] at hme; exact hme)
            | succ c ih3 =>
              intro i m hi hme
              refine U41_3 _ _ _ _ _ _ _ _ (Ev.eq (fun _ => Q41_3 _ _ _ _ _ _ _ _ _) ?_)
              rw [List.range'_succ, List.any_cons] at hme
              rw [dec_t (show (i : Int) < (n : Int) by omega), wrap_succ (n := i) (by omega), hq, L40 q (by omega) i (by omega), dec_t (show (0 : Int) ≤ (i : Int) by omega), dec_t (show (i : Int) < (is.length : Int) by omega), Int.toNat_natCast, dec_t (show i < is.length by omega)]
              simp only [Bool.and_self, cond_true, Option.bind_some]
              cases m with
              | true =>
                rw [Bool.true_or] at hme
                exact ih3 (i + 1) true (by omega) (by rw [Bool.true_or]; exact hme)
              | false =>
                cases hb : q.testBit i with
                | true =>
                  rw [hb, Bool.true_and, Bool.false_or] at hme
                  exact ih3 (i + 1) _ (by omega) hme
                | false =>
                  rw [hb, Bool.false_and, Bool.false_or, Bool.false_or] at hme
                  exact ih3 (i + 1) false (by omega) (by rw [Bool.false_or]; exact hme)
          have rws : ∀ (c i : Nat) (m : Bool), i + c = b.1.length → (((m || (List.range' i c).any fun i => p.testBit i && rows.testBit i) || (List.range' 0 n).any fun i => q.testBit i && is.getD i false) || (ws.drop (j + 1)).any (conW b rows is n)) = ws.any (conW b rows is n) → Ev fun k => T41_2 rows n m j i b w is k = some (conR b rows b.2.1.length, ()) := by
            intro c
            induction c with
            | zero =>
              intro i m hi hme
              refine U41_2 _ _ _ _ _ _ _ _ (Ev.eq (fun _ => Q41_2 _ _ _ _ _ _ _ _ _) ?_)
              rw [dec_f (show ¬ ((i : Int) < (b.1.length : Int)) by omega)]
              rw [List.range'_zero, List.any_nil, Bool.or_false] at hme
              exact nums n 0 m (by omega) hme
            | succ c ih3 =>
              intro i m hi hme
              refine U41_2 _ _ _ _ _ _ _ _ (Ev.eq (fun _ => Q41_2 _ _ _ _ _ _ _ _ _) ?_)
              rw [List.range'_succ, List.any_cons] at hme
              rw [dec_t (show (i : Int) < (b.1.length : Int) by omega), wrap_succ (n := i) (by omega), hp, L40 p (by omega) i (by omega), L40 rows hr i (by omega)]
              simp only [cond_true, Option.bind_some]
              cases m with
              | true =>
                rw [Bool.true_or] at hme
                exact ih3 (i + 1) true (by omega) (by rw [Bool.true_or]; exact hme)
              | false =>
                cases hb : p.testBit i with
                | true =>
                  rw [hb, Bool.true_and, Bool.false_or] at hme
                  exact ih3 (i + 1) _ (by omega) hme
                | false =>
                  rw [hb, Bool.false_and, Bool.false_or, Bool.false_or] at hme
                  exact ih3 (i + 1) false (by omega) (by rw [Bool.false_or]; exact hme)
          exact rws b.1.length 0 met (by omega) (by rw [← he]; cases met <;> simp [Bool.or_assoc])
      exact ways ws.length 0 false (by omega) (by rw [List.drop_zero, Bool.false_or])
  exact key b.2.1.length 0 (by omega)
theorem L95 (r : Nat) (hr : r < 40) : F95 (([(r : Int)], ()) : List Int × Unit) = some (((2 ^ r : Nat) : Int), ()) := by
  refine ghost_eq (Ev.eq (fun _ => E95 _ _) ?_)
  have hp : 2 ^ r < 2 ^ 40 := Nat.pow_lt_pow_right (by decide) hr
  have inner : ∀ (c i : Nat), i + c = r → Ev fun k => T95_1 [(r : Int)] 0 0 ((2 ^ i : Nat) : Int) i k = some (((2 ^ r : Nat) : Int), ()) := by
    intro c
    induction c with
    | zero =>
      intro i hi
      obtain rfl : i = r := by omega
      refine U95_1 _ _ _ _ _ (Ev.eq (fun _ => Q95_1 _ _ _ _ _ _) ?_)
      rw [show ([(i : Int)] : List Int).getD (Int.toNat 0) 0 = (i : Int) from rfl, dec_f (show ¬ ((i : Int) < (i : Int)) by omega)]
      refine U95_0 _ _ _ (Ev.eq (fun _ => Q95_0 _ _ _ _) ?_)
      have h0 : (0 : Int) ≤ ((2 ^ i : Nat) : Int) := Int.natCast_nonneg _
      rw [wrap_id (x := (0 : Int) + ((2 ^ i : Nat) : Int)) (by omega) (by omega), Int.zero_add]
      exact Ev.all fun _ => by first | rfl | trivial
    | succ c ih =>
      intro i hi
      refine U95_1 _ _ _ _ _ (Ev.eq (fun _ => Q95_1 _ _ _ _ _ _) ?_)
      have h := ih (i + 1) (by omega)
      have hq : 2 ^ i < 2 ^ 40 := Nat.pow_lt_pow_right (by decide) (by omega)
      have h0 : (0 : Int) ≤ ((2 ^ i : Nat) : Int) := Int.natCast_nonneg _
      rw [show ([(r : Int)] : List Int).getD (Int.toNat 0) 0 = (r : Int) from rfl, dec_t (show (i : Int) < (r : Int) by omega), wrap_succ (n := i) (by omega), wrap_id (x := 2 * ((2 ^ i : Nat) : Int)) (by omega) (by omega), show 2 * ((2 ^ i : Nat) : Int) = ((2 ^ (i + 1) : Nat) : Int) by rw [Nat.pow_succ]; omega]
      exact h
  refine U95_0 _ _ _ (Ev.eq (fun _ => Q95_0 _ _ _ _) ?_)
  exact inner r 0 (by omega)

/-! ### the same, by steps or all at once -/
theorem conF_stay {b : Bk} (hv : VB b) (r : Nat) : ∀ (n : Nat), n < b.2.1.length → ∀ e e', n < e → n < e' → conF b r e n = conF b r e' n := by
  intro n
  induction n using Nat.strongRecOn with
  | _ n ih =>
    intro hn e e' he he'
    obtain ⟨e, rfl⟩ : ∃ d, e = d + 1 := ⟨e - 1, by omega⟩
    obtain ⟨e', rfl⟩ : ∃ d, e' = d + 1 := ⟨e' - 1, by omega⟩
    rw [conF_way, conF_way]
    refine any_congr' fun w hw => ?_
    unfold wayC
    congr 1
    refine any_congr' fun k _ => ?_
    cases hb : w.2.2.1.toNat.testBit k with
    | false => rfl
    | true =>
      have hk := (hv.ways n hn w hw).bit hb
      rw [ih k hk (by omega) e e' (by omega) (by omega)]
theorem pow_bit (r i : Nat) : (2 ^ r).testBit i = decide (r = i) := Nat.testBit_two_pow
theorem conR_conF {b : Bk} (hv : VB b) {r : Nat} (hr : r < b.1.length) : ∀ n, n < b.2.1.length → (conR b (2 ^ r) (n + 1)).getD n false = conF b r 6 n := by
  intro n
  induction n using Nat.strongRecOn with
  | _ n ih =>
    intro hn
    have h6 := hv.n6
    rw [conR_last, show conF b r 6 n = (b.2.1.getD n []).any (wayC b r 5) from rfl]
    refine any_congr' fun w hw => ?_
    have hvw := hv.ways n hn w hw
    unfold conW wayC
    congr 1
    · rw [Bool.eq_iff_iff, List.any_eq_true]
      constructor
      · rintro ⟨i, _, h⟩
        rw [pow_bit, Bool.and_eq_true, decide_eq_true_eq] at h
        rw [h.2]
        exact h.1
      · intro h
        exact ⟨r, List.mem_range'_1.2 (by omega), by rw [h, pow_bit]; simp⟩
    · rw [Bool.eq_iff_iff, List.any_eq_true, List.any_eq_true]
      constructor
      · rintro ⟨i, hi, h⟩
        have hi := List.mem_range'_1.1 hi
        rw [Bool.and_eq_true] at h
        refine ⟨i, List.mem_range'_1.2 (by omega), ?_⟩
        obtain ⟨c, hc⟩ := Nat.le.dest (show i + 1 ≤ n by omega)
        rw [← hc, conR_at b _ (by omega) c, ih i (by omega) (by omega)] at h
        rw [h.1, conF_stay hv r i (by omega) 5 6 (by omega) (by omega), h.2]
        rfl
      · rintro ⟨i, _, h⟩
        rw [Bool.and_eq_true] at h
        have hin := hvw.bit h.1
        refine ⟨i, List.mem_range'_1.2 (by omega), ?_⟩
        obtain ⟨c, hc⟩ := Nat.le.dest (show i + 1 ≤ n by omega)
        rw [← hc, conR_at b _ (by omega) c, ih i (by omega) (by omega), h.1, ← conF_stay hv r i (by omega) 5 6 (by omega) (by omega), h.2]
        rfl
theorem numsL_congr {p q : Nat → Bool} : ∀ {k : Nat}, (∀ i, i < k → p i = q i) → numsL p k = numsL q k
  | 0, _ => rfl
  | k + 1, h => by rw [numsL_succ, numsL_succ, h k (by omega), numsL_congr fun i hi => h i (by omega)]
/-- 'Again' of the reference. -/
theorem L26 (b : Bk) (row : Int) : F26 ((b, row, ()) : Bk × Int × Unit) = some (againP b row) := by
  refine ghost_eq (Ev.eq (fun _ => E26 _ _ _) ?_)
  rw [L94 b row _ fun hv => ⟨by omega, by have := hv.r8; omega⟩]
  simp only [Option.bind_some]
  unfold againP
  by_cases h : enterE b row b.1.length = 0
  · obtain ⟨hv, h0, h1⟩ := enterE_ok h
    have h8 := hv.r8
    have h6 := hv.n6
    obtain ⟨r, rfl⟩ := Int.eq_ofNat_of_zero_le h0
    have hp : 2 ^ r < 2 ^ 8 := Nat.pow_lt_pow_right (by decide) (by omega)
    rw [h, if_pos rfl, Int.toNat_natCast, one_set, L95 r (by omega)]
    simp only [Option.bind_some]
    rw [L41 b hv _ (by omega)]
    simp only [Option.bind_some]
    have hl := conR_len b (2 ^ r) b.2.1.length
    have hat : ∀ n, n < b.2.1.length → (conR b (2 ^ r) b.2.1.length).getD n false = conF b r 6 n := fun n hn => by
      obtain ⟨c, hc⟩ := Nat.le.dest (show n + 1 ≤ b.2.1.length by omega)
      rw [← hc, conR_at b _ (by omega) c, conR_conF hv (by omega) n hn]
    have key : ∀ (c n : Nat), n + c = b.2.1.length → Ev fun k => T26_0 (conR b (2 ^ r) b.2.1.length) n (numsL (conF b r 6) n) k = some (numsL (conF b r 6) b.2.1.length, 0, ()) := by
      intro c
      induction c with
      | zero =>
        intro n hn
        obtain rfl : n = b.2.1.length := by omega
        refine U26_0 _ _ _ (Ev.eq (fun _ => Q26_0 _ _ _ _) ?_)
        rw [dec_f (by omega)]
        exact Ev.all fun _ => by first | rfl | trivial
      | succ c ih =>
        intro n hn
        refine U26_0 _ _ _ (Ev.eq (fun _ => Q26_0 _ _ _ _) ?_)
        have hln := numsL_len (conF b r 6) n
        have hi := ih (n + 1) (by omega)
        rw [numsL_succ] at hi
        rw [dec_t (show (n : Int) < ((conR b (2 ^ r) b.2.1.length).length : Int) by omega), dec_t (show (0 : Int) ≤ (n : Int) by omega), Int.toNat_natCast, hat n (by omega), wrap_succ (n := n) (by omega), one_set, dec_t (show (numsL (conF b r 6) n).length + [(n : Int)].length ≤ 2147483648 by simp only [List.length_cons, List.length_nil]; omega)]
        simp only [Bool.and_self, cond_true]
        cases hc : conF b r 6 n with
        | true => rw [hc, if_pos rfl] at hi; exact hi
        | false => rw [hc, if_neg (by decide)] at hi; exact hi
    exact key b.2.1.length 0 (by omega)
  · rw [if_neg h, bne_iff_ne.2 h]
    exact Ev.all fun _ => by first | rfl | trivial

/-! ### books that differ in what is struck out alone -/
structure Same (b c : Bk) : Prop where
  nums : c.2.1 = b.2.1
  len : c.1.length = b.1.length
  val : ∀ i, (c.1.getD i rw0).1 = (b.1.getD i rw0).1
theorem Same.makes {b c : Bk} (h : Same b c) (w : Wy) (rows : Int) (l : List Fd) : makesP c w rows l = makesP b w rows l := by
  unfold makesP
  rw [show ((bitL w.2.1 8).map fun i => (c.1.getD i rw0).1) = (bitL w.2.1 8).map fun i => (b.1.getD i rw0).1 from List.map_congr_left fun i _ => h.val i]
theorem Same.allN {b c : Bk} (h : Same b c) (rows : Int) : ∀ n, Ytallblpnlefpeaa.allN c rows n = Ytallblpnlefpeaa.allN b rows n
  | 0 => rfl
  | n + 1 => by
    rw [Ytallblpnlefpeaa.allN, Ytallblpnlefpeaa.allN, h.allN rows n, h.nums]
    have : firstP c rows (Ytallblpnlefpeaa.allN b rows n) (b.2.1.getD n []) = firstP b rows (Ytallblpnlefpeaa.allN b rows n) (b.2.1.getD n []) := by
      unfold firstP
      rw [List.map_congr_left fun w _ => h.makes w rows _]
    rw [this]
theorem Same.all {b c : Bk} (h : Same b c) (rows : Int) : allP c rows = allP b rows := by
  unfold allP
  rw [h.allN, h.nums]
theorem Same.way {b c : Bk} (h : Same b c) (i : Nat) (w : Wy) : wayE c i w = wayE b i w := by
  unfold wayE
  rw [h.len]
theorem Same.numE {b c : Bk} (h : Same b c) (i : Nat) : ∀ ws, Ytallblpnlefpeaa.numE c i ws = Ytallblpnlefpeaa.numE b i ws
  | [] => rfl
  | w :: ws => by rw [Ytallblpnlefpeaa.numE, Ytallblpnlefpeaa.numE, h.way, h.numE i ws]
theorem Same.numsE {b c : Bk} (h : Same b c) : ∀ (l : List (List Wy)) (i : Nat), Ytallblpnlefpeaa.numsE c l i = Ytallblpnlefpeaa.numsE b l i
  | [], _ => rfl
  | ws :: l, i => by rw [Ytallblpnlefpeaa.numsE, Ytallblpnlefpeaa.numsE, h.numE, h.numsE l]
theorem rowsE_same : ∀ {l p : List Rw} (i : Nat), l.length = p.length → (∀ j, (l.getD j rw0).1 = (p.getD j rw0).1) → rowsE l i = rowsE p i
  | [], [], _, _, _ => rfl
  | [], _ :: _, _, h, _ => by simp at h
  | _ :: _, [], _, h, _ => by simp at h
  | x :: l, y :: p, i, h, hv => by
    have h0 := hv 0
    simp only [List.getD_cons_zero] at h0
    rw [rowsE, rowsE, h0, rowsE_same (i + 1) (by simpa using h) fun j => by have := hv (j + 1); simpa only [List.getD_cons_succ] using this]
theorem Same.chk {b c : Bk} (h : Same b c) : chkP c = chkP b := by
  unfold chkP
  rw [h.len, rowsE_same 0 h.len h.val]
  split
  · rfl
  · cases rowsE b.1 0 with
    | some i => rfl
    | none => simp only [endR]; rw [h.nums, h.numsE]
theorem Same.vb {b c : Bk} (h : Same b c) (hv : VB b) : VB c := by
  refine ⟨by rw [h.len]; exact hv.r8, fun r hr => ?_, by rw [h.nums]; exact hv.n6, fun i hi => by rw [h.nums] at hi ⊢; exact hv.many i hi, fun i hi w hw => ?_⟩
  · obtain ⟨i, hi, rfl⟩ := List.getElem_of_mem hr
    have := h.val i
    rw [getD_lt hi] at this
    rw [this]
    exact hv.at i (by rw [← h.len]; exact hi)
  · rw [h.nums] at hi hw
    have := hv.ways i hi w hw
    exact ⟨this.o0, this.o2, this.r0, by rw [h.len]; exact this.r1, this.n0, this.n1, this.some⟩
theorem Same.clash {b c : Bk} (h : Same b c) (rows : Int) : clashP c rows = clashP b rows := by
  unfold clashP
  rw [h.nums, h.all]
  have : ∀ (l : List Fd) (ns : List (List Wy)) (n : Nat), clN c rows l ns n = clN b rows l ns n := by
    intro l ns
    induction ns with
    | nil => intro n; rfl
    | cons ws ns ih =>
      intro n
      rw [clN, clN, ih, List.map_congr_left fun w _ => h.makes w rows l]
  exact this _ _ _
theorem strP_at : ∀ (l : List Int) (rs : List Rw) (i : Nat), (∀ x ∈ l, 0 ≤ x ∧ x < rs.length) → (strP l rs).getD i rw0 = ((rs.getD i rw0).1, (rs.getD i rw0).2.1 || decide ((i : Int) ∈ l), ())
  | [], rs, i, _ => by
    show rs.getD i rw0 = _
    rw [dec_f (by simp), Bool.or_false]
  | x :: l, rs, i, h => by
    have hx := h x (List.mem_cons_self ..)
    show (strP l (strk rs x)).getD i rw0 = _
    rw [strP_at l _ i fun y hy => by rw [strk, List.length_set]; exact h y (List.mem_cons_of_mem _ hy), strk, getD_set' (by omega)]
    by_cases e : x.toNat = i
    · rw [if_pos e]
      have hi : (i : Int) = x := by omega
      rw [dec_t (show (i : Int) ∈ x :: l by rw [hi]; exact List.mem_cons_self ..), Bool.true_or, Bool.or_true, ← e]
    · rw [if_neg e]
      have : decide ((i : Int) ∈ x :: l) = decide ((i : Int) ∈ l) := decide_eq_decide.2 ⟨fun hm => by
        rcases List.mem_cons.1 hm with e2 | e2
        · omega
        · exact e2, fun hm => List.mem_cons_of_mem _ hm⟩
      rw [this]
theorem with_same (b : Bk) (l : List Int) (hl : ∀ x ∈ l, 0 ≤ x ∧ x < b.1.length) : Same b (withB b l) :=
  ⟨rfl, strP_len l b.1, fun i => by show ((strP l b.1).getD i rw0).1 = _; rw [strP_at l b.1 i hl]⟩
theorem with_rows (b : Bk) (l : List Int) (hl : ∀ x ∈ l, 0 ≤ x ∧ x < b.1.length) : rowsN (withB b l) = butN (rowsN b) (Few.bitsL l) := by
  apply Nat.eq_of_testBit_eq
  intro i
  rw [butN_bit, stand_bit, stand_bit, show (withB b l).1 = strP l b.1 from rfl, strP_len, strP_at l b.1 i hl]
  have hb : (Few.bitsL l).testBit i = decide ((i : Int) ∈ l) := by
    rw [Bool.eq_iff_iff, Few.bitsL_bit fun x hx => (hl x hx).1, decide_eq_true_eq]
  rw [hb]
  cases decide (i < b.1.length) <;> cases (b.1.getD i rw0).2.1 <;> cases decide ((i : Int) ∈ l) <;> rfl
theorem with_all (b : Bk) (l : List Int) (hl : ∀ x ∈ l, 0 ≤ x ∧ x < b.1.length) : allP (withB b l) (rowsN (withB b l)) = allP b (butN (rowsN b) (Few.bitsL l)) := by
  rw [with_rows b l hl, (with_same b l hl).all]
theorem bits_one (r : Nat) : Few.bitsL [(r : Int)] = 2 ^ r := by
  show 0 ||| 2 ^ (r : Int).toNat = 2 ^ r
  rw [Nat.zero_or, Int.toNat_natCast]
/-- 'Strike' of the reference. -/
theorem L29 (b : Bk) (row : Int) : F29 ((b, row, ()) : Bk × Int × Unit) = some (strikeP b row) := by
  refine ghost_eq (Ev.eq (fun _ => E29 _ _ _) ?_)
  rw [L94 b row _ fun hv => ⟨by omega, by have := hv.r8; omega⟩]
  simp only [Option.bind_some]
  unfold strikeP
  by_cases h : enterE b row b.1.length = 0
  · obtain ⟨hv, h0, h1⟩ := enterE_ok h
    have h8 := hv.r8
    have h6 := hv.n6
    obtain ⟨r, rfl⟩ := Int.eq_ofNat_of_zero_le h0
    have hin : ∀ x ∈ [(r : Int)], 0 ≤ x ∧ x < b.1.length := fun x hx => by
      rw [List.mem_singleton.1 hx]
      exact ⟨h0, h1⟩
    have hs := with_same b [(r : Int)] hin
    have hvw := hs.vb hv
    rw [h, if_pos rfl, Int.toNat_natCast, one_set, L46 b hv, L44 b (by omega) [(r : Int)] hin (by simp)]
    simp only [Option.bind_some]
    rw [L46 _ hvw]
    simp only [Option.bind_some]
    have hn1 := allT_len hv (Nat.le_refl _)
    have hn2 := allT_len hvw (Nat.le_refl _)
    have a1 : ∀ n, n < b.2.1.length → (allT b b.2.1.length).getD n fd0 = (allP b (rowsN b)).getD n fd0 := fun n hn => allT_at hn
    have a2 : ∀ n, n < b.2.1.length → (allT (withB b [(r : Int)]) (withB b [(r : Int)]).2.1.length).getD n fd0 = (allP b (offN b r)).getD n fd0 := fun n hn => by
      rw [allT_at (by rw [hs.nums]; exact hn), with_all b _ hin, bits_one]
      rfl
    have hn2 : (allT (withB b [(r : Int)]) (withB b [(r : Int)]).2.1.length).length = b.2.1.length := by rw [hn2, hs.nums]
    generalize allT b b.2.1.length = now at *
    generalize allT (withB b [(r : Int)]) (withB b [(r : Int)]).2.1.length = thn at *
    generalize allP b (rowsN b) = now' at *
    generalize allP b (offN b r) = thn' at *
    have key : ∀ (c n : Nat), n + c = b.2.1.length → Ev fun k => T29_0 now thn n (numsL (strikeB now' thn') n) k = some (numsL (strikeB now' thn') b.2.1.length, 0, ()) := by
      intro c
      induction c with
      | zero =>
        intro n hn
        obtain rfl : n = b.2.1.length := by omega
        refine U29_0 _ _ _ _ (Ev.eq (fun _ => Q29_0 _ _ _ _ _) ?_)
        rw [dec_f (by omega)]
        exact Ev.all fun _ => by first | rfl | trivial
      | succ c ih =>
        intro n hn
        refine U29_0 _ _ _ _ (Ev.eq (fun _ => Q29_0 _ _ _ _ _) ?_)
        have hl := numsL_len (strikeB now' thn') n
        have hi := ih (n + 1) (by omega)
        rw [numsL_succ] at hi
        rw [dec_t (show (n : Int) < (now.length : Int) by omega), dec_t (show (0 : Int) ≤ (n : Int) by omega), dec_t (show (n : Int) < (thn.length : Int) by omega), Int.toNat_natCast, wrap_succ (n := n) (by omega), one_set, dec_t (show (numsL (strikeB now' thn') n).length + [(n : Int)].length ≤ 2147483648 by simp only [List.length_cons, List.length_nil]; omega), eqF, getF, getF, a1 n (by omega), a2 n (by omega)]
        simp only [Bool.and_self, cond_true]
        have hsb : strikeB now' thn' n = ((now'.getD n fd0).1 && decide (now'.getD n fd0 ≠ thn'.getD n fd0)) := rfl
        cases ha : (now'.getD n fd0).1 with
        | false =>
          rw [hsb, ha, Bool.false_and, if_neg (by decide)] at hi
          exact hi
        | true =>
          by_cases hne : now'.getD n fd0 = thn'.getD n fd0
          · rw [hsb, dec_f (fun h => h hne), Bool.and_false, if_neg (by decide)] at hi
            rw [dec_t hne]
            exact hi
          · rw [hsb, dec_t hne, ha, if_pos (by decide)] at hi
            rw [dec_f hne]
            exact hi
    exact key b.2.1.length 0 (by omega)
  · rw [if_neg h, bne_iff_ne.2 h]
    exact Ev.all fun _ => by first | rfl | trivial
theorem again_len (b : Bk) (row : Int) : (againP b row).1.length < 1000000 := by
  unfold againP
  split
  · rename_i h
    have := numsL_len (conF b row.toNat 6) b.2.1.length
    have := (enterE_ok h).1.n6
    simp only
    omega
  · exact (show ([] : List Int).length < 1000000 by decide)
theorem strike_len (b : Bk) (row : Int) : (strikeP b row).1.length < 1000000 := by
  unfold strikeP
  split
  · rename_i h
    have := numsL_len (strikeB (allP b (rowsN b)) (allP b (offN b row.toNat))) b.2.1.length
    have := (enterE_ok h).1.n6
    simp only
    omega
  · exact (show ([] : List Int).length < 1000000 by decide)
end Go.Proofs.Ytallblpnlefpeaa
