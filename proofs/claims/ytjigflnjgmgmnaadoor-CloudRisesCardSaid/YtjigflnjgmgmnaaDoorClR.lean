/- What Month and Told of the reference come to. Conditions: as each lemma states. -/
import Derived.Test.YtjigflnjgmgmnaaDoorClT
import Derived.Test.YtjigflnjgmgmnaaDoorGhI
namespace Go.Proofs.YtjigflnjgmgmnaaDoor
open Go Go.Gh Go.Proofs

theorem L113 (a b : Nat) : F113 (((a : Int), (b : Int), ()) : Int × Int × Unit) = some (((Nat.gcd a b : Nat) : Int), ()) := by
  refine ghost_eq (Ev.eq (fun _ => E113 _ _ _) ?_)
  have key : ∀ (n x y : Nat), y ≤ n → Nat.gcd x y = Nat.gcd a b → Ev fun k => iter cx21 S113 [(.int .i64)] 6000 k 0 K113_0 ((((x : Int), ((y : Int), ())), ()), ()) = some (((Nat.gcd a b : Nat) : Int), ()) := by
    intro n
    induction n with
    | zero =>
      intro x y hy hg
      obtain rfl : y = 0 := by omega
      refine iter_ev (Ev.eq (fun _ => Q113_0 _ _ _) ?_)
      rw [← hg, Nat.gcd_zero_right]
      exact Ev.all fun _ => by first | rfl | trivial
    | succ n ih =>
      intro x y hy hg
      refine iter_ev (Ev.eq (fun _ => Q113_0 _ _ _) ?_)
      by_cases h0 : y = 0
      · subst h0
        rw [← hg, Nat.gcd_zero_right]
        exact Ev.all fun _ => by first | rfl | trivial
      · have e1 : (((y : Nat) : Int) != 0) = true := by simpa using h0
        rw [e1, dec_f (show ¬ ((y : Int) = 0) by omega)]
        simp only [cond_true, cond_false]
        have e2 : Int.tmod (x : Int) (y : Int) = ((x % y : Nat) : Int) := by
          rw [Int.tmod_eq_emod_of_nonneg (by omega)]; simp
        rw [e2]
        have hlt := Nat.mod_lt x (by omega : 0 < y)
        refine ih y (x % y) (by omega) ?_
        rw [← hg, Nat.gcd_comm x y, Nat.gcd_rec y x, Nat.gcd_comm]
  exact key b a b (Nat.le_refl _) rfl

theorem L43 (a b : Nat) (ha : a < 1000000000) (h1 : 0 < b) (hb : b < 1000000000) : F43 (((a : Int), (b : Int), ()) : Int × Int × Unit) = some (lowP a b, ()) := by
  refine ghost_eq (Ev.eq (fun _ => E43 _ _ _) ?_)
  have e0 : (if IntKind.wrap IntKind.i64 (0 - (a : Int)) > (a : Int) then IntKind.wrap IntKind.i64 (0 - (a : Int)) else (a : Int)) = a := by
    rw [wrap_id (by omega) (by omega)]
    split <;> omega
  rw [e0, L113]
  have hg : 0 < Nat.gcd a b := Nat.gcd_pos_of_pos_right _ h1
  have e3 : lowP a b = (((a / Nat.gcd a b : Nat) : Int), ((b / Nat.gcd a b : Nat) : Int), ()) := by simp [lowP]
  have l1 : a / Nat.gcd a b ≤ a := Nat.div_le_self _ _
  have l2 : b / Nat.gcd a b ≤ b := Nat.div_le_self _ _
  have q1 : Int.tdiv (a : Int) ((Nat.gcd a b : Nat) : Int) = ((a / Nat.gcd a b : Nat) : Int) := by simp
  have q2 : Int.tdiv (b : Int) ((Nat.gcd a b : Nat) : Int) = ((b / Nat.gcd a b : Nat) : Int) := by simp
  rw [e3]
  simp only [Option.bind_some]
  rw [dec_f (show ¬ (((Nat.gcd a b : Nat) : Int) = 0) by omega), q1, q2]
  generalize a / Nat.gcd a b = u at *
  generalize b / Nat.gcd a b = v at *
  rw [wrap_id (by omega) (by omega), wrap_id (by omega) (by omega)]
  exact Ev.all fun _ => by first | rfl | trivial

theorem L93 (s : Sp) (c : Int × List Sp × Unit) (hv : Valid c) (h1 : 0 ≤ s.1) (h1' : s.1 < 100000) (h2 : 0 ≤ s.2.1) (h2' : s.2.1 < 100000) : F93 ((s, c, ()) : Sp × (Int × List Sp × Unit) × Unit) = some (lowP s.1 c.2.1.length, lowP s.2.1 c.2.1.length, ()) := by
  refine ghost_eq (Ev.eq (fun _ => E93 _ _ _) ?_)
  have hl := hv.l12
  have hl' := hv.l1
  obtain ⟨a, ha⟩ := Int.eq_ofNat_of_zero_le h1
  obtain ⟨b, hb⟩ := Int.eq_ofNat_of_zero_le h2
  rw [ha, hb, L43 a c.2.1.length (by omega) (by omega) (by omega), L43 b c.2.1.length (by omega) (by omega) (by omega)]
  exact Ev.all fun _ => by first | rfl | trivial

/-- Sums of spans, as sums of least and greatest numbers. -/
theorem sumS_X (l : List Sp) : ∀ (n i : Nat) (s : Sp), i + n + 1 ≤ l.length → (1 ≤ i → s = (sumX (lows l) (i - 1), sumX (highs l) (i - 1), ())) → (i = 0 → s = z0) → sumS ((l.drop i).take (n + 1)) s = (sumX (lows l) (i + n), sumX (highs l) (i + n), ())
  | n, i, s, h, h1, h0 => by
    have hi : i < l.length := by omega
    rw [List.drop_eq_getElem_cons hi, List.take_succ_cons, sumS]
    have hg : l[i] = l.getD i z0 := by simp [List.getD_eq_getElem?_getD, hi]
    have hs : (s.1 + (l[i]).1, s.2.1 + (l[i]).2.1, ()) = ((sumX (lows l) i, sumX (highs l) i, ()) : Sp) := by
      rw [hg]
      cases i with
      | zero => rw [h0 rfl]; simp [sumX, lows, highs, z0]
      | succ i => rw [h1 (by omega)]; rfl
    rw [hs]
    cases n with
    | zero => rfl
    | succ n =>
      have := sumS_X l n (i + 1) (sumX (lows l) i, sumX (highs l) i, ()) (by omega) (fun _ => rfl) (fun h => by omega)
      rw [this]
      simp [show i + 1 + n = i + (n + 1) by omega]
theorem sums_X (m : Mo) (t : Sp) (hv : Valid m.1) (ht : Bd1 (sp t.2.1 t.2.1)) : sums m t = (sumX (lows (spn m t)) (m.1.2.1.length - 1), sumX (highs (spn m t)) (m.1.2.1.length - 1), ()) := by
  have hl := hv.l12
  have hl' := hv.l1
  have hbd := spn_bd m t hv ht
  unfold sums
  have := sumS_X (spn m t) (m.1.2.1.length - 1) 0 z0 (by rw [hbd.1]; omega) (fun h => by omega) (fun _ => rfl)
  rw [List.drop_zero, show m.1.2.1.length - 1 + 1 = m.1.2.1.length by omega, Nat.zero_add] at this
  exact this
/-- The bounds of all truths' sums. -/
theorem part_sums {c : Int × List Sp × Unit} (hv : Valid c) {w : Sp} {b : Bool} (h : Part (fun s => ∃ x, Truth (c, 0, ()) nob x ∧ sumX x (c.2.1.length - 1) = s) b w) (ha : alive (spn (c, 0, ()) nob) = true) : w = sums (c, 0, ()) nob := by
  obtain ⟨s1, s2⟩ := spn_char (c, 0, ()) nob hv bd_nob
  obtain ⟨t1, t2⟩ := s1 ha
  have hl' := hv.l1
  have hb : b = true := h.ex.2 ⟨_, _, t1, rfl⟩
  obtain ⟨x, hx, ex⟩ := h.lo hb
  obtain ⟨y, hy, ey⟩ := h.hi hb
  have q1 := (h.all _ ⟨_, t1, rfl⟩).1
  have q2 := (h.all _ ⟨_, t2, rfl⟩).2
  have q3 := sumX_le (x := lows (spn (c, 0, ()) nob)) (y := x) (i := c.2.1.length - 1) fun j hj => ((s2 x hx).2 j (by simp only; omega)).1
  have q4 := sumX_le (x := y) (y := highs (spn (c, 0, ()) nob)) (i := c.2.1.length - 1) fun j hj => ((s2 y hy).2 j (by simp only; omega)).2
  rw [sums_X _ _ hv bd_nob]
  simp only
  refine Prod.ext ?_ (Prod.ext ?_ rfl)
  · simp only; omega
  · simp only; omega

theorem L59' (c : Int × List Sp × Unit) (hv : Valid c) (ha : alive (spn (c, 0, ()) nob) = true) : ∃ b : Bool, F59 ((c, ()) : (Int × List Sp × Unit) × Unit) = some (sums (c, 0, ()) nob, b, ()) := by
  obtain ⟨w, b, h1, h2⟩ := L59 c hv
  rw [part_sums hv h2 ha] at h1
  exact ⟨b, h1⟩

theorem ent_err (c : Int × List Sp × Unit) : (ent c 0 0).2.1 = (if (chk c).2.2.1 = 0 then (if alive (spn (c, 0, ()) nob) = true then 0 else 8) else (chk c).2.2.1) := by
  unfold ent
  by_cases h : (chk c).2.2.1 = 0
  · obtain ⟨hv, _⟩ := chk_ok h
    have h1 := hv.l1
    rw [if_neg (by simpa using h), if_pos h, if_neg (by omega), if_neg (by omega)]
    split <;> rfl
  · rw [if_pos h, if_neg h]

/-- 'Month' of the reference. -/
theorem L24 (c : Int × List Sp × Unit) : F24 ((c, ()) : (Int × List Sp × Unit) × Unit) = some (monthP c) := by
  refine ghost_eq (Ev.eq (fun _ => E24 _ _) ?_)
  rw [L19]
  simp only [Option.bind_some]
  rw [L89 c _ fun h => (chk_ok h).1, ← ent_err]
  simp only [Option.bind_some]
  unfold monthP
  by_cases h : (ent c 0 0).2.1 = 0
  · obtain ⟨hc, _, _, _, _, ha, _⟩ := ent_ok h
    obtain ⟨hv, _⟩ := chk_ok hc
    obtain ⟨b, hb⟩ := L59' c hv ha
    have hn := sums_nat (c, 0, ()) nob hv bd_nob ha
    have hb' := sums_bd (c, 0, ()) nob hv bd_nob
    rw [if_neg (by simpa using h), h, hb]
    simp only [Option.bind_some, bne_self_eq_false, cond_false]
    rw [L93 _ c hv hn.1 (by omega) hn.2 (by omega)]
    exact Ev.all fun _ => by first | rfl | trivial
  · have e1 : ((ent c 0 0).2.1 != 0) = true := by simpa using h
    simp only [e1, cond_true]
    rw [if_pos (by simpa using h)]
    exact Ev.all fun _ => by first | rfl | trivial

/-- A month in which a day has a number. -/
def withC (c : Int × List Sp × Unit) (d : Nat) (n : Int) : Int × List Sp × Unit := (c.1, c.2.1.set d (2, n, ()), ())
theorem with_len (c : Int × List Sp × Unit) (d : Nat) (n : Int) : (withC c d n).2.1.length = c.2.1.length := by simp [withC]
theorem with_valid {c : Int × List Sp × Unit} (h : Valid c) (d : Nat) {n : Int} (h0 : 0 ≤ n) (h1 : n ≤ 100) : Valid (withC c d n) :=
  ⟨h.s0, h.s20, by rw [with_len]; exact h.l1, by rw [with_len]; exact h.l12, fun x hx => by
    rcases List.mem_or_eq_of_mem_set hx with hx | rfl
    · exact h.day x hx
    · simp only; omega⟩
theorem L55 (c : Int × List Sp × Unit) (hv : Valid c) (d : Nat) (hd : d < c.2.1.length) (n : Int) : F55 ((c, (d : Int), n, ()) : (Int × List Sp × Unit) × Int × Int × Unit) = some (withC c d n, ()) := by
  refine ghost_eq (Ev.eq (fun _ => E55 _ _ _ _) ?_)
  have hl := hv.l12
  rw [dec_t (show c.2.1.length ≤ 2147483648 by omega), dec_t (show (0 : Int) ≤ (d : Int) by omega), dec_t (show (d : Int) < (c.2.1.length : Int) by omega), Int.toNat_natCast, dec_t hd]
  exact Ev.all fun _ => by first | rfl | trivial

theorem canD_can {d : Sp} {n : Int} (h0 : 0 ≤ n) (h1 : n ≤ 100) (h : canB d n = true) : both (canD d) (sp n n) = sp n n := by
  unfold canB at h
  unfold canD both sp
  by_cases e0 : d.1 = 0
  · simp only [if_pos e0]
    refine Prod.ext ?_ (Prod.ext ?_ rfl) <;> simp only <;> omega
  · rw [if_neg e0] at h ⊢
    by_cases e1 : d.1 = 1
    · rw [if_pos e1] at h ⊢
      simp only [decide_eq_true_eq] at h
      refine Prod.ext ?_ (Prod.ext ?_ rfl) <;> simp only <;> omega
    · rw [if_neg e1] at h ⊢
      simp only [beq_iff_eq] at h
      refine Prod.ext ?_ (Prod.ext ?_ rfl) <;> simp only <;> omega
theorem canD_not {d : Sp} {n : Int} (h : canB d n = false) : (both (canD d) (sp n n)).1 > (both (canD d) (sp n n)).2.1 := by
  unfold canB at h
  unfold canD both sp
  by_cases e0 : d.1 = 0
  · rw [if_pos e0] at h; cases h
  · rw [if_neg e0] at h ⊢
    by_cases e1 : d.1 = 1
    · rw [if_pos e1] at h ⊢
      simp only [decide_eq_false_iff_not] at h
      simp only; omega
    · rw [if_neg e1] at h ⊢
      have h : ¬ n = d.2.1 := by simpa using h
      simp only; omega

theorem dayAt_c (c : Int × List Sp × Unit) (i : Nat) : dayAt (c, 0, ()) i = c.2.1.getD i z0 := by
  unfold dayAt
  rw [show bitOf ((c, 0, ()) : Mo).2.1 i = false by simp [bitOf], if_neg (by decide)]
theorem own_with (c : Int × List Sp × Unit) (d : Nat) (n : Int) (hd : d < c.2.1.length) (h0 : 0 ≤ n) (h1 : n ≤ 100) (h : canB (c.2.1.getD d z0) n = true) (i : Nat) : own (c, 0, ()) (d, n, ()) i = own (withC c d n, 0, ()) nob i := by
  rw [own_c]
  unfold own
  rw [dayAt_c]
  simp only [withC]
  rw [getD_set hd]
  by_cases e : (i : Int) = (d : Int)
  · obtain rfl : i = d := by omega
    rw [if_pos rfl, if_pos rfl, canD_can h0 h1 h]
    rfl
  · rw [if_neg e, if_neg (fun h => e (by rw [h]))]
theorem spn_with (c : Int × List Sp × Unit) (d : Nat) (n : Int) (hd : d < c.2.1.length) (h0 : 0 ≤ n) (h1 : n ≤ 100) (h : canB (c.2.1.getD d z0) n = true) : spn (c, 0, ()) (d, n, ()) = spn (withC c d n, 0, ()) nob := by
  unfold spn init
  simp only [own_with c d n hd h0 h1 h, with_len]
  rfl
theorem spn_not (c : Int × List Sp × Unit) (hv : Valid c) (d : Nat) (n : Int) (hd : d < c.2.1.length) (h0 : 0 ≤ n) (h1 : n ≤ 100) (h : canB (c.2.1.getD d z0) n = false) : alive (spn (c, 0, ()) (d, n, ())) = false := by
  cases ha : alive (spn (c, 0, ()) (d, n, ())) with
  | false => rfl
  | true =>
    obtain ⟨x, hx⟩ := (alive_iff (c, 0, ()) (d, n, ()) hv (bd_pt h0 h1 d)).1 ha
    have := hx.own d hd
    unfold own at this
    rw [if_pos rfl, dayAt_c] at this
    have h2 := canD_not h
    change (both (canD (c.2.1.getD d z0)) (sp n n)).1 ≤ x d ∧ x d ≤ (both (canD (c.2.1.getD d z0)) (sp n n)).2.1 at this
    omega

/-- 'Told' of the reference. -/
theorem L26 (c : Int × List Sp × Unit) (day number : Int) : F26 ((c, day, number, ()) : (Int × List Sp × Unit) × Int × Int × Unit) = some (toldP c day number) := by
  refine ghost_eq (Ev.eq (fun _ => E26 _ _ _ _) ?_)
  rw [L90]
  simp only [Option.bind_some]
  unfold toldP ent
  by_cases hc : (chk c).2.2.1 = 0
  · obtain ⟨hv, _⟩ := chk_ok hc
    have h1 := hv.l1
    rw [if_pos hc, if_neg (show ¬ (chk c).2.2.1 ≠ 0 by simpa using hc)]
    by_cases hd : day < 0 ∨ day > (c.2.1.length : Int) - 1
    · simp only [if_pos hd]
      rw [L89 c 4 (fun h => by cases h)]
      exact Ev.all fun _ => by first | rfl | trivial
    · simp only [if_neg hd, beq_self_eq_true, cond_true]
      rw [L48]
      simp only [Option.bind_some]
      by_cases hn : number < 0 ∨ number > 100
      · have : (decide (0 ≤ number) && decide (number ≤ 100)) = false := by
          rcases hn with h | h
          · rw [dec_f (show ¬ (0 ≤ number) by omega)]; rfl
          · rw [dec_f (show ¬ (number ≤ 100) by omega), Bool.and_false]
        simp only [this, if_pos hn, Bool.not_false, cond_true]
        rw [L89 c 7 (fun h => by cases h)]
        exact Ev.all fun _ => by first | rfl | trivial
      · have : (decide (0 ≤ number) && decide (number ≤ 100)) = true := by rw [dec_t (show 0 ≤ number by omega), dec_t (show number ≤ 100 by omega)]; rfl
        simp only [this, if_neg hn, Bool.not_true, cond_false]
        rw [L89 c 0 (fun _ => hv), if_pos rfl]
        simp only [Option.bind_some]
        by_cases ha : alive (spn (c, 0, ()) nob) = true
        · obtain ⟨d, rfl⟩ := Int.eq_ofNat_of_zero_le (show 0 ≤ day by omega)
          have hdl : d < c.2.1.length := by omega
          simp only [if_pos ha, bne_self_eq_false, cond_false]
          rw [dec_t (show (0 : Int) ≤ (d : Int) by omega), dec_t (show (d : Int) < (c.2.1.length : Int) by omega), L56, if_neg (show ¬ ((0 : Int) ≠ 0) by decide)]
          simp only [Bool.and_self, cond_true, Option.bind_some, Int.toNat_natCast]
          rw [show c.2.1.getD d (0, 0, ()) = c.2.1.getD d z0 from rfl]
          cases hb : canB (c.2.1.getD d z0) number with
          | false =>
            simp only [Bool.not_false, cond_true]
            rw [spn_not c hv d number hdl (by omega) (by omega) hb, if_neg (by decide)]
            exact Ev.all fun _ => by first | rfl | trivial
          | true =>
            have hw := with_valid hv d (n := number) (by omega) (by omega)
            have hsp := spn_with c d number hdl (by omega) (by omega) hb
            simp only [Bool.not_true, cond_false]
            rw [L55 c hv d hdl]
            simp only [Option.bind_some]
            rw [L94 _ hw, hsp]
            simp only [Option.bind_some]
            cases ha2 : alive (spn (withC c d number, 0, ()) nob) with
            | false =>
              simp only [Bool.not_false, cond_true]
              rw [if_neg (by decide)]
              exact Ev.all fun _ => by first | rfl | trivial
            | true =>
              obtain ⟨b, hb⟩ := L59' _ hw ha2
              have hn := sums_nat (withC c d number, 0, ()) nob hw bd_nob ha2
              have hb' := sums_bd (withC c d number, 0, ()) nob hw bd_nob
              have hov : overP (c, 0, ()) (d, number, ()) = (lowP (sums (withC c d number, 0, ()) nob).1 c.2.1.length, lowP (sums (withC c d number, 0, ()) nob).2.1 c.2.1.length, ()) := by
                unfold overP sums
                rw [hsp]
                simp only [with_len]
              simp only [Bool.not_true, cond_false]
              rw [hb]
              simp only [Option.bind_some]
              rw [L93 _ c hv hn.1 (by omega) hn.2 (by omega), hov]
              exact Ev.all fun _ => by first | rfl | trivial
        · rw [if_neg ha, if_neg ha, if_pos (show (8 : Int) ≠ 0 by decide)]
          exact Ev.all fun _ => by first | rfl | trivial
  · rw [if_neg hc, if_pos hc]
    have e0 : ((chk c).2.2.1 == 0) = false := by simpa using hc
    have e1 : ((chk c).2.2.1 != 0) = true := by simpa using hc
    simp only [e0, cond_false]
    rw [L89 c _ (fun h => absurd h hc), if_neg hc, if_pos hc]
    simp only [Option.bind_some, e1, cond_true]
    exact Ev.all fun _ => by first | rfl | trivial
end Go.Proofs.YtjigflnjgmgmnaaDoor
/- What Tops, Rises and Ask of the reference come to. Conditions: as each lemma states. -/
namespace Go.Proofs.YtjigflnjgmgmnaaDoor
open Go Go.Gh Go.Proofs

/-- Truths in which a day has a number. -/
theorem truth_told {c : Int × List Sp × Unit} (d : Nat) (hd : d < c.2.1.length) (v : Int) (x : Nat → Int) : Truth (c, 0, ()) (d, v, ()) x ↔ Truth (c, 0, ()) nob x ∧ x d = v := by
  have ho : ∀ i, own (c, 0, ()) (d, v, ()) i = if i = d then both (own (c, 0, ()) nob i) (sp v v) else own (c, 0, ()) nob i := by
    intro i
    rw [own_c]
    unfold own
    rw [dayAt_c]
    by_cases e : i = d
    · rw [if_pos e, if_pos (by simp only; omega)]
    · rw [if_neg e, if_neg (by simp only; omega)]
  constructor
  · intro h
    have h1 := h.own d hd
    rw [ho, if_pos rfl] at h1
    simp only [both, sp] at h1
    refine ⟨⟨fun i hi => ?_, h.up⟩, by omega⟩
    have h2 := h.own i hi
    rw [ho] at h2
    split at h2
    · simp only [both] at h2; omega
    · exact h2
  · rintro ⟨h, h1⟩
    refine ⟨fun i hi => ?_, h.up⟩
    have h2 := h.own i hi
    rw [ho]
    split
    · rename_i e
      subst e
      simp only [both, sp]; omega
    · exact h2
theorem alive_told {c : Int × List Sp × Unit} (hv : Valid c) (d : Nat) (hd : d < c.2.1.length) {v : Int} (h0 : 0 ≤ v) (h1 : v ≤ 100) : alive (spn (c, 0, ()) (d, v, ())) = true ↔ ∃ x, Truth (c, 0, ()) nob x ∧ x d = v := by
  rw [alive_iff (c, 0, ()) (d, v, ()) hv (bd_pt h0 h1 d)]
  constructor
  · rintro ⟨x, hx⟩; exact ⟨x, (truth_told d hd v x).1 hx⟩
  · rintro ⟨x, hx⟩; exact ⟨x, (truth_told d hd v x).2 hx⟩
theorem can_told {c : Int × List Sp × Unit} (hv : Valid c) (d : Nat) (hd : d < c.2.1.length) {v : Int} (h0 : 0 ≤ v) (h1 : v ≤ 100) (ha : alive (spn (c, 0, ()) (d, v, ())) = true) : canB (c.2.1.getD d z0) v = true := by
  cases hb : canB (c.2.1.getD d z0) v with
  | true => rfl
  | false => rw [spn_not c hv d v hd h0 h1 hb] at ha; cases ha

/-- 'Numbers' of the reference. -/
theorem L61' (c : Int × List Sp × Unit) (hv : Valid c) (d : Nat) (hd : d < c.2.1.length) : F61 ((c, (d : Int), ()) : (Int × List Sp × Unit) × Int × Unit) = some (numsL (fun v => alive (spn (c, 0, ()) (d, (v : Int), ()))) 101, ()) := by
  obtain ⟨p, h1, h2⟩ := L61 c hv d hd
  rw [h1]
  have : ∀ v, v < 101 → p v = alive (spn (c, 0, ()) (d, (v : Int), ())) := by
    intro v hv'
    rw [Bool.eq_iff_iff, h2 v (by omega), alive_told hv d hd (by omega) (by omega)]
  have e : numsL p 101 = numsL (fun v => alive (spn (c, 0, ()) (d, (v : Int), ()))) 101 := by
    unfold numsL
    congr 1
    exact List.filter_congr fun v hv' => this v (List.mem_range.1 hv')
  rw [e]

noncomputable abbrev T131_0 (m : Int × List Sp × Unit) (Y Z : List Su) (i : Nat) (l : List Sp) (f : Nat) : Option (denL [(.slice (.struct [(.int .i64), (.int .i64)]))]) := iter cx26 S131 [(.slice (.struct [(.int .i64), (.int .i64)]))] 6000 f 0 K131_0 ((((), (Y, (Z, ((), ((i : Int), ()))))), ()), (m, (l, ())))
noncomputable abbrev T131_1 (m : Int × List Sp × Unit) (Y Z : List Su) (i k : Nat) (s : Sp) (l : List Sp) (f : Nat) : Option (denL [(.slice (.struct [(.int .i64), (.int .i64)]))]) := iter cx26 S131 [(.slice (.struct [(.int .i64), (.int .i64)]))] 6000 f 1 K131_1 ((((), (Y, (Z, ((), ((i : Int), ((), ((k : Int), ()))))))), ()), (m, (s, (l, ()))))

theorem wrap_succ {n : Nat} (h : n < 1000000000000) : IntKind.wrap IntKind.i64 ((n : Int) + 1) = ((n + 1 : Nat) : Int) := by rw [wrap_id (by omega) (by omega)]; omega

theorem ends1 (m : Int × List Sp × Unit) (Y Z : List Su) (h12 : m.2.1.length ≤ 12) (i : Nat) (hi : i < m.2.1.length) (hY : Y.length = m.2.1.length) (hZ : Z.length = m.2.1.length) (l : List Sp) (hl : l.length = i) (p : Nat → Bool) (hp : ∀ v, ((Y.getD i su0).1.getD v false && (Z.getD (m.2.1.length - 1 - i) su0).1.getD v false) = p v)
    (lo hi' : Nat) (hlo : p lo = true) (hhi : p hi' = true) (hall : ∀ v, v ≤ 100 → p v = true → lo ≤ v ∧ v ≤ hi') (hlo1 : lo ≤ 100) (hhi1 : hi' ≤ 100) (y : denL [(.slice (.struct [(.int .i64), (.int .i64)]))]) (hk : Ev fun f => T131_0 m Y Z (i + 1) (l ++ [sp lo hi']) f = some y) :
    ∀ (e k : Nat) (s : Sp), k + e = 101 → (k ≤ lo → s = (101, -1, ())) → (lo < k → s.1 = lo ∧ (lo : Int) ≤ s.2.1 ∧ s.2.1 ≤ (hi' : Int) ∧ ∀ v : Nat, v < k → p v = true → (v : Int) ≤ s.2.1) → Ev fun f => T131_1 m Y Z i k s l f = some y := by
  have w2 : IntKind.wrap IntKind.i64 (IntKind.wrap IntKind.i64 ((m.2.1.length : Int) - 1) - (i : Int)) = ((m.2.1.length - 1 - i : Nat) : Int) := by
    rw [wrap_id (x := (m.2.1.length : Int) - 1) (by omega) (by omega), wrap_id (by omega) (by omega)]; omega
  intro e
  induction e with
  | zero =>
    intro k s hk' h1 h2
    obtain rfl : k = 101 := by omega
    refine iter_ev (Ev.eq (fun _ => Q131_1 _ _ _ _ _ _ _ _) ?_)
    obtain ⟨a, b, c, d⟩ := h2 (by omega)
    have := d hi' (by omega) hhi
    have es : s = sp lo hi' := Prod.ext a (Prod.ext (by simp only [sp]; omega) rfl)
    rw [dec_f (by omega), wrap_succ (n := i) (by omega), one_set]
    simp only [cond_false]
    rw [dec_t (show l.length + [s].length ≤ 2147483648 by simp; omega), es]
    exact hk
  | succ e ih =>
    intro k s hk' h1 h2
    refine iter_ev (Ev.eq (fun _ => Q131_1 _ _ _ _ _ _ _ _) ?_)
    have hpk := hp k
    rw [w2, wrap_succ (n := k) (by omega)]
    rw [show ((List.replicate 101 false, List.replicate 101 (0, 0, ()), ()) : Su) = su0 from rfl]
    simp (disch := omega) only [dec_t, Int.toNat_natCast, L117, Option.bind_some, Bool.and_self, cond_true]
    have skip : p k = false → Ev fun f => T131_1 m Y Z i (k + 1) s l f = some y := by
      intro hf
      have hne : k ≠ lo := fun e => by rw [e, hlo] at hf; cases hf
      refine ih (k + 1) s (by omega) (fun h => h1 (by omega)) (fun h => ?_)
      obtain ⟨a, b, c, d⟩ := h2 (by omega)
      refine ⟨a, b, c, fun v hv hpv => ?_⟩
      by_cases e : v = k
      · rw [e, hf] at hpv; cases hpv
      · exact d v (by omega) hpv
    cases ha : (Y.getD i su0).1.getD k false with
    | false =>
      rw [ha, Bool.false_and] at hpk
      exact skip hpk.symm
    | true =>
      rw [ha, Bool.true_and] at hpk
      cases hb : (Z.getD (m.2.1.length - 1 - i) su0).1.getD k false with
      | false =>
        rw [hb] at hpk
        exact skip hpk.symm
      | true =>
        rw [hb] at hpk
        have hk1 := hall k (by omega) hpk.symm
        refine ih (k + 1) _ (by omega) (fun h => by omega) (fun h => ?_)
        by_cases e : k = lo
        · have es := h1 (by omega)
          subst es
          simp only [wideP]
          rw [if_neg (by omega), if_neg (by omega)]
          refine ⟨by omega, by omega, by omega, fun v hv hpv => by omega⟩
        · obtain ⟨a, b, c, d⟩ := h2 (by omega)
          simp only [wideP]
          rw [if_pos (by omega)]
          refine ⟨a, by split <;> omega, by split <;> omega, fun v hv hpv => ?_⟩
          by_cases e : v = k
          · subst e; split <;> omega
          · have := d v (by omega) hpv
            split <;> omega

/-- 'Ends' of the reference. -/
theorem L131 (c : Int × List Sp × Unit) (hv : Valid c) (d : Nat) (hd : d < c.2.1.length) (n : Int) (h0 : 0 ≤ n) (h1 : n ≤ 100) (ha : alive (spn (c, 0, ()) (d, n, ())) = true) : F131 ((c, (d : Int), n, ()) : (Int × List Sp × Unit) × Int × Int × Unit) = some ((spn (c, 0, ()) (d, n, ())).take c.2.1.length, ()) := by
  have hw := with_valid hv d h0 h1
  have hsp := spn_with c d n hd h0 h1 (can_told hv d hd h0 h1 ha)
  rw [hsp] at ha ⊢
  refine ghost_eq (Ev.eq (fun _ => E131 _ _ _ _) ?_)
  rw [L55 c hv d hd]
  obtain ⟨Y, hY, hl, hF⟩ := L116 (withC c d n) hw
  obtain ⟨Z, hZ, hl', hF'⟩ := L116 (backC (withC c d n)) (back_valid hw)
  have hlen := with_len c d n
  have h12 := hw.l12
  rw [← hlen]
  generalize withC c d n = m at *
  have hbl : (backC m).2.1.length = m.2.1.length := by simp [backC]
  rw [hbl] at hl' hF'
  simp only [Option.bind_some]
  rw [hY, L62 m h12]
  simp only [Option.bind_some]
  rw [show ((m.1, m.2.1.reverse, ()) : Int × List Sp × Unit) = backC m from rfl, hZ]
  simp only [Option.bind_some]
  obtain ⟨s1, s2⟩ := spn_char (m, 0, ()) nob hw bd_nob
  obtain ⟨t1, t2⟩ := s1 ha
  have hbd := (spn_bd (m, 0, ()) nob hw bd_nob).1
  have key : ∀ (e i : Nat), i + e = m.2.1.length → Ev fun f => T131_0 m Y Z i ((spn (m, 0, ()) nob).take i) f = some ((spn (m, 0, ()) nob).take m.2.1.length, ()) := by
    intro e
    induction e with
    | zero =>
      intro i hi
      obtain rfl : i = m.2.1.length := by omega
      refine iter_ev (Ev.eq (fun _ => Q131_0 _ _ _ _ _ _) ?_)
      rw [dec_f (by omega)]
      exact Ev.all fun _ => by first | rfl | trivial
    | succ e ih =>
      intro i hi
      refine iter_ev (Ev.eq (fun _ => Q131_0 _ _ _ _ _ _) ?_)
      rw [dec_t (show (i : Int) < (m.2.1.length : Int) by omega)]
      have hp : ∀ v : Nat, v ≤ 100 → (((Y.getD i su0).1.getD v false && (Z.getD (m.2.1.length - 1 - i) su0).1.getD v false) = true ↔ ∃ x, Truth (m, 0, ()) nob x ∧ x i = (v : Int)) := by
        intro v hvl
        rw [Bool.and_eq_true, ((hF i (by omega)).day v hvl).ex, ((hF' (m.2.1.length - 1 - i) (by omega)).day v hvl).ex]
        exact num_iff hw (by omega) v
      have r1 := t1.own i (by simp only; omega)
      have r2 := t2.own i (by simp only; omega)
      have b1 := own_range _ _ hw r1.1 r1.2
      have b2 := own_range _ _ hw r2.1 r2.2
      obtain ⟨lo, hlo⟩ := Int.eq_ofNat_of_zero_le b1.1
      obtain ⟨hi', hhi⟩ := Int.eq_ofNat_of_zero_le b2.1
      refine ends1 m Y Z h12 i (by omega) hl hl' _ (by rw [List.length_take]; omega) _ (fun v => rfl) lo hi' ((hp lo (by omega)).2 ⟨_, t1, hlo⟩) ((hp hi' (by omega)).2 ⟨_, t2, hhi⟩) (fun v hv' h => ?_) (by omega) (by omega) _ ?_ 101 0 _ (by omega) (fun _ => rfl) (fun h => by omega)
      · obtain ⟨x, hx, ex⟩ := (hp v hv').1 h
        have := (s2 x hx).2 i (by simp only; omega)
        omega
      · have := ih (i + 1) (by omega)
        rw [List.take_add_one, List.getElem?_eq_getElem (by omega)] at this
        have hg : (spn (m, 0, ()) nob)[i]'(by omega) = sp lo hi' := by
          have e1 : (spn (m, 0, ()) nob)[i]'(by omega) = (spn (m, 0, ()) nob).getD i z0 := by rw [List.getD_eq_getElem?_getD, List.getElem?_eq_getElem (by omega)]; rfl
          rw [e1]
          exact Prod.ext hlo (Prod.ext hhi rfl)
        rw [hg] at this
        exact this
  exact key m.2.1.length 0 (by omega)

theorem allN_iff (f : Int → Bool) : ∀ (e : Nat) (n : Int), allN f e n = true ↔ ∀ v, n ≤ v → v < n + e → f v = true
  | 0, n => ⟨fun _ v h1 h2 => by omega, fun _ => rfl⟩
  | e + 1, n => by
    simp only [allN, Bool.and_eq_true]
    rw [allN_iff f e (n + 1)]
    constructor
    · rintro ⟨h1, h2⟩ v a b
      by_cases e : v = n
      · rw [e]; exact h1
      · exact h2 v (by omega) (by omega)
    · intro h
      exact ⟨h n (by omega) (by omega), fun v a b => h v (by omega) (by omega)⟩
theorem anyN_iff (f : Int → Bool) : ∀ (e : Nat) (n : Int), anyN f e n = true ↔ ∃ v, n ≤ v ∧ v < n + e ∧ f v = true
  | 0, n => ⟨fun h => (by cases h), fun ⟨v, h1, h2, _⟩ => by omega⟩
  | e + 1, n => by
    simp only [anyN, Bool.or_eq_true]
    rw [anyN_iff f e (n + 1)]
    constructor
    · rintro (h | ⟨v, a, b, h⟩)
      · exact ⟨n, by omega, by omega, h⟩
      · exact ⟨v, by omega, by omega, h⟩
    · rintro ⟨v, a, b, h⟩
      by_cases e : v = n
      · rw [e] at h; exact .inl h
      · exact .inr ⟨v, by omega, by omega, h⟩

/-- A day's numbers, of which something is so. -/
theorem nums_in {c : Int × List Sp × Unit} (hv : Valid c) (ha : alive (spn (c, 0, ()) nob) = true) {d : Nat} (hd : d < c.2.1.length) (v : Int) : v ∈ numsL (fun v => alive (spn (c, 0, ()) (d, (v : Int), ()))) 101 ↔ ((spn (c, 0, ()) nob).getD d z0).1 ≤ v ∧ v < ((spn (c, 0, ()) nob).getD d z0).1 + (many (spn (c, 0, ()) nob) d : Int) ∧ alive (spn (c, 0, ()) (d, v, ())) = true := by
  have hm := many_eq c hv ha hd
  have hs := spn_day c hv ha hd
  rw [numsL_mem]
  constructor
  · rintro ⟨n, h1, h2, rfl⟩
    obtain ⟨x, hx, ex⟩ := (alive_told hv d hd (by omega) (by omega)).1 h2
    have := ((spn_char (c, 0, ()) nob hv bd_nob).2 x hx).2 d hd
    simp only [lows, highs] at this
    exact ⟨by omega, by omega, h2⟩
  · rintro ⟨h1, h2, h3⟩
    obtain ⟨n, rfl⟩ := Int.eq_ofNat_of_zero_le (show 0 ≤ v by omega)
    exact ⟨n, by omega, h3, rfl⟩
theorem all_nums {c : Int × List Sp × Unit} (hv : Valid c) (ha : alive (spn (c, 0, ()) nob) = true) {d : Nat} (hd : d < c.2.1.length) (g f : Int → Bool) (hf : ∀ v, f v = !(alive (spn (c, 0, ()) (d, v, ())) && !g v)) : (numsL (fun v => alive (spn (c, 0, ()) (d, (v : Int), ()))) 101).all g = allN f (many (spn (c, 0, ()) nob) d) ((spn (c, 0, ()) nob).getD d z0).1 := by
  rw [Bool.eq_iff_iff, List.all_eq_true, allN_iff]
  constructor
  · intro h v a b
    rw [hf]
    cases hal : alive (spn (c, 0, ()) (d, v, ())) with
    | false => rfl
    | true => rw [h v ((nums_in hv ha hd v).2 ⟨a, b, hal⟩)]; rfl
  · intro h v hm
    obtain ⟨a, b, hal⟩ := (nums_in hv ha hd v).1 hm
    have := h v a b
    rw [hf, hal] at this
    simpa using this
theorem any_nums {c : Int × List Sp × Unit} (hv : Valid c) (ha : alive (spn (c, 0, ()) nob) = true) {d : Nat} (hd : d < c.2.1.length) (g f : Int → Bool) (hf : ∀ v, f v = (alive (spn (c, 0, ()) (d, v, ())) && g v)) : (numsL (fun v => alive (spn (c, 0, ()) (d, (v : Int), ()))) 101).any g = anyN f (many (spn (c, 0, ()) nob) d) ((spn (c, 0, ()) nob).getD d z0).1 := by
  rw [Bool.eq_iff_iff, List.any_eq_true, anyN_iff]
  constructor
  · rintro ⟨v, hm, h⟩
    obtain ⟨a, b, hal⟩ := (nums_in hv ha hd v).1 hm
    exact ⟨v, a, b, by rw [hf, hal, h]; rfl⟩
  · rintro ⟨v, a, b, h⟩
    rw [hf, Bool.and_eq_true] at h
    exact ⟨v, (nums_in hv ha hd v).2 ⟨a, b, h.1⟩, h.2⟩
end Go.Proofs.YtjigflnjgmgmnaaDoor
/- What Tops, Rises and Ask of the reference come to: those of the program. Conditions: as each lemma states. -/
namespace Go.Proofs.YtjigflnjgmgmnaaDoor
open Go Go.Gh Go.Proofs

noncomputable abbrev T102_0 (d : Nat) (L : List Int) (a b : Bool) (i : Nat) (c : Int × List Sp × Unit) (f : Nat) : Option (denL [.bool, .bool]) := iter cx131 S102 [.bool, .bool] 6000 f 0 K102_0 ((((d : Int), ((), (L, (a, (b, ((i : Int), ())))))), ()), (c, ()))
noncomputable abbrev T102_1 (d : Nat) (L : List Int) (a b : Bool) (i : Nat) (E : List Sp) (x : Bool) (j : Nat) (c : Int × List Sp × Unit) (f : Nat) : Option (denL [.bool, .bool]) := iter cx131 S102 [.bool, .bool] 6000 f 1 K102_1 ((((d : Int), ((), (L, (a, (b, ((i : Int), (E, (x, ((j : Int), ()))))))))), ()), (c, ()))

theorem getD_lt {α : Type} {l : List α} {i : Nat} {z : α} (h : i < l.length) : l.getD i z = l[i] := by simp [List.getD_eq_getElem?_getD, h]

theorem tops_in (d : Nat) (L : List Int) (hL : L.length ≤ 101) (b : Bool) (i : Nat) (hi : i < L.length) (E : List Sp) (hE : E.length ≤ 12) (c : Int × List Sp × Unit) (y : denL [.bool, .bool]) : ∀ (e j : Nat), j + e = E.length → ∀ a x : Bool,
    (Ev fun f => T102_0 d L (a && (E.drop j).all fun s => decide (s.2.1 ≤ L.getD i 0)) (b || (x && (E.drop j).all fun s => decide (s.1 ≤ L.getD i 0))) (i + 1) c f = some y) → Ev fun f => T102_1 d L a b i E x j c f = some y := by
  intro e
  induction e with
  | zero =>
    intro j hj a x h
    refine iter_ev (Ev.eq (fun _ => Q102_1 _ _ _ _ _ _ _ _ _ _) ?_)
    rw [List.drop_eq_nil_of_le (by omega)] at h
    simp only [List.all_nil, Bool.and_true] at h
    rw [dec_f (by omega), wrap_succ (n := i) (by omega)]
    cases b with
    | true => exact h
    | false => exact h
  | succ e ih =>
    intro j hj a x h
    refine iter_ev (Ev.eq (fun _ => Q102_1 _ _ _ _ _ _ _ _ _ _) ?_)
    have hj' : j < E.length := by omega
    rw [List.drop_eq_getElem_cons hj', List.all_cons, List.all_cons, ← getD_lt (z := ((0, 0, ()) : Sp)) hj'] at h
    have hi := fun a x => ih (j + 1) (by omega) a x
    rw [wrap_succ (n := j) (by omega)]
    simp (disch := omega) only [dec_t (p := (_ : Int) < _), dec_t (p := (_ : Int) ≤ (_ : Int)), Int.toNat_natCast, Bool.and_self, cond_true] at *
    cases a <;> cases x <;> simp only [cond_true, cond_false, Bool.true_and, Bool.false_and] at h ⊢ <;> exact hi _ _ (by simpa using h)
theorem any_le {α : Type} (l : List α) (g : α → Int) (n : Int) : (l.any fun s => decide (g s > n)) = !(l.all fun s => decide (g s ≤ n)) := by
  induction l with
  | nil => rfl
  | cons a l ih =>
    rw [List.any_cons, List.all_cons, ih]
    by_cases h : g a ≤ n
    · rw [dec_f (show ¬ (g a > n) by omega), dec_t h]; simp
    · rw [dec_t (show g a > n by omega), dec_f h]; simp

/-- 'tops' of the reference. -/
theorem L102 (c : Int × List Sp × Unit) (hv : Valid c) (ha : alive (spn (c, 0, ()) nob) = true) (d : Nat) (hd : d < c.2.1.length) : F102 ((c, (d : Int), ()) : (Int × List Sp × Unit) × Int × Unit) = some (sureTop (c, 0, ()) (spn (c, 0, ()) nob) d, mayTop (c, 0, ()) (spn (c, 0, ()) nob) d, ()) := by
  have h12 := hv.l12
  unfold sureTop mayTop
  rw [← all_nums hv ha hd (fun n => ((spn (c, 0, ()) (d, n, ())).take c.2.1.length).all fun s => decide (s.2.1 ≤ n)) _ (fun v => by rw [topS, any_le _ (fun s : Sp => s.2.1)]),
    ← any_nums hv ha hd (fun n => ((spn (c, 0, ()) (d, n, ())).take c.2.1.length).all fun s => decide (s.1 ≤ n)) _ (fun v => by rw [topM, any_le _ (fun s : Sp => s.1), Bool.not_not])]
  refine ghost_eq (Ev.eq (fun _ => E102 _ _ _) ?_)
  rw [L61' c hv d hd]
  simp only [Option.bind_some]
  have hL := numsL_len (fun v => alive (spn (c, 0, ()) (d, (v : Int), ()))) 101
  have hin := fun v => (nums_in hv ha hd v).1
  have hsd := spn_day c hv ha hd
  have hm := many_eq c hv ha hd
  generalize numsL (fun v => alive (spn (c, 0, ()) (d, (v : Int), ()))) 101 = L at *
  have key : ∀ (e i : Nat), i + e = L.length → ∀ a b : Bool, Ev fun f => T102_0 d L a b i c f = some (a && (L.drop i).all (fun n => ((spn (c, 0, ()) (d, n, ())).take c.2.1.length).all fun s => decide (s.2.1 ≤ n)), b || (L.drop i).any (fun n => ((spn (c, 0, ()) (d, n, ())).take c.2.1.length).all fun s => decide (s.1 ≤ n)), ()) := by
    intro e
    induction e with
    | zero =>
      intro i hi a b
      refine iter_ev (Ev.eq (fun _ => Q102_0 _ _ _ _ _ _ _) ?_)
      rw [dec_f (by omega), List.drop_eq_nil_of_le (by omega)]
      simp only [List.all_nil, List.any_nil, Bool.and_true, Bool.or_false]
      exact Ev.all fun _ => by first | rfl | trivial
    | succ e ih =>
      intro i hi a b
      refine iter_ev (Ev.eq (fun _ => Q102_0 _ _ _ _ _ _ _) ?_)
      have hlt : i < L.length := by omega
      have hx := hin L[i] (List.getElem_mem hlt)
      rw [Int.toNat_natCast, getD_lt hlt, dec_t (show (i : Int) < (L.length : Int) by omega), dec_t (show (0 : Int) ≤ (i : Int) by omega), L131 c hv d hd L[i] (by omega) (by omega) hx.2.2]
      simp only [Bool.and_self, cond_true, Option.bind_some]
      refine tops_in d L (by omega) b i hlt _ (by rw [List.length_take]; omega) c _ _ 0 (Nat.zero_add _) a true ?_
      rw [List.drop_zero, getD_lt hlt, List.drop_eq_getElem_cons hlt]
      have := ih (i + 1) (by omega) (a && ((spn (c, 0, ()) (d, L[i], ())).take c.2.1.length).all fun s => decide (s.2.1 ≤ L[i])) (b || (true && ((spn (c, 0, ()) (d, L[i], ())).take c.2.1.length).all fun s => decide (s.1 ≤ L[i])))
      simpa only [List.all_cons, List.any_cons, Bool.and_assoc, Bool.or_assoc, Bool.true_and] using this
  have := key L.length 0 (by omega) true false
  rw [List.drop_zero] at this
  exact this

noncomputable abbrev T29_0 (i : Nat) (c : Int × List Sp × Unit) (A B : List Int) (f : Nat) : Option (denL [(.slice (.int .i64)), (.slice (.int .i64)), (.int .i64)]) := iter cx102 S29 [(.slice (.int .i64)), (.slice (.int .i64)), (.int .i64)] 6000 f 0 K29_0 ((((), ((), ((), ((i : Int), ())))), ()), (c, (A, (B, ()))))
/-- 'Tops' of the reference. -/
theorem L29 (c : Int × List Sp × Unit) : F29 ((c, ()) : (Int × List Sp × Unit) × Unit) = some (topsP c) := by
  refine ghost_eq (Ev.eq (fun _ => E29 _ _) ?_)
  rw [L19]
  simp only [Option.bind_some]
  rw [L89 c _ fun h => (chk_ok h).1, ← ent_err]
  simp only [Option.bind_some]
  unfold topsP
  by_cases h : (ent c 0 0).2.1 = 0
  · obtain ⟨hc, _, _, _, _, ha, _⟩ := ent_ok h
    obtain ⟨hv, _⟩ := chk_ok hc
    have h12 := hv.l12
    rw [if_neg (by simpa using h), h]
    simp only [bne_self_eq_false, cond_false]
    have key : ∀ (e d : Nat), d + e = c.2.1.length → Ev fun f => T29_0 d c (numsL (sureTop (c, 0, ()) (spn (c, 0, ()) nob)) d) (numsL (mayTop (c, 0, ()) (spn (c, 0, ()) nob)) d) f = some (numsL (sureTop (c, 0, ()) (spn (c, 0, ()) nob)) c.2.1.length, numsL (mayTop (c, 0, ()) (spn (c, 0, ()) nob)) c.2.1.length, 0, ()) := by
      intro e
      induction e with
      | zero =>
        intro d hd
        obtain rfl : d = c.2.1.length := by omega
        refine iter_ev (Ev.eq (fun _ => Q29_0 _ _ _ _ _) ?_)
        rw [dec_f (by omega)]
        exact Ev.all fun _ => by first | rfl | trivial
      | succ e ih =>
        intro d hd
        refine iter_ev (Ev.eq (fun _ => Q29_0 _ _ _ _ _) ?_)
        have hi := ih (d + 1) (by omega)
        rw [numsL_succ, numsL_succ] at hi
        have n1 := numsL_len (sureTop (c, 0, ()) (spn (c, 0, ()) nob)) d
        have n2 := numsL_len (mayTop (c, 0, ()) (spn (c, 0, ()) nob)) d
        rw [dec_t (show (d : Int) < (c.2.1.length : Int) by omega), L102 c hv ha d (by omega), wrap_succ (by omega), one_set]
        generalize numsL (sureTop (c, 0, ()) (spn (c, 0, ()) nob)) d = A at *
        generalize numsL (mayTop (c, 0, ()) (spn (c, 0, ()) nob)) d = B at *
        simp only [cond_true, Option.bind_some]
        rw [dec_t (show A.length + [(d : Int)].length ≤ 2147483648 by simp; omega), dec_t (show B.length + [(d : Int)].length ≤ 2147483648 by simp; omega)]
        cases e1 : sureTop (c, 0, ()) (spn (c, 0, ()) nob) d <;> cases e2 : mayTop (c, 0, ()) (spn (c, 0, ()) nob) d <;> simp only [e1, e2, if_true, Bool.false_eq_true, if_false] at hi <;> exact hi
    exact key c.2.1.length 0 (by omega)
  · have e1 : ((ent c 0 0).2.1 != 0) = true := by simpa using h
    simp only [e1, cond_true]
    rw [if_pos (by simpa using h)]
    exact Ev.all fun _ => by first | rfl | trivial

noncomputable abbrev T105_0 (d : Nat) (L : List Int) (a b : Bool) (i : Nat) (c : Int × List Sp × Unit) (f : Nat) : Option (denL [.bool, .bool]) := iter cx29 S105 [.bool, .bool] 6000 f 0 K105_0 ((((d : Int), ((), (L, (a, (b, ((i : Int), ())))))), ()), (c, ()))
/-- 'rises' of the reference. -/
theorem L105 (c : Int × List Sp × Unit) (hv : Valid c) (ha : alive (spn (c, 0, ()) nob) = true) (d : Nat) (h1 : 1 ≤ d) (hd : d < c.2.1.length) : F105 ((c, (d : Int), ()) : (Int × List Sp × Unit) × Int × Unit) = some (sureRise (c, 0, ()) (spn (c, 0, ()) nob) d, mayRise (c, 0, ()) (spn (c, 0, ()) nob) d, ()) := by
  have h12 := hv.l12
  unfold sureRise mayRise
  rw [dec_t h1, Bool.true_and, Bool.true_and]
  rw [← all_nums hv ha hd (fun n => decide (((spn (c, 0, ()) (d, n, ())).getD (d - 1) z0).2.1 < n)) _ (fun v => by
      rw [riseS]
      by_cases h : ((spn (c, 0, ()) (d, v, ())).getD (d - 1) z0).2.1 < v
      · rw [dec_t h, dec_f (by omega)]; rfl
      · rw [dec_f h, dec_t (by omega)]; rfl),
    ← any_nums hv ha hd (fun n => decide (((spn (c, 0, ()) (d, n, ())).getD (d - 1) z0).1 < n)) (riseM (c, 0, ()) d) (fun v => rfl)]
  refine ghost_eq (Ev.eq (fun _ => E105 _ _ _) ?_)
  rw [L61' c hv d hd]
  simp only [Option.bind_some]
  have hL := numsL_len (fun v => alive (spn (c, 0, ()) (d, (v : Int), ()))) 101
  have hin := fun v => (nums_in hv ha hd v).1
  have hsd := spn_day c hv ha hd
  have hm := many_eq c hv ha hd
  have w1 : IntKind.wrap IntKind.i64 ((d : Int) - 1) = ((d - 1 : Nat) : Int) := by rw [wrap_id (by omega) (by omega)]; omega
  generalize numsL (fun v => alive (spn (c, 0, ()) (d, (v : Int), ()))) 101 = L at *
  have key : ∀ (e i : Nat), i + e = L.length → ∀ a b : Bool, Ev fun f => T105_0 d L a b i c f = some (a && (L.drop i).all (fun n => decide (((spn (c, 0, ()) (d, n, ())).getD (d - 1) z0).2.1 < n)), b || (L.drop i).any (fun n => decide (((spn (c, 0, ()) (d, n, ())).getD (d - 1) z0).1 < n)), ()) := by
    intro e
    induction e with
    | zero =>
      intro i hi a b
      refine iter_ev (Ev.eq (fun _ => Q105_0 _ _ _ _ _ _ _) ?_)
      rw [dec_f (by omega), List.drop_eq_nil_of_le (by omega)]
      simp only [List.all_nil, List.any_nil, Bool.and_true, Bool.or_false]
      exact Ev.all fun _ => by first | rfl | trivial
    | succ e ih =>
      intro i hi a b
      refine iter_ev (Ev.eq (fun _ => Q105_0 _ _ _ _ _ _ _) ?_)
      have hlt : i < L.length := by omega
      have hx := hin L[i] (List.getElem_mem hlt)
      have hbd := (spn_bd (c, 0, ()) (d, L[i], ()) hv (bd_pt (by omega) (by omega) d)).1
      have hlen : ((spn (c, 0, ()) (d, L[i], ())).take c.2.1.length).length = c.2.1.length := by rw [List.length_take, hbd]; omega
      have hg : ((spn (c, 0, ()) (d, L[i], ())).take c.2.1.length).getD (d - 1) (0, 0, ()) = (spn (c, 0, ()) (d, L[i], ())).getD (d - 1) z0 := by
        rw [List.getD_eq_getElem?_getD, List.getElem?_take_of_lt (by omega), ← List.getD_eq_getElem?_getD]
        rfl
      rw [Int.toNat_natCast, getD_lt hlt, L131 c hv d hd L[i] (by omega) (by omega) hx.2.2, wrap_succ (n := i) (by omega), w1]
      simp only [Option.bind_some, hlen, Int.toNat_natCast, hg]
      rw [dec_t (show (i : Int) < (L.length : Int) by omega), dec_t (show (0 : Int) ≤ (i : Int) by omega), dec_t (show (0 : Int) ≤ ((d - 1 : Nat) : Int) by omega), dec_t (show ((d - 1 : Nat) : Int) < (c.2.1.length : Int) by omega)]
      rw [List.drop_eq_getElem_cons hlt, List.all_cons, List.any_cons]
      have hi := fun a b => ih (i + 1) (by omega) a b
      generalize decide (((spn (c, 0, ()) (d, L[i], ())).getD (d - 1) z0).2.1 < L[i]) = u at *
      generalize decide (((spn (c, 0, ()) (d, L[i], ())).getD (d - 1) z0).1 < L[i]) = v at *
      cases a <;> cases b <;> simp only [cond_true, cond_false, Bool.and_self, Bool.true_and, Bool.false_and, Bool.false_or, Bool.true_or] <;> first | exact (hi _ _) | (simpa using hi _ _)
  have := key L.length 0 (by omega) true false
  rw [List.drop_zero] at this
  exact this

noncomputable abbrev T32_0 (i : Nat) (c : Int × List Sp × Unit) (A B : List Int) (f : Nat) : Option (denL [(.slice (.int .i64)), (.slice (.int .i64)), (.int .i64)]) := iter cx105 S32 [(.slice (.int .i64)), (.slice (.int .i64)), (.int .i64)] 6000 f 0 K32_0 ((((), ((), ((), ((i : Int), ())))), ()), (c, (A, (B, ()))))
/-- 'Rises' of the reference. -/
theorem L32 (c : Int × List Sp × Unit) : F32 ((c, ()) : (Int × List Sp × Unit) × Unit) = some (risesP c) := by
  refine ghost_eq (Ev.eq (fun _ => E32 _ _) ?_)
  rw [L19]
  simp only [Option.bind_some]
  rw [L89 c _ fun h => (chk_ok h).1, ← ent_err]
  simp only [Option.bind_some]
  unfold risesP
  by_cases h : (ent c 0 0).2.1 = 0
  · obtain ⟨hc, _, _, _, _, ha, _⟩ := ent_ok h
    obtain ⟨hv, _⟩ := chk_ok hc
    have h12 := hv.l12
    have hl1 := hv.l1
    rw [if_neg (by simpa using h), h]
    simp only [bne_self_eq_false, cond_false]
    have key : ∀ (e d : Nat), d + e = c.2.1.length → 1 ≤ d → Ev fun f => T32_0 d c (numsL (sureRise (c, 0, ()) (spn (c, 0, ()) nob)) d) (numsL (mayRise (c, 0, ()) (spn (c, 0, ()) nob)) d) f = some (numsL (sureRise (c, 0, ()) (spn (c, 0, ()) nob)) c.2.1.length, numsL (mayRise (c, 0, ()) (spn (c, 0, ()) nob)) c.2.1.length, 0, ()) := by
      intro e
      induction e with
      | zero =>
        intro d hd _
        obtain rfl : d = c.2.1.length := by omega
        refine iter_ev (Ev.eq (fun _ => Q32_0 _ _ _ _ _) ?_)
        rw [dec_f (by omega)]
        exact Ev.all fun _ => by first | rfl | trivial
      | succ e ih =>
        intro d hd hd1
        refine iter_ev (Ev.eq (fun _ => Q32_0 _ _ _ _ _) ?_)
        have hi := ih (d + 1) (by omega) (by omega)
        rw [numsL_succ, numsL_succ] at hi
        have n1 := numsL_len (sureRise (c, 0, ()) (spn (c, 0, ()) nob)) d
        have n2 := numsL_len (mayRise (c, 0, ()) (spn (c, 0, ()) nob)) d
        rw [dec_t (show (d : Int) < (c.2.1.length : Int) by omega), L105 c hv ha d hd1 (by omega), wrap_succ (by omega), one_set]
        generalize numsL (sureRise (c, 0, ()) (spn (c, 0, ()) nob)) d = A at *
        generalize numsL (mayRise (c, 0, ()) (spn (c, 0, ()) nob)) d = B at *
        simp only [cond_true, Option.bind_some]
        rw [dec_t (show A.length + [(d : Int)].length ≤ 2147483648 by simp; omega), dec_t (show B.length + [(d : Int)].length ≤ 2147483648 by simp; omega)]
        cases e1 : sureRise (c, 0, ()) (spn (c, 0, ()) nob) d <;> cases e2 : mayRise (c, 0, ()) (spn (c, 0, ()) nob) d <;> simp only [e1, e2, if_true, Bool.false_eq_true, if_false] at hi <;> exact hi
    have := key (c.2.1.length - 1) 1 (by omega) (Nat.le_refl _)
    have z1 : numsL (sureRise (c, 0, ()) (spn (c, 0, ()) nob)) 1 = [] := by rw [numsL_succ, show sureRise (c, 0, ()) (spn (c, 0, ()) nob) 0 = false from rfl]; rfl
    have z2 : numsL (mayRise (c, 0, ()) (spn (c, 0, ()) nob)) 1 = [] := by rw [numsL_succ, show mayRise (c, 0, ()) (spn (c, 0, ()) nob) 0 = false from rfl]; rfl
    rw [z1, z2] at this
    exact this
  · have e1 : ((ent c 0 0).2.1 != 0) = true := by simpa using h
    simp only [e1, cond_true]
    rw [if_pos (by simpa using h)]
    exact Ev.all fun _ => by first | rfl | trivial
end Go.Proofs.YtjigflnjgmgmnaaDoor
/- What Ask of the reference comes to: that of the program. Conditions: as each lemma states. -/
namespace Go.Proofs.YtjigflnjgmgmnaaDoor
open Go Go.Gh Go.Proofs

/-- The greatest of some values and one. -/
structure MostOf (P : Int → Prop) (ap : Int → Int) (a r : Int) : Prop where
  all : ∀ v, P v → ap v ≤ r
  ge : a ≤ r
  is : r = a ∨ ∃ v, P v ∧ ap v = r
theorem MostOf.one {P : Int → Prop} {ap : Int → Int} {a r q : Int} (h : MostOf P ap a r) (h' : MostOf P ap a q) : r = q := by
  have h1 := h.ge
  have h2 := h'.ge
  rcases h.is with e | ⟨v, hv, e⟩ <;> rcases h'.is with e' | ⟨w, hw, e'⟩
  · omega
  · have := h.all w hw; omega
  · have := h'.all v hv; omega
  · have := h.all w hw
    have := h'.all v hv
    omega
theorem MostOf.iff {P Q : Int → Prop} {ap : Int → Int} {a r : Int} (h : MostOf P ap a r) (e : ∀ v, P v ↔ Q v) : MostOf Q ap a r :=
  ⟨fun v hv => h.all v ((e v).2 hv), h.ge, h.is.imp id fun ⟨v, hv, e'⟩ => ⟨v, (e v).1 hv, e'⟩⟩
theorem MostOf.cons {P : Int → Prop} {ap : Int → Int} {a r b w : Int} (hb : b = if ap w > a then ap w else a) (h : MostOf P ap b r) : MostOf (fun v => v = w ∨ P v) ap a r := by
  have h1 := h.ge
  refine ⟨fun v hv => ?_, ?_, ?_⟩
  · rcases hv with rfl | hv
    · split at hb <;> omega
    · exact h.all v hv
  · split at hb <;> omega
  · rcases h.is with e | ⟨v, hv, e⟩
    · split at hb
      · exact .inr ⟨w, .inl rfl, by omega⟩
      · exact .inl (by omega)
    · exact .inr ⟨v, .inr hv, e⟩

theorem mostN_most (m : Mo) (d : Nat) : ∀ (e : Nat) (n a : Int), MostOf (fun v => n ≤ v ∧ v < n + e ∧ alive (spn m (d, v, ())) = true) (fun v => apartP m (d, v, ())) a (mostN m d e n a)
  | 0, n, a => ⟨fun v hv => by omega, Int.le_refl _, .inl rfl⟩
  | e + 1, n, a => by
    simp only [mostN]
    have ih := mostN_most m d e (n + 1)
    cases ha : alive (spn m (d, n, ())) with
    | true =>
      simp only [if_true]
      refine (MostOf.cons rfl (ih _)).iff fun v => ?_
      constructor
      · rintro (rfl | ⟨h1, h2, h3⟩)
        · exact ⟨by omega, by omega, ha⟩
        · exact ⟨by omega, by omega, h3⟩
      · rintro ⟨h1, h2, h3⟩
        by_cases e : v = n
        · exact .inl e
        · exact .inr ⟨by omega, by omega, h3⟩
    | false =>
      simp only [Bool.false_eq_true, if_false]
      refine (ih a).iff fun v => ?_
      constructor
      · rintro ⟨h1, h2, h3⟩; exact ⟨by omega, by omega, h3⟩
      · rintro ⟨h1, h2, h3⟩
        by_cases e : v = n
        · subst e; rw [ha] at h3; cases h3
        · exact ⟨by omega, by omega, h3⟩

def mostL (m : Mo) (d : Nat) : List Int → Int → Int
  | [], a => a
  | n :: l, a => mostL m d l (if apartP m (d, n, ()) > a then apartP m (d, n, ()) else a)
theorem mostL_most (m : Mo) (d : Nat) : ∀ (l : List Int) (a : Int), MostOf (fun v => v ∈ l) (fun v => apartP m (d, v, ())) a (mostL m d l a)
  | [], a => ⟨fun v hv => (by cases hv), Int.le_refl _, .inl rfl⟩
  | n :: l, a => (MostOf.cons rfl (mostL_most m d l _)).iff fun v => by rw [List.mem_cons]

theorem sums_with (c : Int × List Sp × Unit) (d : Nat) (n : Int) (hd : d < c.2.1.length) (h0 : 0 ≤ n) (h1 : n ≤ 100) (h : canB (c.2.1.getD d z0) n = true) : sums (c, 0, ()) (d, n, ()) = sums (withC c d n, 0, ()) nob := by
  unfold sums
  rw [spn_with c d n hd h0 h1 h]
  simp only [with_len]

noncomputable abbrev T60_0 (d : Nat) (L : List Int) (a : Int) (i : Nat) (c : Int × List Sp × Unit) (f : Nat) : Option (denL [(.int .i64)]) := iter cx32 S60 [(.int .i64)] 6000 f 0 K60_0 ((((d : Int), ((), (L, (a, ((i : Int), ()))))), ()), (c, ()))
/-- 'Apart' of the reference. -/
theorem L60 (c : Int × List Sp × Unit) (hv : Valid c) (ha : alive (spn (c, 0, ()) nob) = true) (d : Nat) (hd : d < c.2.1.length) : F60 ((c, (d : Int), ()) : (Int × List Sp × Unit) × Int × Unit) = some (mostN (c, 0, ()) d (many (spn (c, 0, ()) nob) d) ((spn (c, 0, ()) nob).getD d z0).1 0, ()) := by
  have h12 := hv.l12
  have hm1 := mostN_most (c, 0, ()) d (many (spn (c, 0, ()) nob) d) ((spn (c, 0, ()) nob).getD d z0).1 0
  have hin := nums_in hv ha hd
  have hsd := spn_day c hv ha hd
  have hm := many_eq c hv ha hd
  have hm2 := (mostL_most (c, 0, ()) d (numsL (fun v => alive (spn (c, 0, ()) (d, (v : Int), ()))) 101) 0).iff hin
  rw [hm1.one hm2]
  refine ghost_eq (Ev.eq (fun _ => E60 _ _ _) ?_)
  rw [L61' c hv d hd]
  simp only [Option.bind_some]
  have hL := numsL_len (fun v => alive (spn (c, 0, ()) (d, (v : Int), ()))) 101
  generalize numsL (fun v => alive (spn (c, 0, ()) (d, (v : Int), ()))) 101 = L at *
  have key : ∀ (e i : Nat), i + e = L.length → ∀ a : Int, Ev fun f => T60_0 d L a i c f = some (mostL (c, 0, ()) d (L.drop i) a, ()) := by
    intro e
    induction e with
    | zero =>
      intro i hi a
      refine iter_ev (Ev.eq (fun _ => Q60_0 _ _ _ _ _ _) ?_)
      rw [dec_f (by omega), List.drop_eq_nil_of_le (by omega)]
      exact Ev.all fun _ => by first | rfl | trivial
    | succ e ih =>
      intro i hi a
      refine iter_ev (Ev.eq (fun _ => Q60_0 _ _ _ _ _ _) ?_)
      have hlt : i < L.length := by omega
      obtain ⟨x1, x2, x3⟩ := (hin L[i]).1 (List.getElem_mem hlt)
      have hcan := can_told hv d hd (show 0 ≤ L[i] by omega) (by omega) x3
      have hw := with_valid hv d (n := L[i]) (by omega) (by omega)
      have x4 : alive (spn (withC c d L[i], 0, ()) nob) = true := by rw [← spn_with c d L[i] hd (by omega) (by omega) hcan]; exact x3
      obtain ⟨b, hb⟩ := L59' _ hw x4
      have hbd := sums_bd (withC c d L[i], 0, ()) nob hw bd_nob
      rw [Int.toNat_natCast, getD_lt hlt, L55 c hv d hd, wrap_succ (n := i) (by omega)]
      simp only [Option.bind_some]
      rw [hb]
      simp only [Option.bind_some]
      rw [wrap_id (by omega) (by omega), dec_t (show (i : Int) < (L.length : Int) by omega), dec_t (show (0 : Int) ≤ (i : Int) by omega)]
      rw [List.drop_eq_getElem_cons hlt, mostL]
      unfold apartP
      rw [sums_with c d L[i] hd (by omega) (by omega) hcan]
      exact ih (i + 1) (by omega) _
  have := key L.length 0 (by omega) 0
  rw [List.drop_zero] at this
  exact this

noncomputable abbrev T34_0 (best left : Int) (d : Nat) (c : Int × List Sp × Unit) (f : Nat) : Option (denL [(.int .i64), (.int .i64), (.int .i64)]) := iter cx60 S34 [(.int .i64), (.int .i64), (.int .i64)] 6000 f 0 K34_0 ((((), (best, (left, ((d : Int), ())))), ()), (c, ()))
/-- 'Ask' of the reference. -/
theorem L34 (c : Int × List Sp × Unit) : F34 ((c, ()) : (Int × List Sp × Unit) × Unit) = some (askP c) := by
  refine ghost_eq (Ev.eq (fun _ => E34 _ _) ?_)
  rw [L19]
  simp only [Option.bind_some]
  rw [L89 c _ fun h => (chk_ok h).1, ← ent_err]
  simp only [Option.bind_some]
  unfold askP
  by_cases h : (ent c 0 0).2.1 = 0
  · obtain ⟨hc, _, _, _, _, ha, _⟩ := ent_ok h
    obtain ⟨hv, _⟩ := chk_ok hc
    obtain ⟨b, hb⟩ := L59' c hv ha
    have hbd := sums_bd (c, 0, ()) nob hv bd_nob
    have h12 := hv.l12
    rw [if_neg (by simpa using h), h, hb]
    simp only [bne_self_eq_false, cond_false, Option.bind_some]
    rw [wrap_id (by omega) (by omega)]
    have key : ∀ (e d : Nat) (best day left : Int), d + e = c.2.1.length → (best = -1 ∧ left = apartP (c, 0, ()) nob ∨ best = day ∧ 0 ≤ day ∧ left < apartP (c, 0, ()) nob) → askN (c, 0, ()) (spn (c, 0, ()) nob) e d day left = askN (c, 0, ()) (spn (c, 0, ()) nob) c.2.1.length 0 0 (apartP (c, 0, ()) nob) →
        ∀ y, (∀ r : Int × Int, r = askN (c, 0, ()) (spn (c, 0, ()) nob) c.2.1.length 0 0 (apartP (c, 0, ()) nob) → y = if r.2 = apartP (c, 0, ()) nob then (0, 0, 9, ()) else (r.1, r.2, 0, ())) → Ev fun f => T34_0 best left d c f = some y := by
      intro e
      induction e with
      | zero =>
        intro d best day left hd hi he y hy
        refine iter_ev (Ev.eq (fun _ => Q34_0 _ _ _ _ _) ?_)
        have hy := hy (day, left) he
        rw [dec_f (by omega), hy]
        simp only [cond_false]
        rcases hi with ⟨h1, h2⟩ | ⟨h1, h2, h3⟩
        · rw [dec_t (show best < 0 by omega), if_pos h2]
          exact Ev.all fun _ => by first | rfl | trivial
        · rw [dec_f (show ¬ best < 0 by omega), if_neg (by omega), h1]
          exact Ev.all fun _ => by first | rfl | trivial
      | succ e ih =>
        intro d best day left hd hi he y hy
        refine iter_ev (Ev.eq (fun _ => Q34_0 _ _ _ _ _) ?_)
        rw [dec_t (show (d : Int) < (c.2.1.length : Int) by omega), L60 c hv ha d (by omega), wrap_succ (by omega)]
        simp only [cond_true, Option.bind_some]
        simp only [askN] at he
        by_cases hl : mostN (c, 0, ()) d (many (spn (c, 0, ()) nob) d) ((spn (c, 0, ()) nob).getD d z0).1 0 < left
        · rw [if_pos hl] at he
          rw [dec_t hl]
          exact ih (d + 1) d d _ (by omega) (.inr ⟨rfl, by omega, by omega⟩) he y hy
        · rw [if_neg hl] at he
          rw [dec_f hl]
          exact ih (d + 1) best day left (by omega) hi he y hy
    exact key c.2.1.length 0 (-1) 0 _ (by omega) (.inl ⟨rfl, rfl⟩) rfl _ (fun r hr => by rw [hr])
  · have e1 : ((ent c 0 0).2.1 != 0) = true := by simpa using h
    simp only [e1, cond_true]
    rw [if_pos (by simpa using h)]
    exact Ev.all fun _ => by first | rfl | trivial
end Go.Proofs.YtjigflnjgmgmnaaDoor
/- What Wrong of the reference comes to: that of the program. Conditions: as each lemma states. -/
namespace Go.Proofs.YtjigflnjgmgmnaaDoor
open Go Go.Gh Go.Proofs Go.Few

noncomputable abbrev T50_0 (i : Nat) (c : Int × List Sp × Unit) (A : List Int) (f : Nat) : Option (denL [(.slice (.int .i64))]) := iter cx34 S50 [(.slice (.int .i64))] 6000 f 0 K50_0 ((((), ((), ((i : Int), ()))), ()), (c, (A, ())))
/-- 'Hopes' of the reference. -/
theorem L50 (c : Int × List Sp × Unit) (h12 : c.2.1.length ≤ 12) : F50 ((c, ()) : (Int × List Sp × Unit) × Unit) = some (numsL (isHope c) c.2.1.length, ()) := by
  refine ghost_eq (Ev.eq (fun _ => E50 _ _) ?_)
  have key : ∀ (e d : Nat), d + e = c.2.1.length → Ev fun f => T50_0 d c (numsL (isHope c) d) f = some (numsL (isHope c) c.2.1.length, ()) := by
    intro e
    induction e with
    | zero =>
      intro d hd
      obtain rfl : d = c.2.1.length := by omega
      refine iter_ev (Ev.eq (fun _ => Q50_0 _ _ _ _) ?_)
      rw [dec_f (by omega)]
      exact Ev.all fun _ => by first | rfl | trivial
    | succ e ih =>
      intro d hd
      refine iter_ev (Ev.eq (fun _ => Q50_0 _ _ _ _) ?_)
      have hi := ih (d + 1) (by omega)
      rw [numsL_succ] at hi
      have n1 := numsL_len (isHope c) d
      generalize numsL (isHope c) d = A at *
      rw [dec_t (show (d : Int) < (c.2.1.length : Int) by omega), dec_t (show (0 : Int) ≤ (d : Int) by omega), wrap_succ (n := d) (by omega), one_set, Int.toNat_natCast, dec_t (show A.length + [(d : Int)].length ≤ 2147483648 by simp; omega)]
      unfold isHope at hi
      rw [show c.2.1.getD d (0, 0, ()) = c.2.1.getD d z0 from rfl]
      simp only [Bool.and_self, cond_true]
      cases e1 : ((c.2.1.getD d z0).1 == 3) <;> simp only [e1, if_true, Bool.false_eq_true, if_false] at hi <;> exact hi
  exact key c.2.1.length 0 (by omega)

noncomputable abbrev T111_0 (b m : Nat) (out : List (List Int)) (i : Nat) (f : Nat) : Option (denL [(.slice (.slice (.int .i64)))]) := iter cx50 S111 [(.slice (.slice (.int .i64)))] 6000 f 0 K111_0 ((((b : Int), ((m : Int), (out, ((i : Int), ())))), ()), ())
noncomputable abbrev T111_1 (b m : Nat) (out : List (List Int)) (i k : Nat) (acc : List (List Int)) (f : Nat) : Option (denL [(.slice (.slice (.int .i64)))]) := iter cx50 S111 [(.slice (.slice (.int .i64)))] 6000 f 1 K111_1 ((((b : Int), ((m : Int), (out, ((i : Int), ((), ((k : Int), ())))))), ()), (acc, ()))
noncomputable abbrev T111_2 (b m : Nat) (out : List (List Int)) (i k : Nat) (n : Int) (acc : List (List Int)) (f : Nat) : Option (denL [(.slice (.slice (.int .i64)))]) := iter cx50 S111 [(.slice (.slice (.int .i64)))] 6000 f 2 K111_2 ((((b : Int), ((m : Int), (out, ((i : Int), ((), ((k : Int), (n, ()))))))), ()), (acc, ()))

theorem choose2 (b m : Nat) (hb : b ≤ 8) (out : List (List Int)) (ho : out.length ≤ 16777216) (i k : Nat) (hk : k < out.length) (hl : (out.getD k []).length ≤ 8) (y : denL [(.slice (.slice (.int .i64)))]) : ∀ (e : Nat) (n : Int), n + e = b → 0 ≤ n → ∀ acc : List (List Int), (acc ++ (upto n b).map fun n => out.getD k [] ++ [n]).length ≤ 16777216 →
    (Ev fun f => T111_1 b m out i (k + 1) (acc ++ (upto n b).map fun n => out.getD k [] ++ [n]) f = some y) → Ev fun f => T111_2 b m out i k n acc f = some y := by
  intro e
  induction e with
  | zero =>
    intro n hn h0 acc hc h
    refine iter_ev (Ev.eq (fun _ => Q111_2 _ _ _ _ _ _ _ _) ?_)
    rw [upto_nil (by omega), List.map_nil, List.append_nil] at h
    rw [dec_f (by omega), wrap_succ (n := k) (by omega)]
    exact h
  | succ e ih =>
    intro n hn h0 acc hc h
    refine iter_ev (Ev.eq (fun _ => Q111_2 _ _ _ _ _ _ _ _) ?_)
    rw [upto_cons (by omega), List.map_cons] at h hc
    have hc' := hc
    rw [List.length_append, List.length_cons] at hc'
    rw [wrap_id (x := n + 1) (by omega) (by omega), one_set, one_set, Int.toNat_natCast, dec_t (show n < (b : Int) by omega), dec_t (show (0 : Int) ≤ (k : Int) by omega), dec_t (show (k : Int) < (out.length : Int) by omega), dec_t (show (out.getD k []).length ≤ 2147483648 by omega), dec_t (show (out.getD k []).length + [n].length ≤ 2147483648 by simp only [List.length_cons, List.length_nil]; omega), dec_t (show acc.length + [out.getD k [] ++ [n]].length ≤ 2147483648 by simp only [List.length_cons, List.length_nil]; omega)]
    have e1 : ∀ r : List (List Int), acc ++ (out.getD k [] ++ [n]) :: r = (acc ++ [out.getD k [] ++ [n]]) ++ r := fun r => by simp
    rw [e1] at h hc
    exact ih (n + 1) (by omega) (by omega) _ hc h

theorem choose1 (b m : Nat) (hb : b ≤ 8) (i : Nat) (hi8 : i ≤ 7) (y : denL [(.slice (.slice (.int .i64)))]) (h : Ev fun f => T111_0 b m (chooseL b (i + 1)) (i + 1) f = some y) : ∀ (e k : Nat), k + e = (chooseL b i).length → ∀ acc : List (List Int), acc ++ ((chooseL b i).drop k).flatMap (fun o => (upto (Few.firstOf i o) b).map fun n => o ++ [n]) = chooseL b (i + 1) →
    Ev fun f => T111_1 b m (chooseL b i) i k acc f = some y := by
  have hcap := chooseL_cap hb (show i ≤ 8 by omega)
  have hcap' := chooseL_cap hb (show i + 1 ≤ 8 by omega)
  intro e
  induction e with
  | zero =>
    intro k hk acc ha
    refine iter_ev (Ev.eq (fun _ => Q111_1 _ _ _ _ _ _ _) ?_)
    rw [List.drop_eq_nil_of_le (by omega), List.flatMap_nil, List.append_nil] at ha
    rw [dec_f (by omega), wrap_succ (n := i) (by omega), ha]
    exact h
  | succ e ih =>
    intro k hk acc ha
    refine iter_ev (Ev.eq (fun _ => Q111_1 _ _ _ _ _ _ _) ?_)
    have hlt : k < (chooseL b i).length := by omega
    have hr := mem_chooseL.1 (List.getElem_mem hlt)
    have hg : (chooseL b i).getD k [] = (chooseL b i)[k] := getD_lt hlt
    have hf0 := firstOf_ge hr
    have hf1 := firstOf_le (by omega) hr
    rw [List.drop_eq_getElem_cons hlt, List.flatMap_cons, ← List.append_assoc] at ha
    have hle : (acc ++ (upto (Few.firstOf i (chooseL b i)[k]) b).map fun n => (chooseL b i)[k] ++ [n]).length ≤ 16777216 := by
      have := congrArg List.length ha
      rw [List.length_append] at this
      omega
    have nxt := choose2 b m hb (chooseL b i) hcap i k hlt (by rw [hg, hr.len]; omega) y ((b : Int) - Few.firstOf i (chooseL b i)[k]).toNat (Few.firstOf i (chooseL b i)[k]) (by omega) hf0 acc (by rw [hg]; exact hle) (by rw [hg]; exact ih (k + 1) (by omega) _ ha)
    rw [dec_t (show (k : Int) < ((chooseL b i).length : Int) by omega)]
    simp only [cond_true]
    cases i with
    | zero =>
      rw [dec_f (show ¬ (((0 : Nat) : Int) > 0) by omega)]
      exact nxt
    | succ i =>
      have w1 : IntKind.wrap IntKind.i64 (((i + 1 : Nat) : Int) - 1) = (i : Int) := by rw [wrap_id (by omega) (by omega)]; omega
      have hlen := hr.len
      have hi := hr.in_ _ (List.getElem_mem (show i < ((chooseL b (i + 1))[k]).length by omega))
      have hg2 : ((chooseL b (i + 1))[k]).getD i 0 = ((chooseL b (i + 1))[k])[i]'(by omega) := getD_lt (by omega)
      have w2 : IntKind.wrap IntKind.i64 (((chooseL b (i + 1))[k]).getD i 0 + 1) = Few.firstOf (i + 1) (chooseL b (i + 1))[k] := by
        rw [hg2, wrap_id (by omega) (by omega), Few.firstOf, if_pos (by omega), Nat.add_sub_cancel, hg2]
      rw [dec_t (show (((i + 1 : Nat) : Int) > 0) by omega), w1, Int.toNat_natCast, Int.toNat_natCast, hg, w2, dec_t (show (0 : Int) ≤ (k : Int) by omega), dec_t (show (0 : Int) ≤ (i : Int) by omega), dec_t (show (i : Int) < (((chooseL b (i + 1))[k]).length : Int) by omega)]
      exact nxt

/-- 'Choices' of the reference. -/
theorem L111 (b m : Nat) (hb : b ≤ 8) (hm : m ≤ 8) : F111 (((b : Int), (m : Int), ()) : Int × Int × Unit) = some (chooseL b m, ()) := by
  refine ghost_eq (Ev.eq (fun _ => E111 _ _ _) ?_)
  have key : ∀ (e i : Nat), i + e = m → Ev fun f => T111_0 b m (chooseL b i) i f = some (chooseL b m, ()) := by
    intro e
    induction e with
    | zero =>
      intro i hi
      obtain rfl : i = m := by omega
      refine iter_ev (Ev.eq (fun _ => Q111_0 _ _ _ _ _) ?_)
      rw [dec_f (by omega)]
      exact Ev.all fun _ => by first | rfl | trivial
    | succ e ih =>
      intro i hi
      refine iter_ev (Ev.eq (fun _ => Q111_0 _ _ _ _ _) ?_)
      rw [dec_t (show (i : Int) < (m : Int) by omega)]
      exact choose1 b m hb i (by omega) _ (ih (i + 1) (by omega)) (chooseL b i).length 0 (by omega) [] (by rw [List.drop_zero, List.nil_append]; rfl)
  exact key m 0 (by omega)

/-- Days of which some are taken to be clouded. -/
def butD (l : List Int) (ds : List Sp) : List Sp := l.foldl (fun ds x => ds.set x.toNat z0) ds
theorem butD_len : ∀ (l : List Int) (ds : List Sp), (butD l ds).length = ds.length
  | [], _ => rfl
  | x :: l, ds => by
    show (butD l (ds.set x.toNat z0)).length = _
    rw [butD_len l, List.length_set]
theorem butD_mem : ∀ (l : List Int) (ds : List Sp), ∀ d ∈ butD l ds, d ∈ ds ∨ d = z0
  | [], _, d, h => .inl h
  | x :: l, ds, d, h => by
    rcases butD_mem l (ds.set x.toNat z0) d h with h | h
    · exact List.mem_or_eq_of_mem_set h
    · exact .inr h
theorem butD_at : ∀ (l : List Int) (ds : List Sp) (i : Nat), (∀ x ∈ l, 0 ≤ x ∧ x < ds.length) → (butD l ds).getD i z0 = if (i : Int) ∈ l then z0 else ds.getD i z0
  | [], ds, i, _ => by simp [butD]
  | x :: l, ds, i, h => by
    have hx := h x (List.mem_cons_self ..)
    show (butD l (ds.set x.toNat z0)).getD i z0 = _
    rw [butD_at l _ i fun y hy => by rw [List.length_set]; exact h y (List.mem_cons_of_mem _ hy), getD_set (by omega)]
    by_cases e : (i : Int) ∈ l
    · rw [if_pos e, if_pos (List.mem_cons_of_mem _ e)]
    · rw [if_neg e]
      by_cases e2 : x.toNat = i
      · rw [if_pos e2, if_pos (by rw [show (i : Int) = x by omega]; exact List.mem_cons_self ..)]
      · rw [if_neg e2, if_neg (fun hm => by
          rcases List.mem_cons.1 hm with h1 | h1
          · omega
          · exact e h1)]
def butC (c : Int × List Sp × Unit) (l : List Int) : Int × List Sp × Unit := (c.1, butD l c.2.1, ())
theorem but_valid {c : Int × List Sp × Unit} (h : Valid c) (l : List Int) : Valid (butC c l) :=
  ⟨h.s0, h.s20, by simp only [butC, butD_len]; exact h.l1, by simp only [butC, butD_len]; exact h.l12, fun d hd => by
    rcases butD_mem l _ d hd with hd | rfl
    · exact h.day d hd
    · decide⟩
noncomputable abbrev T52_0 (l : List Int) (i : Nat) (st : Int) (m : Int × List Sp × Unit) (ds : List Sp) (f : Nat) : Option (denL [(.struct [(.int .i64), (.slice (.struct [(.int .i64), (.int .i64)]))])]) := iter cx111 S52 [(.struct [(.int .i64), (.slice (.struct [(.int .i64), (.int .i64)]))])] 6000 f 0 K52_0 (((l, ((), ((), ((i : Int), ())))), ()), ((st, ((), ())), (m, (ds, ()))))
theorem L52 (c : Int × List Sp × Unit) (h12 : c.2.1.length ≤ 12) (l : List Int) (hl : ∀ x ∈ l, 0 ≤ x ∧ x < c.2.1.length) (hn : l.length ≤ 1000000) : F52 ((c, l, ()) : (Int × List Sp × Unit) × List Int × Unit) = some (butC c l, ()) := by
  refine ghost_eq (Ev.eq (fun _ => E52 _ _ _) ?_)
  rw [dec_t (show c.2.1.length ≤ 2147483648 by omega)]
  have key : ∀ (e i : Nat), i + e = l.length → ∀ ds : List Sp, ds.length = c.2.1.length → butD (l.drop i) ds = butD l c.2.1 → Ev fun f => T52_0 l i c.1 (0, [], ()) ds f = some (butC c l, ()) := by
    intro e
    induction e with
    | zero =>
      intro i hi ds hd he
      refine iter_ev (Ev.eq (fun _ => Q52_0 _ _ _ _ _ _) ?_)
      rw [List.drop_eq_nil_of_le (by omega)] at he
      rw [dec_f (by omega), show ds = butD l c.2.1 from he]
      exact Ev.all fun _ => by first | rfl | trivial
    | succ e ih =>
      intro i hi ds hd he
      refine iter_ev (Ev.eq (fun _ => Q52_0 _ _ _ _ _ _) ?_)
      have hlt : i < l.length := by omega
      have hx := hl l[i] (List.getElem_mem hlt)
      rw [List.drop_eq_getElem_cons hlt] at he
      rw [Int.toNat_natCast, getD_lt hlt, wrap_succ (n := i) (by omega), dec_t (show (i : Int) < (l.length : Int) by omega), dec_t (show (0 : Int) ≤ (i : Int) by omega), dec_t (show (0 : Int) ≤ l[i] by omega), dec_t (show l[i] < (ds.length : Int) by omega), dec_t (show l[i].toNat < ds.length by omega)]
      exact ih (i + 1) (by omega) (ds.set l[i].toNat z0) (by rw [List.length_set, hd]) he
  exact key l.length 0 (by omega) c.2.1 rfl rfl

theorem spn_but (c : Int × List Sp × Unit) (l : List Int) (hl : ∀ x ∈ l, 0 ≤ x ∧ x < c.2.1.length) : spn (c, (bitsL l : Int), ()) nob = spn (butC c l, 0, ()) nob := by
  have hd : ∀ i, dayAt (c, (bitsL l : Int), ()) i = dayAt (butC c l, 0, ()) i := by
    intro i
    rw [dayAt_c]
    unfold dayAt bitOf butC
    simp only [Int.toNat_natCast]
    rw [butD_at l _ i hl]
    have := bitsL_bit (l := l) (fun x hx => (hl x hx).1) i
    by_cases e : (i : Int) ∈ l
    · rw [if_pos e, if_pos (this.2 e)]
    · rw [if_neg e, if_neg (fun h => e (this.1 h))]
  unfold spn init own
  simp only [hd, butC, butD_len]

theorem cmpP_eq : ∀ (l p : List Int), cmpP l p = cmpL l p
  | [], [] => rfl
  | [], _ :: _ => rfl
  | _ :: _, [] => rfl
  | a :: l, b :: p => by
    simp only [cmpP, cmpL]
    rw [cmpP_eq l p]
    rfl
theorem worse_eq (l p : List Int) : Go.Proofs.YtjigflnjgmgmnaaDoor.worse l p = Few.worse l p := by
  unfold Go.Proofs.YtjigflnjgmgmnaaDoor.worse Few.worse
  rw [cmpP_eq]
theorem selN_eq (hs : List Int) (set : Nat) : ∀ j, selN hs set j = (selB hs set j, bitsL (selB hs set j))
  | 0 => rfl
  | j + 1 => by
    simp only [selN, selB, selN_eq hs set j]
    split
    · rw [bitsL_concat]
    · rfl
theorem wrongN_scan (c : Int × List Sp × Unit) (hs : List Int) : ∀ (e set : Nat) (best : List Int) (found : Bool), wrongN c hs e set best found = scan (fun l => alive (spn (c, (bitsL l : Int), ()) nob)) ((List.range' set e).map fun s => selB hs s hs.length) best found
  | 0, _, _, _ => rfl
  | e + 1, set, best, found => by
    rw [wrongN, List.range'_succ, List.map_cons, scan, selN_eq, worse_eq, wrongN_scan c hs e, wrongN_scan c hs e]
theorem chkFrom_hopes : ∀ (l : List Sp) (i h : Int), (chkFrom l i h).2.2.1 = 0 → h ≤ 5 → h + (l.countP fun d => d.1 == 3 : Nat) ≤ 5
  | [], _, h, _, h5 => by simpa using h5
  | d :: ds, i, h, hc, h5 => by
    unfold chkFrom at hc
    by_cases h1 : d.1 < 0 ∨ d.1 > 3 ∨ d.2.1 < 0 ∨ d.2.1 > 100
    · rw [if_pos h1] at hc; simp at hc
    · rw [if_neg h1] at hc
      by_cases h2 : d.1 = 0 ∧ d.2.1 ≠ 0
      · rw [if_pos h2] at hc; simp at hc
      · rw [if_neg h2] at hc
        by_cases h3 : (if d.1 = 3 then h + 1 else h) > 5
        · rw [if_pos h3] at hc; simp at hc
        · rw [if_neg h3] at hc
          have := chkFrom_hopes ds _ _ hc (by omega)
          rw [List.countP_cons]
          by_cases e : d.1 = 3
          · rw [if_pos e] at this
            rw [if_pos (by simpa using e)]
            omega
          · rw [if_neg e] at this
            rw [if_neg (by simpa using e)]
            omega
theorem numsL_count (q : Sp → Bool) (l : List Sp) : (numsL (fun d => q (l.getD d z0)) l.length).length = l.countP q := by
  unfold numsL
  rw [List.length_map, ← List.countP_eq_length_filter]
  have e : l = (List.range l.length).map fun d => l.getD d z0 := by
    apply List.ext_getElem (by simp)
    intro i h1 h2
    simp [List.getD_eq_getElem?_getD, h1]
  conv => rhs; rw [e]
  rw [List.countP_map]
  rfl
theorem hopes_le {c : Int × List Sp × Unit} (h : (chk c).2.2.1 = 0) : (numsL (isHope c) c.2.1.length).length ≤ 5 := by
  have e : (numsL (isHope c) c.2.1.length).length = c.2.1.countP fun d => d.1 == 3 := numsL_count (fun d => d.1 == 3) c.2.1
  rw [e]
  have hv := (chk_ok h).1
  have h1 := hv.s0
  have h2 := hv.s20
  have h3 := hv.l1
  have h4 := hv.l12
  unfold chk at h
  rw [if_neg (by omega), if_neg (by omega)] at h
  have := chkFrom_hopes _ _ _ h (by omega)
  omega
theorem find_drop {α : Type} {p : α → Bool} {l : List α} {i : Nat} (hi : i < l.length) : (l.drop i).find? p = if p l[i] = true then some l[i] else (l.drop (i + 1)).find? p := by
  rw [List.drop_eq_getElem_cons hi, List.find?_cons]
  cases p l[i] <;> rfl

noncomputable abbrev T36_0 (hs : List Int) (j : Nat) (c : Int × List Sp × Unit) (f : Nat) : Option (denL [(.slice (.int .i64)), (.int .i64)]) := iter cx52 S36 [(.slice (.int .i64)), (.int .i64)] 6000 f 0 K36_0 ((((), (hs, ((j : Int), ()))), ()), (c, ()))
noncomputable abbrev T36_1 (hs : List Int) (j : Nat) (L : List (List Int)) (i : Nat) (c : Int × List Sp × Unit) (f : Nat) : Option (denL [(.slice (.int .i64)), (.int .i64)]) := iter cx52 S36 [(.slice (.int .i64)), (.int .i64)] 6000 f 1 K36_1 ((((), (hs, ((j : Int), (L, ((i : Int), ()))))), ()), (c, ()))
noncomputable abbrev T36_2 (hs : List Int) (j : Nat) (L : List (List Int)) (i k : Nat) (c : Int × List Sp × Unit) (own : List Int) (f : Nat) : Option (denL [(.slice (.int .i64)), (.int .i64)]) := iter cx52 S36 [(.slice (.int .i64)), (.int .i64)] 6000 f 2 K36_2 ((((), (hs, ((j : Int), (L, ((i : Int), ((), ((k : Int), ()))))))), ()), (c, (own, ())))

theorem wrong_own (c : Int × List Sp × Unit) (hv : Valid c) (hs : List Int) (hh : ∀ x ∈ hs, 0 ≤ x ∧ x < c.2.1.length) (h8 : hs.length ≤ 8) (j : Nat) (i : Nat) (hi : i < (chooseL hs.length j).length) (y : denL [(.slice (.int .i64)), (.int .i64)])
    (h : if alive (spn (butC c (pick hs (chooseL hs.length j)[i]), 0, ()) nob) = true then y = (pick hs (chooseL hs.length j)[i], 0, ()) else Ev fun f => T36_1 hs j (chooseL hs.length j) (i + 1) c f = some y) (hj : j ≤ hs.length) :
    ∀ (e k : Nat), k + e = j → Ev fun f => T36_2 hs j (chooseL hs.length j) i k c ((pick hs (chooseL hs.length j)[i]).take k) f = some y := by
  have hr := mem_chooseL.1 (List.getElem_mem hi)
  have hcap := chooseL_cap h8 (show j ≤ 8 by omega)
  have hpl := pick_len hs (chooseL hs.length j)[i]
  have hlen := hr.len
  intro e
  induction e with
  | zero =>
    intro k hk
    obtain rfl : k = j := by omega
    refine iter_ev (Ev.eq (fun _ => Q36_2 _ _ _ _ _ _ _ _) ?_)
    have hsub := (pick_sub hr)
    rw [List.take_of_length_le (by omega), dec_f (by omega), L52 c hv.l12 _ (fun x hx => hh x (hsub.subset hx)) (by omega)]
    simp only [cond_false, Option.bind_some]
    rw [L94 _ (but_valid hv _), wrap_succ (n := i) (by omega)]
    simp only [Option.bind_some]
    cases ha : alive (spn (butC c (pick hs (chooseL hs.length k)[i]), 0, ()) nob) with
    | true =>
      rw [ha, if_pos rfl] at h
      rw [h]
      exact Ev.all fun _ => by first | rfl | trivial
    | false =>
      rw [ha, if_neg (by decide)] at h
      exact h
  | succ e ih =>
    intro k hk
    refine iter_ev (Ev.eq (fun _ => Q36_2 _ _ _ _ _ _ _ _) ?_)
    have hk' : k < ((chooseL hs.length j)[i]).length := by omega
    have hx := hr.in_ _ (List.getElem_mem hk')
    have hg : ((chooseL hs.length j).getD i []).getD k 0 = ((chooseL hs.length j)[i])[k] := by rw [getD_lt hi, getD_lt hk']
    have := ih (k + 1) (by omega)
    rw [List.take_add_one, List.getElem?_eq_getElem (by omega)] at this
    have hpk : (pick hs (chooseL hs.length j)[i])[k]'(by omega) = hs.getD (((chooseL hs.length j)[i])[k]).toNat 0 := by
      unfold Few.pick
      rw [List.getElem_map]
    rw [Option.toList_some, hpk] at this
    have hlt : ((pick hs (chooseL hs.length j)[i]).take k).length ≤ 8 := by rw [List.length_take]; omega
    generalize (pick hs (chooseL hs.length j)[i]).take k = own at *
    rw [Int.toNat_natCast, Int.toNat_natCast, hg, getD_lt hi, one_set, wrap_succ (n := k) (by omega), dec_t (show (k : Int) < (j : Int) by omega), dec_t (show (0 : Int) ≤ (i : Int) by omega), dec_t (show (i : Int) < ((chooseL hs.length j).length : Int) by omega), dec_t (show (0 : Int) ≤ (k : Int) by omega), dec_t (show (k : Int) < (((chooseL hs.length j)[i]).length : Int) by omega), dec_t hx.1, dec_t hx.2, dec_t (show own.length + [hs.getD (((chooseL hs.length j)[i])[k]).toNat 0].length ≤ 2147483648 by simp; omega)]
    exact this

/-- 'Wrong' of the reference. -/
theorem L36 (c : Int × List Sp × Unit) : F36 ((c, ()) : (Int × List Sp × Unit) × Unit) = some (wrongP c) := by
  refine ghost_eq (Ev.eq (fun _ => E36 _ _) ?_)
  rw [L19]
  simp only [Option.bind_some]
  unfold wrongP
  by_cases h : (chk c).2.2.1 = 0
  · obtain ⟨hv, _⟩ := chk_ok h
    have h12 := hv.l12
    have e1 : ((chk c).2.2.1 != 0) = false := by simp [h]
    rw [if_neg (by simpa using h), L50 c h12]
    simp only [e1, cond_false, Option.bind_some]
    rw [wrongN_scan, ← List.range_eq_range']
    have hh5 := hopes_le h
    have hp := numsL_pair (isHope c) c.2.1.length
    have hin : ∀ x ∈ numsL (isHope c) c.2.1.length, 0 ≤ x ∧ x < (c.2.1.length : Int) := by
      intro x hx
      obtain ⟨n, h1, _, rfl⟩ := numsL_mem.1 hx
      omega
    generalize numsL (isHope c) c.2.1.length = hs at *
    obtain ⟨s1, s2⟩ := scan_find (ok := fun l => alive (spn (c, (bitsL l : Int), ()) nob)) (ok' := fun l => alive (spn (butC c l, 0, ()) nob)) hp (fun l hl => by
      rw [spn_but c l fun x hx => hin x (hl.subset hx)])
    unfold byBits at s1 s2
    generalize scan (fun l => alive (spn (c, (bitsL l : Int), ()) nob)) ((List.range (2 ^ hs.length)).map fun s => selB hs s hs.length) [] false = r at *
    have inner : ∀ (j : Nat) (y : denL [(.slice (.int .i64)), (.int .i64)]), j ≤ hs.length → (∀ r, (subs hs j).find? (fun l => alive (spn (butC c l, 0, ()) nob)) = some r → y = (r, 0, ())) → ((subs hs j).find? (fun l => alive (spn (butC c l, 0, ()) nob)) = none → Ev fun f => T36_0 hs (j + 1) c f = some y) → Ev fun f => T36_0 hs j c f = some y := by
      intro j y hj h1 h2
      refine iter_ev (Ev.eq (fun _ => Q36_0 _ _ _ _) ?_)
      rw [dec_t (show (j : Int) ≤ (hs.length : Int) by omega), L111 hs.length j (by omega) (by omega)]
      simp only [cond_true, Option.bind_some]
      have hcap := chooseL_cap (show hs.length ≤ 8 by omega) (show j ≤ 8 by omega)
      have key : ∀ (e i : Nat), i + e = (chooseL hs.length j).length → (∀ r, ((subs hs j).drop i).find? (fun l => alive (spn (butC c l, 0, ()) nob)) = some r → y = (r, 0, ())) → (((subs hs j).drop i).find? (fun l => alive (spn (butC c l, 0, ()) nob)) = none → Ev fun f => T36_0 hs (j + 1) c f = some y) → Ev fun f => T36_1 hs j (chooseL hs.length j) i c f = some y := by
        intro e
        induction e with
        | zero =>
          intro i hi _ h2
          refine iter_ev (Ev.eq (fun _ => Q36_1 _ _ _ _ _ _) ?_)
          rw [List.drop_eq_nil_of_le (by simp only [subs, List.length_map]; omega)] at h2
          rw [dec_f (by omega), wrap_succ (n := j) (by omega)]
          exact h2 rfl
        | succ e ih =>
          intro i hi h1 h2
          refine iter_ev (Ev.eq (fun _ => Q36_1 _ _ _ _ _ _) ?_)
          have hlt : i < (chooseL hs.length j).length := by omega
          have hlt' : i < (subs hs j).length := by simp only [subs, List.length_map]; omega
          have hg : (subs hs j)[i] = pick hs (chooseL hs.length j)[i] := by simp [subs]
          rw [find_drop hlt', hg] at h1 h2
          rw [dec_t (show (i : Int) < ((chooseL hs.length j).length : Int) by omega)]
          refine wrong_own c hv hs hin (by omega) j i hlt y ?_ hj j 0 (by omega)
          split
          · rename_i ha
            rw [if_pos ha] at h1
            exact h1 _ rfl
          · rename_i ha
            rw [if_neg ha] at h1 h2
            exact ih (i + 1) (by omega) h1 h2
      exact key (chooseL hs.length j).length 0 (by omega) (by rw [List.drop_zero]; exact h1) (by rw [List.drop_zero]; exact h2)
    have key : ∀ (e j : Nat), j + e = hs.length + 1 → (subsTo hs j).find? (fun l => alive (spn (butC c l, 0, ()) nob)) = none → Ev fun f => T36_0 hs j c f = some (if r.2 = true then (r.1, 0, ()) else ([], 9, ())) := by
      intro e
      induction e with
      | zero =>
        intro j hj hn
        obtain rfl : j = hs.length + 1 := by omega
        refine iter_ev (Ev.eq (fun _ => Q36_0 _ _ _ _) ?_)
        rw [dec_f (by omega), s2 hn]
        exact Ev.all fun _ => by first | rfl | trivial
      | succ e ih =>
        intro j hj hn
        refine inner j _ (by omega) (fun q hq => ?_) (fun hq => ih (j + 1) (by omega) ?_)
        · have : (subsTo hs (j + 1)).find? (fun l => alive (spn (butC c l, 0, ()) nob)) = some q := by
            simp only [subsTo, List.find?_append, hn, hq]; rfl
          rw [s1 q (find_mono this (by omega))]
          rfl
        · simp only [subsTo, List.find?_append, hn, hq]; rfl
    exact key (hs.length + 1) 0 (by omega) rfl
  · have e1 : ((chk c).2.2.1 != 0) = true := by simpa using h
    simp only [e1, cond_true]
    rw [if_pos (by simpa using h)]
    exact Ev.all fun _ => by first | rfl | trivial
end Go.Proofs.YtjigflnjgmgmnaaDoor
