/- What helpers of the outright statements come to. Conditions: as each lemma states. -/
import Derived.Test.YtjigflnjgmgmnaaDoorClHa
import Derived.Test.YtjigflnjgmgmnaaDoorClS
import Derived.Test.YtjigflnjgmgmnaaDoorClHb
namespace Go.Proofs.YtjigflnjgmgmnaaDoor
open Go Go.Gh Go.Proofs Go.Few

/-- 'Bit'. -/
theorem L51 (b : Nat) (hb : b < 1000000000000) (i : Nat) (hi : i < 1000000000000) : F51 (((b : Int), (i : Int), ()) : Int × Int × Unit) = some (b.testBit i, ()) := by
  refine ghost_eq (Ev.eq (fun _ => E51 _ _ _) ?_)
  have key : ∀ (i b : Nat), b < 1000000000000 → i < 1000000000000 → Ev fun k => iter cx22 S51 [.bool] 6000 k 0 K51_0 ((((b : Int), ((i : Int), ())), ()), ()) = some (b.testBit i, ()) := by
    intro i
    induction i with
    | zero =>
      intro b hb _
      refine iter_ev (Ev.eq (fun _ => Q51_0 _ _ _) ?_)
      rw [dec_f (by omega)]
      have : (Int.tmod (b : Int) 2 == 1) = b.testBit 0 := by
        rw [Int.tmod_eq_emod_of_nonneg (by omega), Nat.testBit_zero, Bool.eq_iff_iff, beq_iff_eq, decide_eq_true_eq]
        omega
      rw [this]
      exact Ev.all fun _ => by first | rfl | trivial
    | succ i ih =>
      intro b hb hi
      refine iter_ev (Ev.eq (fun _ => Q51_0 _ _ _) ?_)
      have e1 : IntKind.wrap IntKind.i64 (Int.tdiv (b : Int) 2) = ((b / 2 : Nat) : Int) := by
        rw [show Int.tdiv (b : Int) 2 = ((b / 2 : Nat) : Int) by simp, wrap_id (by omega) (by omega)]
      have e2 : IntKind.wrap IntKind.i64 (((i + 1 : Nat) : Int) - 1) = (i : Int) := by rw [wrap_id (by omega) (by omega)]; omega
      rw [dec_t (show ((i + 1 : Nat) : Int) > 0 by omega), e1, e2, Nat.testBit_succ]
      exact ih (b / 2) (by omega) (by omega)
  exact key i b hb hi

/-- 'turn'. -/
def turnP (x : List Int) (n : Nat) : Int := if x.length = 0 then 0 else x.getD (n % x.length) 0
theorem L112 (x : List Int) (hx : ∀ v ∈ x, 0 ≤ v ∧ v ≤ 255) (n : Nat) : F112 ((x, (n : Int), ()) : List Int × Int × Unit) = some (turnP x n, ()) ∧ 0 ≤ turnP x n ∧ turnP x n ≤ 255 := by
  unfold turnP
  by_cases h : x.length = 0
  · rw [if_pos h]
    refine ⟨ghost_eq (Ev.eq (fun _ => E112 _ _ _) ?_), by decide, by decide⟩
    have : ((x.length : Int) == 0) = true := by simp [h]
    rw [this]
    exact Ev.all fun _ => by first | rfl | trivial
  · rw [if_neg h]
    have hlt : n % x.length < x.length := Nat.mod_lt _ (by omega)
    have hv := hx _ (List.getElem_mem hlt)
    rw [getD_lt hlt]
    refine ⟨ghost_eq (Ev.eq (fun _ => E112 _ _ _) ?_), hv.1, hv.2⟩
    have e1 : ((x.length : Int) == 0) = false := by simp; intro e; exact h (by simp [e])
    have e2 : Int.tmod (n : Int) (x.length : Int) = ((n % x.length : Nat) : Int) := by rw [Int.tmod_eq_emod_of_nonneg (by omega)]; simp
    rw [e1, e2, dec_f (show ¬ ((x.length : Int) = 0) by omega), dec_t (show (0 : Int) ≤ ((n % x.length : Nat) : Int) by omega), dec_t (show ((n % x.length : Nat) : Int) < (x.length : Int) by omega), Int.toNat_natCast, getD_lt hlt, wrap_id (by omega) (by omega)]
    exact Ev.all fun _ => by first | rfl | trivial

theorem L45 (n : Int) (s : Sp) : F45 ((n, s, ()) : Int × Sp × Unit) = some (decide (s.1 ≤ n) && decide (n ≤ s.2.1), ()) := by
  refine ghost_eq (Ev.eq (fun _ => E45 _ _ _) ?_)
  rw [L48]
  exact Ev.all fun _ => by first | rfl | trivial

/-- 'Has'. -/
theorem L46 (l : List Int) (hl : l.length < 1000000000000) (n : Int) : F46 ((l, n, ()) : List Int × Int × Unit) = some (decide (n ∈ l), ()) := by
  refine ghost_eq (Ev.eq (fun _ => E46 _ _ _) ?_)
  have key : ∀ (e i : Nat), i + e = l.length → Ev fun k => iter cx45 S46 [.bool] 6000 k 0 K46_0 (((l, (n, ((i : Int), ()))), ()), ()) = some (decide (n ∈ l.drop i), ()) := by
    intro e
    induction e with
    | zero =>
      intro i hi
      refine iter_ev (Ev.eq (fun _ => Q46_0 _ _ _ _) ?_)
      rw [dec_f (by omega), List.drop_eq_nil_of_le (by omega)]
      exact Ev.all fun _ => by simp
    | succ e ih =>
      intro i hi
      refine iter_ev (Ev.eq (fun _ => Q46_0 _ _ _ _) ?_)
      have hlt : i < l.length := by omega
      rw [dec_t (show (i : Int) < (l.length : Int) by omega), dec_t (show (0 : Int) ≤ (i : Int) by omega), Int.toNat_natCast, getD_lt hlt, wrap_succ (n := i) (by omega), List.drop_eq_getElem_cons hlt]
      simp only [Bool.and_self, cond_true]
      by_cases h : l[i] = n
      · have : (l[i] == n) = true := by simpa using h
        rw [this, dec_t (show n ∈ l[i] :: l.drop (i + 1) by rw [h]; exact List.mem_cons_self ..)]
        exact Ev.all fun _ => by first | rfl | trivial
      · have : (l[i] == n) = false := by simpa using h
        rw [this]
        have e3 : decide (n ∈ l[i] :: l.drop (i + 1)) = decide (n ∈ l.drop (i + 1)) := decide_eq_decide.2 ⟨fun hm => by
          rcases List.mem_cons.1 hm with e | e
          · exact absurd e.symm h
          · exact e, fun hm => List.mem_cons_of_mem _ hm⟩
        rw [e3]
        exact ih (i + 1) (by omega)
  have := key l.length 0 (by omega)
  rw [List.drop_zero] at this
  exact this

/-- 'Less', of lists of one length. -/
theorem L115 (l p : List Int) (hl : l.length < 1000000000000) (hlp : l.length = p.length) : ∃ b : Bool, F115 ((l, p, ()) : List Int × List Int × Unit) = some (b, ()) ∧ (b = true ↔ lex l p) := by
  have key : ∀ (e i : Nat), i + e = l.length → ∃ b : Bool, (Ev fun k => iter cx46 S115 [.bool] 6000 k 0 K115_0 (((l, (p, ((i : Int), ()))), ()), ()) = some (b, ())) ∧ (b = true ↔ lex (l.drop i) (p.drop i)) := by
    intro e
    induction e with
    | zero =>
      intro i hi
      refine ⟨false, iter_ev (Ev.eq (fun _ => Q115_0 _ _ _ _) ?_), ?_⟩
      · rw [dec_f (by omega), dec_f (show ¬ ((l.length : Int) < (p.length : Int)) by omega)]
        exact Ev.all fun _ => by first | rfl | trivial
      · rw [List.drop_eq_nil_of_le (by omega)]
        exact ⟨fun h => (by cases h), fun h => by simp [lex] at h⟩
    | succ e ih =>
      intro i hi
      obtain ⟨b, h1, h2⟩ := ih (i + 1) (by omega)
      have hlt : i < l.length := by omega
      have hlt' : i < p.length := by omega
      rw [List.drop_eq_getElem_cons hlt, List.drop_eq_getElem_cons hlt']
      simp only [lex]
      by_cases h : l[i] = p[i]
      · refine ⟨b, iter_ev (Ev.eq (fun _ => Q115_0 _ _ _ _) ?_), ?_⟩
        · have e1 : (l[i] != p[i]) = false := by simp [h]
          rw [Int.toNat_natCast, getD_lt hlt, getD_lt hlt', e1, wrap_succ (n := i) (by omega), dec_t (show (i : Int) < (l.length : Int) by omega), dec_t (show (i : Int) < (p.length : Int) by omega), dec_t (show (0 : Int) ≤ (i : Int) by omega)]
          exact h1
        · rw [h2]
          exact ⟨fun h3 => .inr ⟨h, h3⟩, fun h3 => by
            rcases h3 with h3 | ⟨_, h3⟩
            · omega
            · exact h3⟩
      · refine ⟨decide (l[i] < p[i]), iter_ev (Ev.eq (fun _ => Q115_0 _ _ _ _) ?_), ?_⟩
        · have e1 : (l[i] != p[i]) = true := by simpa using h
          rw [Int.toNat_natCast, getD_lt hlt, getD_lt hlt', e1, dec_t (show (i : Int) < (l.length : Int) by omega), dec_t (show (i : Int) < (p.length : Int) by omega), dec_t (show (0 : Int) ≤ (i : Int) by omega)]
          exact Ev.all fun _ => by first | rfl | trivial
        · rw [decide_eq_true_eq]
          exact ⟨fun h3 => .inl h3, fun h3 => by
            rcases h3 with h3 | ⟨h3, _⟩
            · exact h3
            · exact absurd h3 h⟩
  obtain ⟨b, h1, h2⟩ := key l.length 0 (by omega)
  rw [List.drop_zero, List.drop_zero] at h2
  exact ⟨b, ghost_eq (Ev.eq (fun _ => E115 _ _ _) h1), h2⟩

/-- 'Fewer'. -/
theorem L54 (l p : List Int) (hl : l.length < 1000000000000) : ∃ b : Bool, F54 ((l, p, ()) : List Int × List Int × Unit) = some (b, ()) ∧ (b = true ↔ fewer l p) := by
  by_cases h1 : l.length < p.length
  · refine ⟨true, ghost_eq (Ev.eq (fun _ => E54 _ _ _) ?_), ⟨fun _ => .inl h1, fun _ => rfl⟩⟩
    rw [dec_t (show (l.length : Int) < (p.length : Int) by omega)]
    exact Ev.all fun _ => by first | rfl | trivial
  · by_cases h2 : l.length = p.length
    · obtain ⟨b, h3, h4⟩ := L115 l p hl h2
      refine ⟨b, ghost_eq (Ev.eq (fun _ => E54 _ _ _) ?_), ?_⟩
      · have e1 : ((l.length : Int) == (p.length : Int)) = true := beq_iff_eq.2 (by rw [h2])
        rw [dec_f (show ¬ ((l.length : Int) < (p.length : Int)) by omega), e1, h3]
        exact Ev.all fun _ => by first | rfl | trivial
      · rw [h4]
        exact ⟨fun h => .inr ⟨h2, h⟩, fun h => by
          rcases h with h | ⟨_, h⟩
          · omega
          · exact h⟩
    · refine ⟨false, ghost_eq (Ev.eq (fun _ => E54 _ _ _) ?_), ⟨fun h => (by cases h), fun h => ?_⟩⟩
      · have e1 : ((l.length : Int) == (p.length : Int)) = false := by simp; omega
        rw [dec_f (show ¬ ((l.length : Int) < (p.length : Int)) by omega), e1]
        exact Ev.all fun _ => by first | rfl | trivial
      · rcases h with h | ⟨h, _⟩ <;> omega

/-- 'Rising', of lists that rise. -/
theorem L53 (l : List Int) (n : Nat) (hn : n < 1000000000000) (hl : l.length < 1000000000000) (hp : l.Pairwise (· < ·)) (hin : ∀ x ∈ l, 0 ≤ x ∧ x < n) : F53 ((l, (n : Int), ()) : List Int × Int × Unit) = some (true, ()) := by
  refine ghost_eq (Ev.eq (fun _ => E53 _ _ _) ?_)
  have key : ∀ (e i : Nat), i + e = l.length → Ev fun k => iter cx114 S53 [.bool] 6000 k 0 K53_0 (((l, ((n : Int), ((i : Int), ()))), ()), ()) = some (true, ()) := by
    intro e
    induction e with
    | zero =>
      intro i hi
      refine iter_ev (Ev.eq (fun _ => Q53_0 _ _ _ _) ?_)
      rw [dec_f (by omega)]
      exact Ev.all fun _ => by first | rfl | trivial
    | succ e ih =>
      intro i hi
      refine iter_ev (Ev.eq (fun _ => Q53_0 _ _ _ _) ?_)
      have hlt : i < l.length := by omega
      have hx := hin _ (List.getElem_mem hlt)
      rw [wrap_succ (n := i) (by omega), wrap_id (x := (n : Int) - 1) (by omega) (by omega), Int.toNat_natCast, getD_lt hlt, L48]
      simp only [Option.bind_some]
      rw [dec_t (show (i : Int) < (l.length : Int) by omega), dec_t (show (0 : Int) ≤ (i : Int) by omega), dec_t hx.1, dec_t (show l[i] ≤ (n : Int) - 1 by omega)]
      simp only [Bool.and_self, cond_true, Bool.not_true, cond_false]
      cases i with
      | zero => exact ih 1 (by omega)
      | succ i =>
        have w1 : IntKind.wrap IntKind.i64 (((i + 1 : Nat) : Int) - 1) = (i : Int) := by rw [wrap_id (by omega) (by omega)]; omega
        have := List.pairwise_iff_getElem.1 hp i (i + 1) (by omega) hlt (by omega)
        rw [w1, Int.toNat_natCast, getD_lt (show i < l.length by omega), dec_t (show ((i + 1 : Nat) : Int) > 0 by omega), dec_t (show (0 : Int) ≤ (i : Int) by omega), dec_t (show (i : Int) < (l.length : Int) by omega), dec_f (show ¬ (l[i + 1] ≤ l[i]) by omega)]
        exact ih (i + 2) (by omega)
  exact key l.length 0 (by omega)

/-- 'subset'. -/
theorem L57 (l p : List Int) (hl : l.length < 1000000000000) (hp : p.length < 1000000000000) : F57 ((l, p, ()) : List Int × List Int × Unit) = some (l.all fun x => decide (x ∈ p), ()) := by
  refine ghost_eq (Ev.eq (fun _ => E57 _ _ _) ?_)
  have key : ∀ (e i : Nat), i + e = l.length → Ev fun k => iter cx54 S57 [.bool] 6000 k 0 K57_0 (((l, (p, ((i : Int), ()))), ()), ()) = some ((l.drop i).all fun x => decide (x ∈ p), ()) := by
    intro e
    induction e with
    | zero =>
      intro i hi
      refine iter_ev (Ev.eq (fun _ => Q57_0 _ _ _ _) ?_)
      rw [dec_f (by omega), List.drop_eq_nil_of_le (by omega)]
      exact Ev.all fun _ => by first | rfl | trivial
    | succ e ih =>
      intro i hi
      refine iter_ev (Ev.eq (fun _ => Q57_0 _ _ _ _) ?_)
      have hlt : i < l.length := by omega
      rw [dec_t (show (i : Int) < (l.length : Int) by omega), dec_t (show (0 : Int) ≤ (i : Int) by omega), Int.toNat_natCast, getD_lt hlt, wrap_succ (n := i) (by omega), List.drop_eq_getElem_cons hlt, List.all_cons, L46 p hp]
      simp only [Bool.and_self, cond_true, Option.bind_some]
      by_cases h : l[i] ∈ p
      · rw [dec_t h]
        exact ih (i + 1) (by omega)
      · rw [dec_f h]
        exact Ev.all fun _ => by first | rfl | trivial
  have := key l.length 0 (by omega)
  rw [List.drop_zero] at this
  exact this

theorem L58 (a b : Sp) : F58 ((a, b, ()) : Sp × Sp × Unit) = some (decide (a.1 ≥ b.1) && decide (a.2.1 ≤ b.2.1), ()) := by
  refine ghost_eq (Ev.eq (fun _ => E58 _ _ _) (Ev.all fun _ => ?_))
  cases decide (a.1 ≥ b.1) <;> rfl

theorem L39 (c : Int × List Sp × Unit) : F39 ((c, ()) : (Int × List Sp × Unit) × Unit) = some ((chk c).2.2.1 == 0, ()) := by
  refine ghost_eq (Ev.eq (fun _ => E39 _ _) ?_)
  rw [L19]
  exact Ev.all fun _ => by first | rfl | trivial
/-- 'some'. -/
def someB (c : Int × List Sp × Unit) : Bool := (chk c).2.2.1 == 0 && alive (spn (c, 0, ()) nob)
theorem L47 (c : Int × List Sp × Unit) : F47 ((c, ()) : (Int × List Sp × Unit) × Unit) = some (someB c, ()) := by
  refine ghost_eq (Ev.eq (fun _ => E47 _ _) ?_)
  rw [L39]
  simp only [Option.bind_some]
  unfold someB
  by_cases h : (chk c).2.2.1 = 0
  · rw [L94 c (chk_ok h).1]
    have : ((chk c).2.2.1 == 0) = true := by simpa using h
    rw [this]
    exact Ev.all fun _ => by first | rfl | trivial
  · have : ((chk c).2.2.1 == 0) = false := by simpa using h
    rw [this]
    exact Ev.all fun _ => by first | rfl | trivial
theorem some_ok {c : Int × List Sp × Unit} (h : someB c = true) : (chk c).2.2.1 = 0 ∧ Valid c ∧ alive (spn (c, 0, ()) nob) = true := by
  unfold someB at h
  rw [Bool.and_eq_true, beq_iff_eq] at h
  exact ⟨h.1, (chk_ok h.1).1, h.2⟩
theorem some_not {c : Int × List Sp × Unit} (h : someB c = false) : (ent c 0 0).2.1 ≠ 0 := by
  rw [ent_err]
  unfold someB at h
  by_cases hc : (chk c).2.2.1 = 0
  · have : ((chk c).2.2.1 == 0) = true := by simpa using hc
    rw [this, Bool.true_and] at h
    rw [if_pos hc, h, if_neg (by decide)]
    decide
  · rw [if_neg hc]; exact hc
theorem some_ent {c : Int × List Sp × Unit} (h : someB c = true) : (ent c 0 0).2.1 = 0 := by
  obtain ⟨h1, _, h3⟩ := some_ok h
  rw [ent_err, if_pos h1, if_pos h3]

/-! ### Who is greatest, who rose -/
theorem truth_range {c : Int × List Sp × Unit} (hv : Valid c) {x : Nat → Int} (hx : Truth (c, 0, ()) nob x) {d : Nat} (hd : d < c.2.1.length) : 0 ≤ x d ∧ x d ≤ 100 := by
  have := hx.own d hd
  exact own_range _ _ hv this.1 this.2
theorem take_any {c : Int × List Sp × Unit} (hv : Valid c) (l : List Sp) (hl : l.length = 12) (p : Sp → Bool) : ((l.take c.2.1.length).any p) = true ↔ ∃ j, j < c.2.1.length ∧ p (l.getD j z0) = true := by
  have h12 := hv.l12
  rw [List.any_eq_true]
  constructor
  · rintro ⟨s, hs, h⟩
    obtain ⟨j, hj, rfl⟩ := List.mem_iff_getElem.1 hs
    rw [List.length_take] at hj
    refine ⟨j, by omega, ?_⟩
    rw [getD_lt (by omega)]
    rw [List.getElem_take] at h
    exact h
  · rintro ⟨j, hj, h⟩
    rw [getD_lt (by omega)] at h
    exact ⟨_, List.mem_iff_getElem.2 ⟨j, by rw [List.length_take]; omega, List.getElem_take ..⟩, h⟩
/-- A number that a day has in truths, and the bounds of these. -/
theorem told_char {c : Int × List Sp × Unit} (hv : Valid c) {d : Nat} (hd : d < c.2.1.length) {v : Int} (h0 : 0 ≤ v) (h1 : v ≤ 100) : (alive (spn (c, 0, ()) (d, v, ())) = true → (Truth (c, 0, ()) nob (lows (spn (c, 0, ()) (d, v, ()))) ∧ lows (spn (c, 0, ()) (d, v, ())) d = v) ∧ (Truth (c, 0, ()) nob (highs (spn (c, 0, ()) (d, v, ()))) ∧ highs (spn (c, 0, ()) (d, v, ())) d = v)) ∧
    (∀ x, Truth (c, 0, ()) nob x → x d = v → alive (spn (c, 0, ()) (d, v, ())) = true ∧ ∀ i, i < c.2.1.length → lows (spn (c, 0, ()) (d, v, ())) i ≤ x i ∧ x i ≤ highs (spn (c, 0, ()) (d, v, ())) i) := by
  obtain ⟨s1, s2⟩ := spn_char (c, 0, ()) (d, v, ()) hv (bd_pt h0 h1 d)
  refine ⟨fun h => ?_, fun x hx hxd => ?_⟩
  · obtain ⟨t1, t2⟩ := s1 h
    exact ⟨(truth_told d hd v _).1 t1, (truth_told d hd v _).1 t2⟩
  · exact s2 x ((truth_told d hd v x).2 ⟨hx, hxd⟩)
theorem in_many {c : Int × List Sp × Unit} (hv : Valid c) (ha : alive (spn (c, 0, ()) nob) = true) {d : Nat} (hd : d < c.2.1.length) {x : Nat → Int} (hx : Truth (c, 0, ()) nob x) : ((spn (c, 0, ()) nob).getD d z0).1 ≤ x d ∧ x d < ((spn (c, 0, ()) nob).getD d z0).1 + (many (spn (c, 0, ()) nob) d : Int) := by
  have h1 := ((spn_char (c, 0, ()) nob hv bd_nob).2 x hx).2 d hd
  have h2 := many_eq c hv ha hd
  simp only [lows, highs] at h1
  omega
theorem of_many {c : Int × List Sp × Unit} (hv : Valid c) (ha : alive (spn (c, 0, ()) nob) = true) {d : Nat} (hd : d < c.2.1.length) {v : Int} (h1 : ((spn (c, 0, ()) nob).getD d z0).1 ≤ v) (h2 : v < ((spn (c, 0, ()) nob).getD d z0).1 + (many (spn (c, 0, ()) nob) d : Int)) : 0 ≤ v ∧ v ≤ 100 := by
  have h3 := many_eq c hv ha hd
  have h4 := spn_day c hv ha hd
  omega

theorem sureTop_iff {c : Int × List Sp × Unit} (hv : Valid c) (ha : alive (spn (c, 0, ()) nob) = true) {d : Nat} (hd : d < c.2.1.length) : sureTop (c, 0, ()) (spn (c, 0, ()) nob) d = true ↔ ∀ x, Truth (c, 0, ()) nob x → ∀ j, j < c.2.1.length → x j ≤ x d := by
  unfold sureTop
  rw [allN_iff]
  constructor
  · intro h x hx j hj
    obtain ⟨m1, m2⟩ := in_many hv ha hd hx
    have hr := truth_range hv hx hd
    have ht := h (x d) m1 m2
    obtain ⟨al, bd⟩ := (told_char hv hd hr.1 hr.2).2 x hx rfl
    unfold topS at ht
    rw [al, Bool.true_and, Bool.not_eq_true', ← Bool.not_eq_true, take_any hv _ (spn_bd (c, 0, ()) (d, x d, ()) hv (bd_pt hr.1 hr.2 d)).1] at ht
    have := (bd j hj).2
    apply Classical.byContradiction
    intro hn
    exact ht ⟨j, hj, decide_eq_true (by simp only [highs] at this; omega)⟩
  · intro h v m1 m2
    have hr := of_many hv ha hd m1 m2
    unfold topS
    cases al : alive (spn (c, 0, ()) (d, v, ())) with
    | false => rfl
    | true =>
      obtain ⟨_, t2, e2⟩ := (told_char hv hd hr.1 hr.2).1 al
      rw [Bool.true_and, Bool.not_eq_true', ← Bool.not_eq_true, take_any hv _ (spn_bd (c, 0, ()) (d, v, ()) hv (bd_pt hr.1 hr.2 d)).1]
      rintro ⟨j, hj, hp⟩
      have h1 := h _ t2 j hj
      have h2 := of_decide_eq_true hp
      rw [e2] at h1
      simp only [highs] at h1
      omega
theorem mayTop_iff {c : Int × List Sp × Unit} (hv : Valid c) (ha : alive (spn (c, 0, ()) nob) = true) {d : Nat} (hd : d < c.2.1.length) : mayTop (c, 0, ()) (spn (c, 0, ()) nob) d = true ↔ ∃ x, Truth (c, 0, ()) nob x ∧ ∀ j, j < c.2.1.length → x j ≤ x d := by
  unfold mayTop
  rw [anyN_iff]
  constructor
  · rintro ⟨v, m1, m2, ht⟩
    have hr := of_many hv ha hd m1 m2
    unfold topM at ht
    rw [Bool.and_eq_true] at ht
    obtain ⟨⟨t1, e1⟩, _⟩ := (told_char hv hd hr.1 hr.2).1 ht.1
    refine ⟨_, t1, fun j hj => ?_⟩
    have h2 := ht.2
    rw [Bool.not_eq_true', ← Bool.not_eq_true, take_any hv _ (spn_bd (c, 0, ()) (d, v, ()) hv (bd_pt hr.1 hr.2 d)).1] at h2
    rw [e1]
    apply Classical.byContradiction
    intro hn
    exact h2 ⟨j, hj, decide_eq_true (by simp only [lows] at hn; omega)⟩
  · rintro ⟨x, hx, h⟩
    obtain ⟨m1, m2⟩ := in_many hv ha hd hx
    have hr := truth_range hv hx hd
    obtain ⟨al, bd⟩ := (told_char hv hd hr.1 hr.2).2 x hx rfl
    refine ⟨x d, m1, m2, ?_⟩
    unfold topM
    rw [al, Bool.true_and, Bool.not_eq_true', ← Bool.not_eq_true, take_any hv _ (spn_bd (c, 0, ()) (d, x d, ()) hv (bd_pt hr.1 hr.2 d)).1]
    rintro ⟨j, hj, hp⟩
    have h1 := (bd j hj).1
    have h2 := of_decide_eq_true hp
    have h3 := h j hj
    simp only [lows] at h1
    omega
theorem sureRise_iff {c : Int × List Sp × Unit} (hv : Valid c) (ha : alive (spn (c, 0, ()) nob) = true) {d : Nat} (hd : d < c.2.1.length) : sureRise (c, 0, ()) (spn (c, 0, ()) nob) d = true ↔ 1 ≤ d ∧ ∀ x, Truth (c, 0, ()) nob x → x (d - 1) < x d := by
  unfold sureRise
  rw [Bool.and_eq_true, decide_eq_true_eq, allN_iff]
  constructor
  · rintro ⟨h1, h⟩
    refine ⟨h1, fun x hx => ?_⟩
    obtain ⟨m1, m2⟩ := in_many hv ha hd hx
    have hr := truth_range hv hx hd
    have ht := h (x d) m1 m2
    obtain ⟨al, bd⟩ := (told_char hv hd hr.1 hr.2).2 x hx rfl
    unfold riseS at ht
    rw [al, Bool.true_and, Bool.not_eq_true', decide_eq_false_iff_not] at ht
    have := (bd (d - 1) (by omega)).2
    simp only [highs] at this
    omega
  · rintro ⟨h1, h⟩
    refine ⟨h1, fun v m1 m2 => ?_⟩
    have hr := of_many hv ha hd m1 m2
    unfold riseS
    cases al : alive (spn (c, 0, ()) (d, v, ())) with
    | false => rfl
    | true =>
      obtain ⟨_, t2, e2⟩ := (told_char hv hd hr.1 hr.2).1 al
      have := h _ t2
      rw [e2] at this
      simp only [highs] at this
      rw [Bool.true_and, Bool.not_eq_true', decide_eq_false_iff_not]
      omega
theorem mayRise_iff {c : Int × List Sp × Unit} (hv : Valid c) (ha : alive (spn (c, 0, ()) nob) = true) {d : Nat} (hd : d < c.2.1.length) : mayRise (c, 0, ()) (spn (c, 0, ()) nob) d = true ↔ 1 ≤ d ∧ ∃ x, Truth (c, 0, ()) nob x ∧ x (d - 1) < x d := by
  unfold mayRise
  rw [Bool.and_eq_true, decide_eq_true_eq, anyN_iff]
  constructor
  · rintro ⟨h1, v, m1, m2, ht⟩
    have hr := of_many hv ha hd m1 m2
    unfold riseM at ht
    rw [Bool.and_eq_true, decide_eq_true_eq] at ht
    obtain ⟨⟨t1, e1⟩, _⟩ := (told_char hv hd hr.1 hr.2).1 ht.1
    refine ⟨h1, _, t1, ?_⟩
    rw [e1]
    simp only [lows]
    omega
  · rintro ⟨h1, x, hx, h⟩
    obtain ⟨m1, m2⟩ := in_many hv ha hd hx
    have hr := truth_range hv hx hd
    obtain ⟨al, bd⟩ := (told_char hv hd hr.1 hr.2).2 x hx rfl
    refine ⟨h1, x d, m1, m2, ?_⟩
    unfold riseM
    rw [al, Bool.true_and, decide_eq_true_eq]
    have := (bd (d - 1) (by omega)).1
    simp only [lows] at this
    omega
end Go.Proofs.YtjigflnjgmgmnaaDoor
/- States at the cuts of the outright statements. Conditions: none. -/
namespace Go.Proofs.YtjigflnjgmgmnaaDoor
open Go Go.Gh Go.Proofs
noncomputable abbrev T9_0 (t7 : (List Int)) (t14 : (List Int)) (t15 : (List Int)) (t17 : (List Int)) (t18 : (List Int)) (t20 : Int) (t21 : Int) (t22 : Int) (h0 : (Int × (List (Int × Int × Unit)) × Unit)) (h1 : (Int × Int × Unit)) (h2 : (Int × Int × Unit)) (f : Nat) : Option (denL [.bool]) := iter cx49 S9 [.bool] 6000 f 0 K9_0 (((t7, ((), ((), ((), (t14, (t15, (t17, (t18, (t20, (t21, (t22, ()))))))))))), ()), (h0, (h1, (h2, ()))))
theorem U9_0 (t7 : (List Int)) (t14 : (List Int)) (t15 : (List Int)) (t17 : (List Int)) (t18 : (List Int)) (t20 : Int) (t21 : Int) (t22 : Int) (h0 : (Int × (List (Int × Int × Unit)) × Unit)) (h1 : (Int × Int × Unit)) (h2 : (Int × Int × Unit)) {y : denL [.bool]} (h : Ev fun k => seg cx49 S9 [.bool] 6000 some (iter cx49 S9 [.bool] 6000 k) 0 K9_0 (((t7, ((), ((), ((), (t14, (t15, (t17, (t18, (t20, (t21, (t22, ()))))))))))), ()), (h0, (h1, (h2, ())))) = some y) : Ev fun k => T9_0 t7 t14 t15 t17 t18 t20 t21 t22 h0 h1 h2 k = some y := iter_ev h
noncomputable abbrev T9_1 (t7 : (List Int)) (t14 : (List Int)) (t15 : (List Int)) (t17 : (List Int)) (t18 : (List Int)) (t21 : Int) (t24 : Int) (h0 : (Int × (List (Int × Int × Unit)) × Unit)) (f : Nat) : Option (denL [.bool]) := iter cx49 S9 [.bool] 6000 f 1 K9_1 (((t7, ((), (t14, (t15, (t17, (t18, (t21, (t24, ())))))))), ()), (h0, ()))
theorem U9_1 (t7 : (List Int)) (t14 : (List Int)) (t15 : (List Int)) (t17 : (List Int)) (t18 : (List Int)) (t21 : Int) (t24 : Int) (h0 : (Int × (List (Int × Int × Unit)) × Unit)) {y : denL [.bool]} (h : Ev fun k => seg cx49 S9 [.bool] 6000 some (iter cx49 S9 [.bool] 6000 k) 1 K9_1 (((t7, ((), (t14, (t15, (t17, (t18, (t21, (t24, ())))))))), ()), (h0, ())) = some y) : Ev fun k => T9_1 t7 t14 t15 t17 t18 t21 t24 h0 k = some y := iter_ev h
noncomputable abbrev T11_0 (t1 : Int) (t5 : (List Int)) (t6 : Int) (t7 : (List Int)) (t9 : Int) (h0 : (Int × (List (Int × Int × Unit)) × Unit)) (h1 : (List Int)) (f : Nat) : Option (denL [.bool]) := iter cx10 S11 [.bool] 6000 f 0 K11_0 (((t1, ((), (t5, (t6, (t7, ((), (t9, ()))))))), ()), (h0, (h1, ())))
theorem U11_0 (t1 : Int) (t5 : (List Int)) (t6 : Int) (t7 : (List Int)) (t9 : Int) (h0 : (Int × (List (Int × Int × Unit)) × Unit)) (h1 : (List Int)) {y : denL [.bool]} (h : Ev fun k => seg cx10 S11 [.bool] 6000 some (iter cx10 S11 [.bool] 6000 k) 0 K11_0 (((t1, ((), (t5, (t6, (t7, ((), (t9, ()))))))), ()), (h0, (h1, ()))) = some y) : Ev fun k => T11_0 t1 t5 t6 t7 t9 h0 h1 k = some y := iter_ev h
noncomputable abbrev T11_1 (t5 : (List Int)) (t10 : Bool) (t11 : Int) (h0 : (Int × (List (Int × Int × Unit)) × Unit)) (h1 : (List Int)) (f : Nat) : Option (denL [.bool]) := iter cx10 S11 [.bool] 6000 f 1 K11_1 ((((), (t5, ((), (t10, (t11, ()))))), ()), (h0, (h1, ())))
theorem U11_1 (t5 : (List Int)) (t10 : Bool) (t11 : Int) (h0 : (Int × (List (Int × Int × Unit)) × Unit)) (h1 : (List Int)) {y : denL [.bool]} (h : Ev fun k => seg cx10 S11 [.bool] 6000 some (iter cx10 S11 [.bool] 6000 k) 1 K11_1 ((((), (t5, ((), (t10, (t11, ()))))), ()), (h0, (h1, ()))) = some y) : Ev fun k => T11_1 t5 t10 t11 h0 h1 k = some y := iter_ev h
noncomputable abbrev T12_0 (t32 : Int) (h0 : (Int × (List (Int × Int × Unit)) × Unit)) (h1 : (Int × (List (Int × Int × Unit)) × Unit)) (f : Nat) : Option (denL [.bool]) := iter cx11 S12 [.bool] 6000 f 0 K12_0 ((((), ((), (t32, ()))), ()), (h0, (h1, ())))
theorem U12_0 (t32 : Int) (h0 : (Int × (List (Int × Int × Unit)) × Unit)) (h1 : (Int × (List (Int × Int × Unit)) × Unit)) {y : denL [.bool]} (h : Ev fun k => seg cx11 S12 [.bool] 6000 some (iter cx11 S12 [.bool] 6000 k) 0 K12_0 ((((), ((), (t32, ()))), ()), (h0, (h1, ()))) = some y) : Ev fun k => T12_0 t32 h0 h1 k = some y := iter_ev h
noncomputable abbrev T14_0 (t9 : Int) (h0 : (Int × (List (Int × Int × Unit)) × Unit)) (h1 : (Int × (List (Int × Int × Unit)) × Unit)) (h2 : (Int × Int × Unit)) (f : Nat) : Option (denL [.bool]) := iter cx13 S14 [.bool] 6000 f 0 K14_0 ((((), ((), ((), (t9, ())))), ()), (h0, (h1, (h2, ()))))
theorem U14_0 (t9 : Int) (h0 : (Int × (List (Int × Int × Unit)) × Unit)) (h1 : (Int × (List (Int × Int × Unit)) × Unit)) (h2 : (Int × Int × Unit)) {y : denL [.bool]} (h : Ev fun k => seg cx13 S14 [.bool] 6000 some (iter cx13 S14 [.bool] 6000 k) 0 K14_0 ((((), ((), ((), (t9, ())))), ()), (h0, (h1, (h2, ())))) = some y) : Ev fun k => T14_0 t9 h0 h1 h2 k = some y := iter_ev h
noncomputable abbrev T15_0 (t4 : Int) (t11 : (List Int)) (t12 : (List Int)) (t14 : (List Int)) (t15 : (List Int)) (t17 : Int) (h0 : (Int × (List (Int × Int × Unit)) × Unit)) (h1 : (Int × (List (Int × Int × Unit)) × Unit)) (f : Nat) : Option (denL [.bool]) := iter cx14 S15 [.bool] 6000 f 0 K15_0 ((((), ((), (t4, (t11, (t12, (t14, (t15, (t17, ())))))))), ()), (h0, (h1, ())))
theorem U15_0 (t4 : Int) (t11 : (List Int)) (t12 : (List Int)) (t14 : (List Int)) (t15 : (List Int)) (t17 : Int) (h0 : (Int × (List (Int × Int × Unit)) × Unit)) (h1 : (Int × (List (Int × Int × Unit)) × Unit)) {y : denL [.bool]} (h : Ev fun k => seg cx14 S15 [.bool] 6000 some (iter cx14 S15 [.bool] 6000 k) 0 K15_0 ((((), ((), (t4, (t11, (t12, (t14, (t15, (t17, ())))))))), ()), (h0, (h1, ()))) = some y) : Ev fun k => T15_0 t4 t11 t12 t14 t15 t17 h0 h1 k = some y := iter_ev h
noncomputable abbrev T16_0 (t3 : (List Int)) (t4 : (List Int)) (t9 : Int) (t10 : Int) (h0 : (Int × (List (Int × Int × Unit)) × Unit)) (f : Nat) : Option (denL [.bool]) := iter cx15 S16 [.bool] 6000 f 0 K16_0 ((((), (t3, (t4, (t9, (t10, ()))))), ()), (h0, ()))
theorem U16_0 (t3 : (List Int)) (t4 : (List Int)) (t9 : Int) (t10 : Int) (h0 : (Int × (List (Int × Int × Unit)) × Unit)) {y : denL [.bool]} (h : Ev fun k => seg cx15 S16 [.bool] 6000 some (iter cx15 S16 [.bool] 6000 k) 0 K16_0 ((((), (t3, (t4, (t9, (t10, ()))))), ()), (h0, ())) = some y) : Ev fun k => T16_0 t3 t4 t9 t10 h0 k = some y := iter_ev h
end Go.Proofs.YtjigflnjgmgmnaaDoor
/- CloudFewest returns true. Conditions: as each lemma states. -/
namespace Go.Proofs.YtjigflnjgmgmnaaDoor
open Go Go.Gh Go.Proofs Go.Few

theorem chkFrom_of : ∀ (l : List Sp) (i h : Int), (∀ d ∈ l, 0 ≤ d.1 ∧ d.1 ≤ 3 ∧ 0 ≤ d.2.1 ∧ d.2.1 ≤ 100 ∧ (d.1 = 0 → d.2.1 = 0)) → h + (l.countP fun d => d.1 == 3 : Nat) ≤ 5 → (chkFrom l i h).2.2.1 = 0
  | [], _, _, _, _ => rfl
  | d :: ds, i, h, hd, hc => by
    have h1 := hd d (List.mem_cons_self ..)
    rw [List.countP_cons] at hc
    unfold chkFrom
    rw [if_neg (by omega), if_neg (by intro ⟨a, b⟩; exact b (h1.2.2.2.2 a))]
    by_cases e : d.1 = 3
    · rw [if_pos (by simpa using e)] at hc
      simp only [if_pos e]
      rw [if_neg (by omega)]
      exact chkFrom_of ds _ _ (fun x hx => hd x (List.mem_cons_of_mem _ hx)) (by omega)
    · rw [if_neg (by simpa using e)] at hc
      simp only [if_neg e]
      rw [if_neg (by omega)]
      exact chkFrom_of ds _ _ (fun x hx => hd x (List.mem_cons_of_mem _ hx)) (by omega)
/-- When a month is valid. -/
theorem chk_iff (c : Int × List Sp × Unit) : (chk c).2.2.1 = 0 ↔ Valid c ∧ (∀ d ∈ c.2.1, d.1 = 0 → d.2.1 = 0) ∧ (c.2.1.countP fun d => d.1 == 3) ≤ 5 := by
  constructor
  · intro h
    obtain ⟨h1, h2⟩ := chk_ok h
    have h3 := hopes_le h
    have e : (numsL (isHope c) c.2.1.length).length = c.2.1.countP fun d => d.1 == 3 := numsL_count (fun d => d.1 == 3) c.2.1
    exact ⟨h1, h2, by omega⟩
  · rintro ⟨h1, h2, h3⟩
    have a := h1.s0
    have b := h1.s20
    have c1 := h1.l1
    have c2 := h1.l12
    unfold chk
    rw [if_neg (by omega), if_neg (by omega)]
    exact chkFrom_of _ _ _ (fun d hd => by have := h1.day d hd; exact ⟨this.1, this.2.1, this.2.2.1, this.2.2.2, h2 d hd⟩) (by omega)
theorem count_set (q : Sp → Bool) (z : Sp) (hz : q z = false) : ∀ (l : List Sp) (i : Nat), (l.set i z).countP q ≤ l.countP q
  | [], _ => by simp
  | d :: l, 0 => by rw [List.set_cons_zero, List.countP_cons, List.countP_cons, hz]; simp
  | d :: l, i + 1 => by
    rw [List.set_cons_succ, List.countP_cons, List.countP_cons]
    have := count_set q z hz l i
    omega
theorem butD_count : ∀ (l : List Int) (ds : List Sp), (butD l ds).countP (fun d => d.1 == 3) ≤ ds.countP fun d => d.1 == 3
  | [], _ => Nat.le_refl _
  | x :: l, ds => Nat.le_trans (butD_count l (ds.set x.toNat z0)) (count_set _ z0 rfl ds _)
theorem chk_but {c : Int × List Sp × Unit} (h : (chk c).2.2.1 = 0) (l : List Int) : (chk (butC c l)).2.2.1 = 0 := by
  obtain ⟨h1, h2, h3⟩ := (chk_iff c).1 h
  refine (chk_iff _).2 ⟨but_valid h1 l, fun d hd => ?_, Nat.le_trans (butD_count l _) h3⟩
  rcases butD_mem l _ d hd with hd | rfl
  · exact h2 d hd
  · intro _; rfl
theorem chk_with {c : Int × List Sp × Unit} (h : (chk c).2.2.1 = 0) (d : Nat) {n : Int} (h0 : 0 ≤ n) (h1 : n ≤ 100) : (chk (withC c d n)).2.2.1 = 0 := by
  obtain ⟨a, b, e⟩ := (chk_iff c).1 h
  refine (chk_iff _).2 ⟨with_valid a d h0 h1, fun x hx => ?_, Nat.le_trans (count_set _ _ rfl _ _) e⟩
  rcases List.mem_or_eq_of_mem_set hx with hx | rfl
  · exact b x hx
  · intro h; simp at h

/-- Whether there is a truth without some days. -/
def okB (c : Int × List Sp × Unit) (l : List Int) : Bool := alive (spn (butC c l, 0, ()) nob)
/-- What Wrong returns of a valid month. -/
theorem wrong_spec {c : Int × List Sp × Unit} (h : (chk c).2.2.1 = 0) : (∃ r, wrongP c = (r, 0, ()) ∧ Best (fun l => l.Sublist (numsL (isHope c) c.2.1.length) ∧ okB c l = true) r) ∨ (wrongP c = ([], 9, ()) ∧ ∀ l, l.Sublist (numsL (isHope c) c.2.1.length) → okB c l = false) := by
  have hin : ∀ x ∈ numsL (isHope c) c.2.1.length, 0 ≤ x ∧ x < (c.2.1.length : Int) := by
    intro x hx
    obtain ⟨n, h1, _, rfl⟩ := numsL_mem.1 hx
    omega
  unfold wrongP
  rw [if_neg (by simpa using h), wrongN_scan, ← List.range_eq_range']
  generalize numsL (isHope c) c.2.1.length = hs at *
  obtain ⟨q1, q2⟩ := scan_best (fun l => alive (spn (c, (bitsL l : Int), ()) nob)) (byBits hs)
  unfold byBits at q1 q2
  have e : ∀ l, (l ∈ byBits hs ∧ alive (spn (c, (bitsL l : Int), ()) nob) = true) ↔ (l.Sublist hs ∧ okB c l = true) := fun l => by
    rw [mem_byBits]
    constructor
    · rintro ⟨a, b⟩
      exact ⟨a, by rw [okB, ← spn_but c l fun x hx => hin x (a.subset hx)]; exact b⟩
    · rintro ⟨a, b⟩
      exact ⟨a, by rw [spn_but c l fun x hx => hin x (a.subset hx)]; exact b⟩
  unfold byBits at e
  cases hf : (scan (fun l => alive (spn (c, (bitsL l : Int), ()) nob)) ((List.range (2 ^ hs.length)).map fun s => selB hs s hs.length) [] false).2 with
  | true => exact .inl ⟨_, if_pos rfl, (q1 hf).iff e⟩
  | false =>
    refine .inr ⟨if_neg (by decide), fun l hl => ?_⟩
    cases ho : okB c l with
    | false => rfl
    | true =>
      have h3 := (e l).2 ⟨hl, ho⟩
      have := q2 hf l h3.1
      rw [this] at h3
      cases h3.2

theorem some_but {c : Int × List Sp × Unit} (h : (chk c).2.2.1 = 0) (l : List Int) : someB (butC c l) = okB c l := by
  unfold someB okB
  rw [chk_but h l]
  rfl

/-- CloudFewest: without the days of Wrong there is a truth; without any fewer there is none. -/
theorem L11 (c : Int × List Sp × Unit) (bits : Int) (hb0 : 0 ≤ bits) (hb1 : bits ≤ 255) : F11 ((c, bits, ()) : (Int × List Sp × Unit) × Int × Unit) = some (true, ()) := by
  refine ghost_eq (Ev.eq (fun _ => E11 _ _ _) ?_)
  rw [L35, L39, L22]
  simp only [Option.bind_some]
  by_cases h : (chk c).2.2.1 = 0
  · obtain ⟨hv, _⟩ := chk_ok h
    have h12 := hv.l12
    rw [L50 c h12]
    have e1 : ((chk c).2.2.1 == 0) = true := by simpa using h
    simp only [e1, Bool.not_true, cond_false, Option.bind_some]
    have hspec := wrong_spec h
    have hp := numsL_pair (isHope c) c.2.1.length
    have hl5 := hopes_le h
    have hin : ∀ x ∈ numsL (isHope c) c.2.1.length, (0 ≤ x ∧ x < (c.2.1.length : Int)) ∧ ((c.2.1.getD x.toNat z0).1 == 3) = true := by
      intro x hx
      obtain ⟨n, h1, h2, rfl⟩ := numsL_mem.1 hx
      exact ⟨by omega, by rw [Int.toNat_natCast]; exact h2⟩
    generalize numsL (isHope c) c.2.1.length = hs at *
    obtain ⟨b, rfl⟩ := Int.eq_ofNat_of_zero_le hb0
    have key : ∀ (e j : Nat), j + e = hs.length → Ev fun k => T11_0 (b : Int) (wrongP c).1 (wrongP c).2.1 hs j c (selB hs b j) k = some (true, ()) := by
      intro e
      induction e with
      | succ e ih =>
        intro j hj
        refine U11_0 _ _ _ _ _ _ _ (Ev.eq (fun _ => Q11_0 _ _ _ _ _ _ _ _) ?_)
        have hlt : j < hs.length := by omega
        have hi := ih (j + 1) (by omega)
        have hsl := (selB_eq hs b (j := j) (by omega)).length_le
        rw [List.length_take] at hsl
        rw [dec_t (show (j : Int) < (hs.length : Int) by omega), dec_t (show (0 : Int) ≤ (j : Int) by omega), wrap_id (x := (b : Int)) (by omega) (by omega), L51 b (by omega) j (by omega), wrap_succ (n := j) (by omega), Int.toNat_natCast, one_set, dec_t (show (selB hs b j).length + [hs.getD j 0].length ≤ 2147483648 by simp only [List.length_cons, List.length_nil]; omega)]
        simp only [cond_true, Option.bind_some, Bool.and_self]
        simp only [selB] at hi
        cases hbit : b.testBit j with
        | true =>
          rw [hbit, if_pos rfl] at hi
          exact hi
        | false =>
          rw [hbit, if_neg (by decide)] at hi
          exact hi
      | zero =>
        intro j hj
        obtain rfl : j = hs.length := by omega
        refine U11_0 _ _ _ _ _ _ _ (Ev.eq (fun _ => Q11_0 _ _ _ _ _ _ _ _) ?_)
        have hsub := selB_sub hs b
        generalize selB hs b hs.length = other at *
        have hol := hsub.length_le
        rw [dec_f (show ¬ ((hs.length : Int) < (hs.length : Int)) by omega), L52 c h12 other (fun x hx => (hin x (hsub.subset hx)).1) (by omega)]
        simp only [cond_false, Option.bind_some]
        rw [L47, some_but h]
        simp only [Option.bind_some]
        rcases hspec with ⟨r, hr, hbest⟩ | ⟨hr, hno⟩
        · rw [hr]
          simp only
          have hrl := hbest.is.1.length_le
          have hrin := fun x (hx : x ∈ r) => hin x (hbest.is.1.subset hx)
          rw [L53 r c.2.1.length (by omega) (by omega) (hp.sublist hbest.is.1) (fun x hx => (hrin x hx).1)]
          simp only [bne_self_eq_false, cond_false, Option.bind_some, Bool.not_true]
          have key2 : ∀ (e i : Nat), i + e = r.length → Ev fun k => T11_1 r (okB c other) i c other k = some (true, ()) := by
            intro e
            induction e with
            | zero =>
              intro i hi
              refine U11_1 _ _ _ _ _ (Ev.eq (fun _ => Q11_1 _ _ _ _ _ _) ?_)
              obtain ⟨fb, hf1, hf2⟩ := L54 other r (by omega)
              rw [dec_f (show ¬ ((i : Int) < (r.length : Int)) by omega), L52 c h12 r (fun x hx => (hrin x hx).1) (by omega)]
              simp only [cond_false, Option.bind_some]
              rw [L47, some_but h, hbest.is.2, hf1, L22]
              simp only [Option.bind_some, cond_true]
              cases hoth : okB c other with
              | false => exact Ev.all fun _ => by first | rfl | trivial
              | true =>
                have : fb = false := by
                  cases fb with
                  | false => rfl
                  | true => exact absurd (hf2.1 rfl) (hbest.first other ⟨hsub, hoth⟩)
                subst this
                exact Ev.all fun _ => by first | rfl | trivial
            | succ e ih =>
              intro i hi
              refine U11_1 _ _ _ _ _ (Ev.eq (fun _ => Q11_1 _ _ _ _ _ _) ?_)
              have hlt : i < r.length := by omega
              have hx := hrin _ (List.getElem_mem hlt)
              rw [Int.toNat_natCast, getD_lt hlt, wrap_succ (n := i) (by omega), dec_t (show (i : Int) < (r.length : Int) by omega), dec_t (show (0 : Int) ≤ (i : Int) by omega), dec_t hx.1.1, dec_t hx.1.2]
              have e3 : ((c.2.1.getD r[i].toNat (0, 0, ())).1 != 3) = false := by
                have := hx.2
                rw [beq_iff_eq] at this
                rw [show c.2.1.getD r[i].toNat (0, 0, ()) = c.2.1.getD r[i].toNat z0 from rfl, this]
                rfl
              rw [e3]
              exact ih (i + 1) (by omega)
          exact key2 r.length 0 (by omega)
        · rw [hr, hno other hsub, L22]
          exact Ev.all fun _ => by first | rfl | trivial
    exact key hs.length 0 (by omega)
  · have e1 : ((chk c).2.2.1 == 0) = false := by simpa using h
    have e2 : wrongP c = ([], (chk c).2.2.1, ()) := by unfold wrongP; rw [if_pos (by simpa using h)]
    have e3 : ((chk c).2.2.1 != 0) = true := by simpa using h
    rw [e1, e2]
    simp only [Bool.not_false, cond_true, e3, List.length_nil]
    exact Ev.all fun _ => by first | rfl | trivial
end Go.Proofs.YtjigflnjgmgmnaaDoor
/- CloudSteps and CloudRises return true. Conditions: as each lemma states. -/
namespace Go.Proofs.YtjigflnjgmgmnaaDoor
open Go Go.Gh Go.Proofs

theorem ent_zero {c : Int × List Sp × Unit} (h : someB c = true) {d : Nat} (hd : d < c.2.1.length) : ent c d 0 = (some (c, 0, ()), 0, ()) := by
  obtain ⟨h1, h2, h3⟩ := some_ok h
  unfold ent
  rw [if_neg (by simpa using h1), if_neg (by omega), if_neg (by omega), if_pos h3]
theorem num_some {c : Int × List Sp × Unit} (h : someB c = true) {d : Nat} (hd : d < c.2.1.length) : numP c d = ((spn (c, 0, ()) nob).getD d z0, 0, ()) := by
  unfold numP
  rw [ent_zero h hd, if_neg (fun h => h rfl), Int.toNat_natCast]
theorem num_not {c : Int × List Sp × Unit} (h : someB c = false) : (numP c 0).2.1 ≠ 0 := by
  have := some_not h
  unfold numP
  rw [if_pos this]
  exact this

/-- A month with a greater Step. -/
def wideC (c : Int × List Sp × Unit) (s : Int) : Int × List Sp × Unit := (s, c.2.1, ())
theorem wide_valid {c : Int × List Sp × Unit} (h : Valid c) {s : Int} (h0 : c.1 ≤ s) (h1 : s ≤ 20) : Valid (wideC c s) := ⟨by have := h.s0; simp only [wideC]; omega, h1, h.l1, h.l12, h.day⟩
theorem wide_truth {c : Int × List Sp × Unit} {s : Int} (h0 : c.1 ≤ s) {x : Nat → Int} (h : Truth (c, 0, ()) nob x) : Truth (wideC c s, 0, ()) nob x := by
  refine ⟨fun i hi => ?_, fun i hi => ?_⟩
  · have := h.own i hi
    rw [own_c] at this ⊢
    exact this
  · have := h.up i hi
    simp only [wideC]
    simp only at this
    omega
theorem wide_some {c : Int × List Sp × Unit} (h : someB c = true) {s : Int} (h0 : c.1 ≤ s) (h1 : s ≤ 20) : someB (wideC c s) = true := by
  obtain ⟨a, b, e⟩ := some_ok h
  have hv := wide_valid b h0 h1
  unfold someB
  have hc : (chk (wideC c s)).2.2.1 = 0 := (chk_iff _).2 ⟨hv, ((chk_iff c).1 a).2⟩
  obtain ⟨x, hx⟩ := (alive_iff (c, 0, ()) nob b bd_nob).1 e
  rw [hc, (alive_iff (wideC c s, 0, ()) nob hv bd_nob).2 ⟨x, wide_truth h0 hx⟩]
  rfl

/-- CloudSteps: two days' numbers are no further apart than Step lets them; with a greater Step none is narrower. -/
theorem L14 (c : Int × List Sp × Unit) (x : Int) (hx0 : 0 ≤ x) (hx1 : x ≤ 255) : F14 ((c, x, ()) : (Int × List Sp × Unit) × Int × Unit) = some (true, ()) := by
  refine ghost_eq (Ev.eq (fun _ => E14 _ _ _) ?_)
  rw [L47, L20 c 0, L22, L38]
  simp only [Option.bind_some]
  cases h : someB c with
  | false =>
    have : ((numP c 0).2.1 != 0) = true := by simpa using num_not h
    rw [this]
    exact Ev.all fun _ => by first | rfl | trivial
  | true =>
    obtain ⟨hc, hv, ha⟩ := some_ok h
    have s0 := hv.s0
    have s20 := hv.s20
    have h12 := hv.l12
    have hm : Int.tmod x 8 = x % 8 := Int.tmod_eq_emod_of_nonneg hx0
    rw [wrap_id (x := x) (by omega) (by omega), hm, wrap_id (by omega) (by omega)]
    obtain ⟨s, hs, hs0, hs1⟩ : ∃ s : Int, (if c.1 + x % 8 < 20 then c.1 + x % 8 else 20) = s ∧ c.1 ≤ s ∧ s ≤ 20 := ⟨_, rfl, by split <;> omega, by split <;> omega⟩
    rw [hs]
    have hw := wide_valid hv hs0 hs1
    have hws := wide_some h hs0 hs1
    have hwa := (some_ok hws).2.2
    obtain ⟨t1, t2⟩ := (spn_char (c, 0, ()) nob hv bd_nob).1 ha
    have hin := (spn_char (wideC c s, 0, ()) nob hw bd_nob).2
    have b1 := (hin _ (wide_truth hs0 t1)).2
    have b2 := (hin _ (wide_truth hs0 t2)).2
    simp only [lows, highs] at b1 b2
    have key : ∀ (e i : Nat), i + e = c.2.1.length → ∀ last : Sp, (1 ≤ i → last = (spn (c, 0, ()) nob).getD (i - 1) z0) → Ev fun k => T14_0 i c (wideC c s) last k = some (true, ()) := by
      intro e
      induction e with
      | zero =>
        intro i hi last _
        refine U14_0 _ _ _ _ (Ev.eq (fun _ => Q14_0 _ _ _ _ _) ?_)
        rw [dec_f (by omega), L22]
        exact Ev.all fun _ => by first | rfl | trivial
      | succ e ih =>
        intro i hi last hlast
        refine U14_0 _ _ _ _ (Ev.eq (fun _ => Q14_0 _ _ _ _ _) ?_)
        have hlt : i < c.2.1.length := by omega
        have hd := spn_day c hv ha hlt
        have c1 := b1 i hlt
        have c2 := b2 i hlt
        rw [dec_t (show (i : Int) < (c.2.1.length : Int) by omega), L20 c i, L20 (wideC c s) i, num_some h hlt, num_some hws (d := i) hlt, wrap_succ (n := i) (by omega)]
        simp only [cond_true, Option.bind_some, bne_self_eq_false, cond_false]
        rw [L58]
        simp only [Option.bind_some]
        rw [dec_t (show ((spn (c, 0, ()) nob).getD i z0).1 ≥ ((spn (wideC c s, 0, ()) nob).getD i z0).1 by omega), dec_t (show ((spn (c, 0, ()) nob).getD i z0).2.1 ≤ ((spn (wideC c s, 0, ()) nob).getD i z0).2.1 by omega)]
        simp only [Bool.and_self, Bool.not_true, cond_false]
        have hn := ih (i + 1) (by omega) ((spn (c, 0, ()) nob).getD i z0) (fun _ => by rw [Nat.add_sub_cancel])
        cases i with
        | zero => exact hn
        | succ i =>
          have hl := hlast (by omega)
          rw [Nat.add_sub_cancel] at hl
          subst hl
          have hd' := spn_day c hv ha (show i < c.2.1.length by omega)
          have u1 := t1.up i hlt
          have u2 := t2.up i hlt
          simp only [lows, highs] at u1 u2
          rw [wrap_id (x := 0 - c.1) (by omega) (by omega), wrap_id (x := ((spn (c, 0, ()) nob).getD (i + 1) z0).1 - ((spn (c, 0, ()) nob).getD i z0).1) (by omega) (by omega), wrap_id (x := ((spn (c, 0, ()) nob).getD (i + 1) z0).2.1 - ((spn (c, 0, ()) nob).getD i z0).2.1) (by omega) (by omega), L48, L48, dec_t (show ((i + 1 : Nat) : Int) > 0 by omega)]
          simp only [cond_true, Option.bind_some]
          rw [dec_t (by omega), dec_t (by omega), dec_t (by omega), dec_t (by omega)]
          exact hn
    exact key c.2.1.length 0 (by omega) _ (fun h => by omega)

theorem tops_some {c : Int × List Sp × Unit} (h : someB c = true) : topsP c = (numsL (sureTop (c, 0, ()) (spn (c, 0, ()) nob)) c.2.1.length, numsL (mayTop (c, 0, ()) (spn (c, 0, ()) nob)) c.2.1.length, 0, ()) := by
  unfold topsP
  rw [if_neg (by simpa using some_ent h)]
theorem rises_some {c : Int × List Sp × Unit} (h : someB c = true) : risesP c = (numsL (sureRise (c, 0, ()) (spn (c, 0, ()) nob)) c.2.1.length, numsL (mayRise (c, 0, ()) (spn (c, 0, ()) nob)) c.2.1.length, 0, ()) := by
  unfold risesP
  rw [if_neg (by simpa using some_ent h)]
theorem in_nums {p : Nat → Bool} {k d : Nat} (hd : d < k) : decide ((d : Int) ∈ numsL p k) = p d := by
  rw [Bool.eq_iff_iff, decide_eq_true_eq, numsL_mem]
  constructor
  · rintro ⟨n, _, h, e⟩
    have : n = d := by omega
    rw [← this]; exact h
  · intro h; exact ⟨d, hd, h, rfl⟩
theorem sub_nums {p q : Nat → Bool} {k k' : Nat} (h : ∀ n, n < k → p n = true → n < k' ∧ q n = true) : ((numsL p k).all fun x => decide (x ∈ numsL q k')) = true := by
  rw [List.all_eq_true]
  intro x hx
  obtain ⟨n, h1, h2, rfl⟩ := numsL_mem.1 hx
  have := h n h1 h2
  exact decide_eq_true (numsL_mem.2 ⟨n, this.1, this.2, rfl⟩)
theorem rising_nums (p : Nat → Bool) (k : Nat) (hk : k ≤ 12) : F53 ((numsL p k, (k : Int), ()) : List Int × Int × Unit) = some (true, ()) :=
  L53 _ k (by omega) (by have := numsL_len p k; omega) (numsL_pair p k) (fun x hx => by
    obtain ⟨n, h1, _, rfl⟩ := numsL_mem.1 hx
    omega)
/-- The greatest of some numbers. -/
theorem argmax (x : Nat → Int) : ∀ n : Nat, 1 ≤ n → ∃ d, d < n ∧ ∀ j, j < n → x j ≤ x d
  | 1, _ => ⟨0, by omega, fun j hj => by rw [show j = 0 by omega]; exact Int.le_refl _⟩
  | n + 2, _ => by
    obtain ⟨d, h1, h2⟩ := argmax x (n + 1) (by omega)
    by_cases e : x (n + 1) ≤ x d
    · exact ⟨d, by omega, fun j hj => by
        by_cases ej : j = n + 1
        · rw [ej]; exact e
        · exact h2 j (by omega)⟩
    · exact ⟨n + 1, by omega, fun j hj => by
        by_cases ej : j = n + 1
        · rw [ej]; exact Int.le_refl _
        · have := h2 j (by omega); omega⟩

/-- CloudRises: a day that surely rises has a greater least number than the day before, and so on. -/
theorem L16 (c : Int × List Sp × Unit) : F16 ((c, ()) : (Int × List Sp × Unit) × Unit) = some (true, ()) := by
  refine ghost_eq (Ev.eq (fun _ => E16 _ _) ?_)
  rw [L31, L28, L47, L22]
  simp only [Option.bind_some]
  cases h : someB c with
  | false =>
    have hn := some_not h
    have e1 : risesP c = ([], [], (ent c 0 0).2.1, ()) := by unfold risesP; rw [if_pos hn]
    have e2 : topsP c = ([], [], (ent c 0 0).2.1, ()) := by unfold topsP; rw [if_pos hn]
    have e3 : ((ent c 0 0).2.1 != 0) = true := by simpa using hn
    rw [e1, e2]
    simp only [e3, beq_self_eq_true, Bool.not_false, cond_true, List.length_nil]
    exact Ev.all fun _ => by first | rfl | trivial
  | true =>
    obtain ⟨hc, hv, ha⟩ := some_ok h
    have h12 := hv.l12
    have h1 := hv.l1
    obtain ⟨t1, t2⟩ := (spn_char (c, 0, ()) nob hv bd_nob).1 ha
    have hin := (spn_char (c, 0, ()) nob hv bd_nob).2
    obtain ⟨d0, hd0, hmax⟩ := argmax (lows (spn (c, 0, ()) nob)) c.2.1.length h1
    have hne : ((numsL (mayTop (c, 0, ()) (spn (c, 0, ()) nob)) c.2.1.length).length : Int) ≠ 0 := by
      have : (d0 : Int) ∈ numsL (mayTop (c, 0, ()) (spn (c, 0, ()) nob)) c.2.1.length := numsL_mem.2 ⟨d0, hd0, (mayTop_iff hv ha hd0).2 ⟨_, t1, hmax⟩, rfl⟩
      have := List.length_pos_of_mem this
      omega
    have e1 : (((numsL (mayTop (c, 0, ()) (spn (c, 0, ()) nob)) c.2.1.length).length : Int) == 0) = false := by simpa using hne
    have n1 := numsL_len (sureRise (c, 0, ()) (spn (c, 0, ()) nob)) c.2.1.length
    have n2 := numsL_len (mayRise (c, 0, ()) (spn (c, 0, ()) nob)) c.2.1.length
    have n3 := numsL_len (sureTop (c, 0, ()) (spn (c, 0, ()) nob)) c.2.1.length
    have n4 := numsL_len (mayTop (c, 0, ()) (spn (c, 0, ()) nob)) c.2.1.length
    have m0 : decide ((0 : Int) ∈ numsL (mayRise (c, 0, ()) (spn (c, 0, ()) nob)) c.2.1.length) = false := in_nums (p := mayRise (c, 0, ()) (spn (c, 0, ()) nob)) (d := 0) (by omega)
    rw [rises_some h, tops_some h]
    simp only [bne_self_eq_false, cond_false, Bool.not_true]
    rw [rising_nums _ _ h12, rising_nums _ _ h12, rising_nums _ _ h12, rising_nums _ _ h12, L57 _ _ (by omega) (by omega), L57 _ _ (by omega) (by omega), L46 _ (by omega), m0]
    simp only [Option.bind_some, Bool.not_true, cond_false, e1]
    rw [sub_nums (fun n hn hp => ⟨hn, (mayRise_iff hv ha hn).2 ⟨((sureRise_iff hv ha hn).1 hp).1, _, t1, ((sureRise_iff hv ha hn).1 hp).2 _ t1⟩⟩), sub_nums (fun n hn hp => ⟨hn, (mayTop_iff hv ha hn).2 ⟨_, t1, ((sureTop_iff hv ha hn).1 hp) _ t1⟩⟩)]
    simp only [Bool.not_true, cond_false]
    have key : ∀ (e i : Nat), i + e = c.2.1.length → 1 ≤ i → Ev fun k => T16_0 (numsL (sureRise (c, 0, ()) (spn (c, 0, ()) nob)) c.2.1.length) (numsL (mayRise (c, 0, ()) (spn (c, 0, ()) nob)) c.2.1.length) c.2.1.length i c k = some (true, ()) := by
      intro e
      induction e with
      | zero =>
        intro i hi _
        refine U16_0 _ _ _ _ _ (Ev.eq (fun _ => Q16_0 _ _ _ _ _ _) ?_)
        rw [dec_f (by omega), L22]
        exact Ev.all fun _ => by first | rfl | trivial
      | succ e ih =>
        intro i hi hi1
        refine U16_0 _ _ _ _ _ (Ev.eq (fun _ => Q16_0 _ _ _ _ _ _) ?_)
        have hlt : i < c.2.1.length := by omega
        have w1 : IntKind.wrap IntKind.i64 ((i : Int) - 1) = ((i - 1 : Nat) : Int) := by rw [wrap_id (by omega) (by omega)]; omega
        have hn := ih (i + 1) (by omega) (by omega)
        rw [dec_t (show (i : Int) < (c.2.1.length : Int) by omega), w1, L20 c i, L20 c ((i - 1 : Nat) : Int), num_some h hlt, num_some h (d := i - 1) (by omega), wrap_succ (n := i) (by omega), L46 _ (by omega), L46 _ (by omega), in_nums hlt, in_nums hlt]
        simp only [cond_true, Option.bind_some, bne_self_eq_false, cond_false]
        have last : ∀ b : Bool, b = mayRise (c, 0, ()) (spn (c, 0, ()) nob) i → b = true → decide (((spn (c, 0, ()) nob).getD i z0).2.1 ≤ ((spn (c, 0, ()) nob).getD (i - 1) z0).1) = false := by
          intro b hb ht
          obtain ⟨_, x, hx, hlx⟩ := (mayRise_iff hv ha hlt).1 (by rw [← hb]; exact ht)
          have a1 := (hin x hx).2 i hlt
          have a2 := (hin x hx).2 (i - 1) (show i - 1 < c.2.1.length by omega)
          simp only [lows, highs] at a1 a2
          exact dec_f (by omega)
        cases hs : sureRise (c, 0, ()) (spn (c, 0, ()) nob) i with
        | true =>
          have := ((sureRise_iff hv ha hlt).1 hs).2 _ t1
          simp only [lows] at this
          rw [dec_f (show ¬ (((spn (c, 0, ()) nob).getD i z0).1 ≤ ((spn (c, 0, ()) nob).getD (i - 1) z0).1) by omega)]
          cases hm : mayRise (c, 0, ()) (spn (c, 0, ()) nob) i with
          | true =>
            rw [last true hm.symm rfl]
            exact hn
          | false => exact hn
        | false =>
          cases hm : mayRise (c, 0, ()) (spn (c, 0, ()) nob) i with
          | true =>
            rw [last true hm.symm rfl]
            exact hn
          | false => exact hn
    exact key (c.2.1.length - 1) 1 (by omega) (Nat.le_refl _)
end Go.Proofs.YtjigflnjgmgmnaaDoor
/- CloudBack returns true. Conditions: as each lemma states. -/
namespace Go.Proofs.YtjigflnjgmgmnaaDoor
open Go Go.Gh Go.Proofs

theorem sumX_shift (x : Nat → Int) : ∀ n, sumX x (n + 1) = x 0 + sumX (fun j => x (j + 1)) n
  | 0 => rfl
  | n + 1 => by
    rw [sumX, sumX_shift x n, sumX]
    omega
theorem sumX_rev (x : Nat → Int) : ∀ n, sumX (fun j => x (n - j)) n = sumX x n
  | 0 => rfl
  | n + 1 => by
    rw [sumX_shift]
    have e : (fun j => x (n + 1 - (j + 1))) = fun j => x (n - j) := by
      funext j
      rw [Nat.add_sub_add_right]
    simp only [e, sumX_rev x n, Nat.sub_zero, sumX]
    omega

theorem sp_ext : ∀ {a b : Sp}, a.1 = b.1 → a.2.1 = b.2.1 → a = b
  | (_, _, _), (_, _, _), rfl, rfl => rfl
theorem back_len (c : Int × List Sp × Unit) : (backC c).2.1.length = c.2.1.length := by simp [backC]
theorem back_back (c : Int × List Sp × Unit) : backC (backC c) = c := by
  obtain ⟨a, l, u⟩ := c
  simp [backC]
theorem chk_back {c : Int × List Sp × Unit} (h : (chk c).2.2.1 = 0) : (chk (backC c)).2.2.1 = 0 := by
  obtain ⟨a, b, e⟩ := (chk_iff c).1 h
  refine (chk_iff _).2 ⟨back_valid a, fun d hd => b d (by simpa [backC] using hd), ?_⟩
  simp only [backC, List.countP_reverse]
  exact e
/-- A truth, from its last day on. -/
theorem back_truth {c : Int × List Sp × Unit} {x : Nat → Int} (h : Truth (c, 0, ()) nob x) : Truth (backC c, 0, ()) nob (fun j => x (c.2.1.length - 1 - j)) := by
  refine ⟨fun i hi => ?_, fun i hi => ?_⟩
  · simp only [back_len] at hi
    rw [own_c, back_at c hi, ← own_c]
    exact h.own (c.2.1.length - 1 - i) (by simp only; omega)
  · simp only [back_len] at hi
    have := h.up (c.2.1.length - 1 - (i + 1)) (by simp only; omega)
    rw [show c.2.1.length - 1 - (i + 1) + 1 = c.2.1.length - 1 - i by omega] at this
    simp only [backC]
    simp only at this
    omega
theorem back_alive {c : Int × List Sp × Unit} (hv : Valid c) (ha : alive (spn (c, 0, ()) nob) = true) : alive (spn (backC c, 0, ()) nob) = true := by
  obtain ⟨x, hx⟩ := (alive_iff (c, 0, ()) nob hv bd_nob).1 ha
  exact (alive_iff (backC c, 0, ()) nob (back_valid hv) bd_nob).2 ⟨_, back_truth hx⟩
theorem back_some {c : Int × List Sp × Unit} (h : (chk c).2.2.1 = 0) : someB (backC c) = someB c := by
  obtain ⟨hv, _⟩ := chk_ok h
  unfold someB
  rw [h, chk_back h]
  cases ha : alive (spn (c, 0, ()) nob) with
  | true => rw [back_alive hv ha]
  | false =>
    cases hb : alive (spn (backC c, 0, ()) nob) with
    | false => rfl
    | true =>
      have := back_alive (back_valid hv) hb
      rw [back_back, ha] at this
      cases this
theorem back_le {c : Int × List Sp × Unit} (hv : Valid c) (ha : alive (spn (c, 0, ()) nob) = true) {j : Nat} (hj : j < c.2.1.length) : lows (spn (c, 0, ()) nob) j ≤ lows (spn (backC c, 0, ()) nob) (c.2.1.length - 1 - j) ∧ highs (spn (backC c, 0, ()) nob) (c.2.1.length - 1 - j) ≤ highs (spn (c, 0, ()) nob) j := by
  obtain ⟨t1, t2⟩ := (spn_char (backC c, 0, ()) nob (back_valid hv) bd_nob).1 (back_alive hv ha)
  have b1 := back_truth t1
  have b2 := back_truth t2
  rw [back_back, back_len] at b1 b2
  have hin := (spn_char (c, 0, ()) nob hv bd_nob).2
  exact ⟨((hin _ b1).2 j hj).1, ((hin _ b2).2 j hj).2⟩
theorem back_at_eq {c : Int × List Sp × Unit} (hv : Valid c) (ha : alive (spn (c, 0, ()) nob) = true) {j : Nat} (hj : j < c.2.1.length) : (spn (backC c, 0, ()) nob).getD (c.2.1.length - 1 - j) z0 = (spn (c, 0, ()) nob).getD j z0 := by
  have h1 := back_le hv ha hj
  have h2 := back_le (back_valid hv) (back_alive hv ha) (j := c.2.1.length - 1 - j) (by rw [back_len]; omega)
  rw [back_back, back_len, show c.2.1.length - 1 - (c.2.1.length - 1 - j) = j by omega] at h2
  simp only [lows, highs] at h1 h2
  exact sp_ext (by omega) (by omega)
theorem back_sums {c : Int × List Sp × Unit} (hv : Valid c) (ha : alive (spn (c, 0, ()) nob) = true) : sums (backC c, 0, ()) nob = sums (c, 0, ()) nob := by
  have h1 := hv.l1
  rw [sums_X (c, 0, ()) nob hv bd_nob, sums_X (backC c, 0, ()) nob (back_valid hv) bd_nob]
  simp only [back_len]
  rw [← sumX_rev (lows (spn (backC c, 0, ()) nob)), ← sumX_rev (highs (spn (backC c, 0, ()) nob))]
  refine sp_ext (sumX_eq fun j hj => ?_) (sumX_eq fun j hj => ?_)
  · unfold lows; rw [back_at_eq hv ha (by omega)]
  · unfold highs; rw [back_at_eq hv ha (by omega)]
theorem back_top {c : Int × List Sp × Unit} (hv : Valid c) (ha : alive (spn (c, 0, ()) nob) = true) {d : Nat} (hd : d < c.2.1.length) : sureTop (backC c, 0, ()) (spn (backC c, 0, ()) nob) (c.2.1.length - 1 - d) = sureTop (c, 0, ()) (spn (c, 0, ()) nob) d ∧ mayTop (backC c, 0, ()) (spn (backC c, 0, ()) nob) (c.2.1.length - 1 - d) = mayTop (c, 0, ()) (spn (c, 0, ()) nob) d := by
  have hd' : c.2.1.length - 1 - d < (backC c).2.1.length := by rw [back_len]; omega
  have hb : ∀ x, Truth (backC c, 0, ()) nob x → Truth (c, 0, ()) nob fun j => x (c.2.1.length - 1 - j) := fun x hx => by
    have := back_truth hx
    rw [back_back, back_len] at this
    exact this
  constructor
  · rw [Bool.eq_iff_iff, sureTop_iff (back_valid hv) (back_alive hv ha) hd', sureTop_iff hv ha hd]
    constructor
    · intro h x hx j hj
      have := h _ (back_truth hx) (c.2.1.length - 1 - j) (by rw [back_len]; omega)
      simp only [show c.2.1.length - 1 - (c.2.1.length - 1 - j) = j by omega, show c.2.1.length - 1 - (c.2.1.length - 1 - d) = d by omega] at this
      exact this
    · intro h x hx j hj
      rw [back_len] at hj
      have := h _ (hb x hx) (c.2.1.length - 1 - j) (by omega)
      simp only [show c.2.1.length - 1 - (c.2.1.length - 1 - j) = j by omega] at this
      exact this
  · rw [Bool.eq_iff_iff, mayTop_iff (back_valid hv) (back_alive hv ha) hd', mayTop_iff hv ha hd]
    constructor
    · rintro ⟨x, hx, h⟩
      refine ⟨_, hb x hx, fun j hj => ?_⟩
      exact h (c.2.1.length - 1 - j) (by rw [back_len]; omega)
    · rintro ⟨x, hx, h⟩
      refine ⟨_, back_truth hx, fun j hj => ?_⟩
      rw [back_len] at hj
      simp only [show c.2.1.length - 1 - (c.2.1.length - 1 - d) = d by omega]
      exact h _ (by omega)
theorem range_rev (n : Nat) : (List.range n).map (fun i => n - 1 - i) = (List.range n).reverse := by
  apply List.ext_getElem (by simp)
  intro i h1 h2
  simp
theorem nums_rev {p q : Nat → Bool} {n : Nat} (h : ∀ d, d < n → q (n - 1 - d) = p d) : (numsL q n).length = (numsL p n).length := by
  unfold numsL
  rw [List.length_map, List.length_map, ← List.countP_eq_length_filter, ← List.countP_eq_length_filter]
  rw [← List.countP_reverse (l := List.range n) (p := q), ← range_rev, List.countP_map]
  exact List.countP_congr fun d hd => by
    simp only [Function.comp]
    rw [h d (List.mem_range.1 hd)]

/-- CloudBack: told from its last day on, all is the same of the same days. -/
theorem L15 (c : Int × List Sp × Unit) : F15 ((c, ()) : (Int × List Sp × Unit) × Unit) = some (true, ()) := by
  refine ghost_eq (Ev.eq (fun _ => E15 _ _) ?_)
  rw [L39, L22]
  simp only [Option.bind_some]
  by_cases h : (chk c).2.2.1 = 0
  · obtain ⟨hv, _⟩ := chk_ok h
    have h12 := hv.l12
    have h1 := hv.l1
    have e1 : ((chk c).2.2.1 == 0) = true := by simpa using h
    rw [e1, L62 c h12]
    simp only [Bool.not_true, cond_false, Option.bind_some]
    rw [show ((c.1, c.2.1.reverse, ()) : Int × List Sp × Unit) = backC c from rfl, L23 c, L23 (backC c), L28 c, L28 (backC c)]
    simp only [Option.bind_some]
    have all : monthP (backC c) = monthP c ∧ (topsP (backC c)).2.2.1 = (topsP c).2.2.1 ∧ (topsP (backC c)).1.length = (topsP c).1.length ∧ (topsP (backC c)).2.1.length = (topsP c).2.1.length ∧ (topsP c).1.length ≤ 12 ∧ (topsP c).2.1.length ≤ 12 ∧
        ∀ i, i < c.2.1.length → numP (backC c) ((c.2.1.length - 1 - i : Nat) : Int) = numP c i ∧ decide (((c.2.1.length - 1 - i : Nat) : Int) ∈ (topsP (backC c)).1) = decide ((i : Int) ∈ (topsP c).1) ∧ decide (((c.2.1.length - 1 - i : Nat) : Int) ∈ (topsP (backC c)).2.1) = decide ((i : Int) ∈ (topsP c).2.1) := by
      have hbs := back_some h
      cases hs : someB c with
      | true =>
        rw [hs] at hbs
        obtain ⟨_, _, ha⟩ := some_ok hs
        have n3 := numsL_len (sureTop (c, 0, ()) (spn (c, 0, ()) nob)) c.2.1.length
        have n4 := numsL_len (mayTop (c, 0, ()) (spn (c, 0, ()) nob)) c.2.1.length
        rw [tops_some hs, tops_some hbs, back_len]
        refine ⟨?_, rfl, nums_rev fun d hd => (back_top hv ha hd).1, nums_rev fun d hd => (back_top hv ha hd).2, by simp only; omega, by simp only; omega, fun i hi => ⟨?_, ?_, ?_⟩⟩
        · unfold monthP
          rw [if_neg (by simpa using some_ent hbs), if_neg (by simpa using some_ent hs)]
          unfold overP
          rw [back_sums hv ha]
          simp only [back_len]
        · rw [num_some hbs (by rw [back_len]; omega), num_some hs hi, back_at_eq hv ha hi]
        · rw [in_nums (by omega), in_nums hi]
          exact (back_top hv ha hi).1
        · rw [in_nums (by omega), in_nums hi]
          exact (back_top hv ha hi).2
      | false =>
        rw [hs] at hbs
        have n1 := some_not hs
        have n2 := some_not hbs
        have e8 : ∀ m : Int × List Sp × Unit, (chk m).2.2.1 = 0 → someB m = false → ∀ d : Nat, d < m.2.1.length → (ent m d 0).2.1 = 8 := by
          intro m hm hsm d hd
          unfold someB at hsm
          rw [hm] at hsm
          have hal : alive (spn (m, 0, ()) nob) = false := hsm
          unfold ent
          rw [if_neg (by simpa using hm), if_neg (by omega), if_neg (by omega), hal, if_neg (by decide)]
        have q1 := e8 c h hs
        have q2 := e8 (backC c) (chk_back h) hbs
        have t1 : topsP c = ([], [], 8, ()) := by unfold topsP; rw [if_pos n1]; rw [show (ent c 0 0).2.1 = 8 from q1 0 (by omega)]
        have t2 : topsP (backC c) = ([], [], 8, ()) := by unfold topsP; rw [if_pos n2]; rw [show (ent (backC c) 0 0).2.1 = 8 from q2 0 (by rw [back_len]; omega)]
        have m1 : monthP c = (z0, z0, 8, ()) := by unfold monthP; rw [if_pos n1]; rw [show (ent c 0 0).2.1 = 8 from q1 0 (by omega)]
        have m2 : monthP (backC c) = (z0, z0, 8, ()) := by unfold monthP; rw [if_pos n2]; rw [show (ent (backC c) 0 0).2.1 = 8 from q2 0 (by rw [back_len]; omega)]
        rw [t1, t2, m1, m2]
        refine ⟨rfl, rfl, rfl, rfl, Nat.zero_le _, Nat.zero_le _, fun i hi => ⟨?_, rfl, rfl⟩⟩
        unfold numP
        rw [q1 i hi, q2 (c.2.1.length - 1 - i) (by rw [back_len]; omega), if_pos (by decide), if_pos (by decide)]
    obtain ⟨a1, a2, a3, a4, a5, a6, a7⟩ := all
    rw [a1, a2, a3, a4]
    simp only [eqD_self, Bool.not_true, cond_false, bne_self_eq_false]
    have w1 : IntKind.wrap IntKind.i64 ((c.2.1.length : Int) - 1) = (c.2.1.length : Int) - 1 := wrap_id (by omega) (by omega)
    rw [w1]
    have key : ∀ (e i : Nat), i + e = c.2.1.length → Ev fun k => T15_0 ((c.2.1.length : Int) - 1) (topsP c).1 (topsP c).2.1 (topsP (backC c)).1 (topsP (backC c)).2.1 i c (backC c) k = some (true, ()) := by
      intro e
      induction e with
      | zero =>
        intro i hi
        refine U15_0 _ _ _ _ _ _ _ _ (Ev.eq (fun _ => Q15_0 _ _ _ _ _ _ _ _ _) ?_)
        rw [dec_f (by omega), L22]
        exact Ev.all fun _ => by first | rfl | trivial
      | succ e ih =>
        intro i hi
        refine U15_0 _ _ _ _ _ _ _ _ (Ev.eq (fun _ => Q15_0 _ _ _ _ _ _ _ _ _) ?_)
        have hlt : i < c.2.1.length := by omega
        obtain ⟨b1, b2, b3⟩ := a7 i hlt
        have w2 : IntKind.wrap IntKind.i64 ((c.2.1.length : Int) - 1 - (i : Int)) = ((c.2.1.length - 1 - i : Nat) : Int) := by rw [wrap_id (by omega) (by omega)]; omega
        rw [dec_t (show (i : Int) ≤ (c.2.1.length : Int) - 1 by omega), w2, L20 c i, L20 (backC c) ((c.2.1.length - 1 - i : Nat) : Int), b1, wrap_succ (n := i) (by omega), L46 _ (by omega), L46 _ (by omega), L46 _ (by omega), L46 _ (by omega), b2, b3]
        simp only [cond_true, Option.bind_some, eqD_self, Bool.not_true, cond_false, bne_self_eq_false]
        have eb : ∀ b : Bool, eqD Ty.bool b b = true := fun b => by unfold eqD; exact beq_self_eq_true b
        rw [eb, eb]
        exact ih (i + 1) (by omega)
    exact key c.2.1.length 0 (by omega)
  · have e1 : ((chk c).2.2.1 == 0) = false := by simpa using h
    rw [e1]
    exact Ev.all fun _ => by first | rfl | trivial
end Go.Proofs.YtjigflnjgmgmnaaDoor
/- CloudAsked returns true. Conditions: as each lemma states. -/
namespace Go.Proofs.YtjigflnjgmgmnaaDoor
open Go Go.Gh Go.Proofs

/-- How far sums can be apart, if a day is told. -/
def askV (m : Mo) (B : List Sp) (d : Nat) : Int := mostN m d (many B d) (B.getD d z0).1 0
structure AskOK (f : Nat → Int) (d n : Nat) (day left : Int) (r : Int × Int) : Prop where
  all : ∀ k, d ≤ k → k < n → r.2 ≤ f k
  is : r = (day, left) ∨ ∃ k : Nat, d ≤ k ∧ k < n ∧ r = ((k : Int), f k) ∧ f k < left ∧ ∀ j, d ≤ j → j < k → f k < f j
theorem askN_ok (m : Mo) (B : List Sp) : ∀ (e d : Nat) (day left : Int), AskOK (askV m B) d (d + e) day left (askN m B e d day left)
  | 0, d, day, left => ⟨fun k h1 h2 => by omega, .inl rfl⟩
  | e + 1, d, day, left => by
    simp only [askN]
    by_cases h : mostN m d (many B d) (B.getD d z0).1 0 < left
    · rw [if_pos h]
      have ih := askN_ok m B e (d + 1) d (askV m B d)
      rw [show d + 1 + e = d + (e + 1) by omega] at ih
      change askV m B d < left at h
      change AskOK _ _ _ _ _ (askN m B e (d + 1) d (askV m B d))
      refine ⟨fun k h1 h2 => ?_, ?_⟩
      · by_cases ek : k = d
        · subst ek
          rcases ih.is with e1 | ⟨j, _, _, e1, h3, _⟩
          · rw [e1]; exact Int.le_refl _
          · rw [e1]; simp only; omega
        · exact ih.all k (by omega) h2
      · rcases ih.is with e1 | ⟨j, h3, h4, e1, h5, h6⟩
        · exact .inr ⟨d, Nat.le_refl _, by omega, e1, h, fun j h1 h2 => by omega⟩
        · refine .inr ⟨j, by omega, h4, e1, by omega, fun i h7 h8 => ?_⟩
          by_cases ei : i = d
          · subst ei; exact h5
          · exact h6 i (by omega) h8
    · rw [if_neg h]
      have ih := askN_ok m B e (d + 1) day left
      rw [show d + 1 + e = d + (e + 1) by omega] at ih
      change ¬ askV m B d < left at h
      refine ⟨fun k h1 h2 => ?_, ?_⟩
      · by_cases ek : k = d
        · subst ek
          rcases ih.is with e1 | ⟨j, _, _, e1, h3, _⟩
          · rw [e1]; simp only; omega
          · rw [e1]; simp only; omega
        · exact ih.all k (by omega) h2
      · rcases ih.is with e1 | ⟨j, h3, h4, e1, h5, h6⟩
        · exact .inl e1
        · refine .inr ⟨j, by omega, h4, e1, h5, fun i h7 h8 => ?_⟩
          by_cases ei : i = d
          · subst ei; omega
          · exact h6 i (by omega) h8

theorem askV_most {c : Int × List Sp × Unit} (hv : Valid c) (ha : alive (spn (c, 0, ()) nob) = true) {d : Nat} (hd : d < c.2.1.length) : MostOf (fun v => v ∈ numsL (fun v => alive (spn (c, 0, ()) (d, (v : Int), ()))) 101) (fun v => apartP (c, 0, ()) (d, v, ())) 0 (askV (c, 0, ()) (spn (c, 0, ()) nob) d) :=
  (mostN_most (c, 0, ()) d (many (spn (c, 0, ()) nob) d) ((spn (c, 0, ()) nob).getD d z0).1 0).iff fun v => (nums_in hv ha hd v).symm
theorem apart_le {c : Int × List Sp × Unit} (hv : Valid c) {d : Nat} (hd : d < c.2.1.length) {v : Int} (h0 : 0 ≤ v) (h1 : v ≤ 100) (h : alive (spn (c, 0, ()) (d, v, ())) = true) : apartP (c, 0, ()) (d, v, ()) ≤ apartP (c, 0, ()) nob := by
  have hl := hv.l1
  obtain ⟨⟨t1, _⟩, ⟨t2, _⟩⟩ := (told_char hv hd h0 h1).1 h
  have hin := (spn_char (c, 0, ()) nob hv bd_nob).2
  have q1 := sumX_le (x := lows (spn (c, 0, ()) nob)) (y := lows (spn (c, 0, ()) (d, v, ()))) (i := c.2.1.length - 1) fun j hj => ((hin _ t1).2 j (by simp only; omega)).1
  have q2 := sumX_le (x := highs (spn (c, 0, ()) (d, v, ()))) (y := highs (spn (c, 0, ()) nob)) (i := c.2.1.length - 1) fun j hj => ((hin _ t2).2 j (by simp only; omega)).2
  unfold apartP
  rw [sums_X (c, 0, ()) (d, v, ()) hv (bd_pt h0 h1 d), sums_X (c, 0, ()) nob hv bd_nob]
  simp only
  omega
theorem apart_nn {c : Int × List Sp × Unit} (hv : Valid c) (ha : alive (spn (c, 0, ()) nob) = true) : 0 ≤ apartP (c, 0, ()) nob := by
  have hl := hv.l1
  have q1 := sumX_le (x := lows (spn (c, 0, ()) nob)) (y := highs (spn (c, 0, ()) nob)) (i := c.2.1.length - 1) fun j hj => by
    have := spn_day c hv ha (show j < c.2.1.length by omega)
    exact this.2.1
  unfold apartP
  rw [sums_X (c, 0, ()) nob hv bd_nob]
  simp only
  omega
theorem askV_le {c : Int × List Sp × Unit} (hv : Valid c) (ha : alive (spn (c, 0, ()) nob) = true) {d : Nat} (hd : d < c.2.1.length) : askV (c, 0, ()) (spn (c, 0, ()) nob) d ≤ apartP (c, 0, ()) nob := by
  rcases (askV_most hv ha hd).is with e | ⟨v, hm, e⟩
  · rw [e]; exact apart_nn hv ha
  · rw [← e]
    obtain ⟨n, h1, h2, rfl⟩ := numsL_mem.1 hm
    exact apart_le hv hd (by omega) (by omega) h2

/-- CloudAsked: if the day of Ask is told sums differ by no more than Ask says; for no other day they differ by less at most. -/
theorem L13 (c : Int × List Sp × Unit) (x : List Int) (hx : ∀ i, 0 ≤ x.getD i 0 ∧ x.getD i 0 ≤ 255) : F13 ((c, x, ()) : (Int × List Sp × Unit) × List Int × Unit) = some (true, ()) := by
  refine ghost_eq (Ev.eq (fun _ => E13 _ _ _) ?_)
  obtain ⟨m, hm, _⟩ := small_len c
  rw [hm, L22]
  simp only [Option.bind_some]
  rw [L33, L47]
  simp only [Option.bind_some]
  cases h : someB m with
  | false =>
    have hn := some_not h
    have e1 : askP m = (0, 0, (ent m 0 0).2.1, ()) := by unfold askP; rw [if_pos hn]
    have e3 : ((ent m 0 0).2.1 != 0) = true := by simpa using hn
    rw [e1]
    simp only [e3, beq_self_eq_true, Bool.not_false, cond_true]
    exact Ev.all fun _ => by first | rfl | trivial
  | true =>
    obtain ⟨hc, hv, ha⟩ := some_ok h
    have h12 := hv.l12
    have h1 := hv.l1
    obtain ⟨b, hb⟩ := L59' m hv ha
    have hsb := sums_bd (m, 0, ()) nob hv bd_nob
    have x0 := hx 0
    have x1 := hx 1
    obtain ⟨other, ho⟩ : ∃ o : Nat, Int.tmod (IntKind.wrap IntKind.i64 (x.getD 1 0)) (m.2.1.length : Int) = (o : Int) ∧ o < m.2.1.length := by
      rw [wrap_id (by omega) (by omega), Int.tmod_eq_emod_of_nonneg (by omega)]
      obtain ⟨n, hn⟩ := Int.eq_ofNat_of_zero_le x1.1
      rw [hn]
      exact ⟨n % m.2.1.length, by simp, Nat.mod_lt _ (by omega)⟩
    obtain ⟨ho, hol⟩ := ho
    have hok := askN_ok (m, 0, ()) (spn (m, 0, ()) nob) m.2.1.length 0 0 (apartP (m, 0, ()) nob)
    rw [Nat.zero_add] at hok
    have wall : IntKind.wrap IntKind.i64 ((sums (m, 0, ()) nob).2.1 - (sums (m, 0, ()) nob).1) = apartP (m, 0, ()) nob := by rw [wrap_id (by omega) (by omega)]; rfl
    rw [hb]
    simp only [Bool.not_true, cond_false, Option.bind_some, ho]
    rw [dec_f (show ¬ ((m.2.1.length : Int) = 0) by omega), wall, L60 m hv ha other hol]
    have ask := some_ent h
    have h60 : ∀ d, mostN (m, 0, ()) d (many (spn (m, 0, ()) nob) d) ((spn (m, 0, ()) nob).getD d z0).1 0 = askV (m, 0, ()) (spn (m, 0, ()) nob) d := fun _ => rfl
    rw [h60]
    rcases hok.is with e | ⟨k, _, hk, e, hlt, hfirst⟩
    · have e1 : askP m = (0, 0, 9, ()) := by
        unfold askP
        rw [if_neg (by simpa using ask), e, if_pos rfl]
      have q1 := hok.all other (Nat.zero_le _) hol
      rw [e] at q1
      have q2 := askV_le hv ha hol
      have : (askV (m, 0, ()) (spn (m, 0, ()) nob) other == apartP (m, 0, ()) nob) = true := beq_iff_eq.2 (by simp only at q1; omega)
      rw [e1]
      simp only [cond_false, Option.bind_some, this, cond_true]
      exact Ev.all fun _ => by first | rfl | trivial
    · have e1 : askP m = ((k : Int), askV (m, 0, ()) (spn (m, 0, ()) nob) k, 0, ()) := by
        unfold askP
        rw [if_neg (by simpa using ask), e, if_neg (by simp only; omega)]
      have q1 := hok.all other (Nat.zero_le _) hol
      rw [e] at q1
      simp only at q1
      have hmost := askV_most hv ha hk
      obtain ⟨t1, _⟩ := (spn_char (m, 0, ()) nob hv bd_nob).1 ha
      rw [e1]
      simp only [cond_false, bne_self_eq_false]
      rw [L48, L61' m hv k hk, L60 m hv ha k hk, h60]
      simp only [Option.bind_some]
      have hmem := nums_in hv ha hk
      have hL := numsL_len (fun v => alive (spn (m, 0, ()) (k, (v : Int), ()))) 101
      have hne : 0 < (numsL (fun v => alive (spn (m, 0, ()) (k, (v : Int), ()))) 101).length := by
        obtain ⟨m1, m2⟩ := in_many hv ha hk t1
        have hr := truth_range hv t1 hk
        exact List.length_pos_of_mem ((hmem _).2 ⟨m1, m2, ((told_char hv hk hr.1 hr.2).2 _ t1 rfl).1⟩)
      have hall := hmost.all
      generalize numsL (fun v => alive (spn (m, 0, ()) (k, (v : Int), ()))) 101 = L at *
      obtain ⟨i, hi, hil⟩ : ∃ i : Nat, Int.tmod (IntKind.wrap IntKind.i64 (x.getD 0 0)) (L.length : Int) = (i : Int) ∧ i < L.length := by
        rw [wrap_id (by omega) (by omega), Int.tmod_eq_emod_of_nonneg (by omega)]
        obtain ⟨n, hn⟩ := Int.eq_ofNat_of_zero_le x0.1
        rw [hn]
        exact ⟨n % L.length, by simp, Nat.mod_lt _ (by omega)⟩
      obtain ⟨v1, v2, v3⟩ := (hmem L[i]).1 (List.getElem_mem hil)
      have vr := of_many hv ha hk v1 v2
      have hcan := can_told hv k hk vr.1 vr.2 v3
      have hw := with_valid hv k vr.1 vr.2
      have v4 : alive (spn (withC m k L[i], 0, ()) nob) = true := by rw [← spn_with m k L[i] hk vr.1 vr.2 hcan]; exact v3
      obtain ⟨b2, hb2⟩ := L59' _ hw v4
      have hsb2 := sums_bd (withC m k L[i], 0, ()) nob hw bd_nob
      have hap := hall L[i] (List.getElem_mem hil)
      have hap2 : (sums (withC m k L[i], 0, ()) nob).2.1 - (sums (withC m k L[i], 0, ()) nob).1 = apartP (m, 0, ()) (k, L[i], ()) := by
        unfold apartP
        rw [sums_with m k L[i] hk vr.1 vr.2 hcan]
      rw [hi, Int.toNat_natCast, getD_lt hil, L55 m hv k hk]
      simp only [Option.bind_some]
      rw [hb2, wrap_id (x := (m.2.1.length : Int) - 1) (by omega) (by omega)]
      simp only [Option.bind_some]
      rw [wrap_id (x := (sums (withC m k L[i], 0, ()) nob).2.1 - (sums (withC m k L[i], 0, ()) nob).1) (by omega) (by omega), hap2, dec_t (show (0 : Int) ≤ (k : Int) by omega), dec_t (show (k : Int) ≤ (m.2.1.length : Int) - 1 by omega), dec_f (show ¬ (askV (m, 0, ()) (spn (m, 0, ()) nob) k ≥ apartP (m, 0, ()) nob) by omega), dec_f (show ¬ ((L.length : Int) = 0) by omega), dec_t (show (0 : Int) ≤ (i : Int) by omega), dec_t (show (i : Int) < (L.length : Int) by omega), dec_t hap]
      simp only [Bool.and_self, Bool.not_true, cond_false, cond_true, beq_self_eq_true]
      by_cases hgt : askV (m, 0, ()) (spn (m, 0, ()) nob) other > askV (m, 0, ()) (spn (m, 0, ()) nob) k
      · rw [dec_t hgt]
        exact Ev.all fun _ => by first | rfl | trivial
      · have heq : (askV (m, 0, ()) (spn (m, 0, ()) nob) other == askV (m, 0, ()) (spn (m, 0, ()) nob) k) = true := beq_iff_eq.2 (by omega)
        have hge : (other : Int) ≥ (k : Int) := by
          apply Classical.byContradiction
          intro hn
          have := hfirst other (Nat.zero_le _) (by omega)
          omega
        rw [dec_f hgt, heq, dec_t hge]
        exact Ev.all fun _ => by first | rfl | trivial
end Go.Proofs.YtjigflnjgmgmnaaDoor
/- CloudMore returns true. Conditions: as each lemma states. -/
namespace Go.Proofs.YtjigflnjgmgmnaaDoor
open Go Go.Gh Go.Proofs

theorem with_truth {c : Int × List Sp × Unit} {d : Nat} {n : Int} (hd : d < c.2.1.length) (h0 : 0 ≤ n) (h1 : n ≤ 100) (h : canB (c.2.1.getD d z0) n = true) (x : Nat → Int) : Truth (withC c d n, 0, ()) nob x ↔ Truth (c, 0, ()) nob x ∧ x d = n := by
  rw [← truth_told d hd n x]
  constructor
  · intro ht
    refine ⟨fun i hi => ?_, fun i hi => ht.up i (by simp only [with_len]; exact hi)⟩
    rw [own_with c d n hd h0 h1 h]
    exact ht.own i (by simp only [with_len]; exact hi)
  · intro ht
    refine ⟨fun i hi => ?_, fun i hi => ht.up i (by simpa only [with_len] using hi)⟩
    rw [← own_with c d n hd h0 h1 h]
    exact ht.own i (by simpa only [with_len] using hi)

theorem sumX_cap {x : Nat → Int} : ∀ {i : Nat}, (∀ j, j ≤ i → 0 ≤ x j ∧ x j ≤ 100) → 0 ≤ sumX x i ∧ sumX x i ≤ 100 * ((i : Int) + 1)
  | 0, h => by have := h 0 (Nat.le_refl _); simp only [sumX]; omega
  | i + 1, h => by
    have h1 := sumX_cap (i := i) fun j hj => h j (by omega)
    have h2 := h (i + 1) (Nat.le_refl _)
    simp only [sumX]
    omega
theorem sums_cap {c : Int × List Sp × Unit} (hv : Valid c) (ha : alive (spn (c, 0, ()) nob) = true) : 0 ≤ (sums (c, 0, ()) nob).1 ∧ (sums (c, 0, ()) nob).1 ≤ 100 * (c.2.1.length : Int) ∧ 0 ≤ (sums (c, 0, ()) nob).2.1 ∧ (sums (c, 0, ()) nob).2.1 ≤ 100 * (c.2.1.length : Int) := by
  have hl := hv.l1
  obtain ⟨t1, t2⟩ := (spn_char (c, 0, ()) nob hv bd_nob).1 ha
  have q1 := sumX_cap (x := lows (spn (c, 0, ()) nob)) (i := c.2.1.length - 1) fun j hj => truth_range hv t1 (by omega)
  have q2 := sumX_cap (x := highs (spn (c, 0, ()) nob)) (i := c.2.1.length - 1) fun j hj => truth_range hv t2 (by omega)
  rw [sums_X (c, 0, ()) nob hv bd_nob]
  simp only
  omega

/-- 'proper'. -/
theorem L42 (a : Int) (n : Nat) (hn : 1 ≤ n) (h12 : n ≤ 12) (h0 : 0 ≤ a) (h1 : a ≤ 100 * (n : Int)) : F42 ((lowP a n, (n : Int), ()) : Sp × Int × Unit) = some (true, ()) := by
  obtain ⟨b, rfl⟩ := Int.eq_ofNat_of_zero_le h0
  refine ghost_eq (Ev.eq (fun _ => E42 _ _ _) ?_)
  rw [wrap_id (by omega) (by omega), L48, L48]
  have hg : 0 < Nat.gcd b n := Nat.gcd_pos_of_pos_right _ hn
  have hdvd := Nat.gcd_dvd_right b n
  have e : lowP (b : Int) (n : Int) = (((b / Nat.gcd b n : Nat) : Int), ((n / Nat.gcd b n : Nat) : Int), ()) := by simp [lowP]
  have l1 : b / Nat.gcd b n ≤ b := Nat.div_le_self _ _
  have l2 : n / Nat.gcd b n ≤ n := Nat.div_le_self _ _
  have l3 : 0 < n / Nat.gcd b n := Nat.div_pos (Nat.le_of_dvd (by omega) hdvd) hg
  rw [e]
  generalize b / Nat.gcd b n = u at *
  generalize n / Nat.gcd b n = v at *
  simp only [Option.bind_some]
  rw [dec_t (by omega), dec_t (by omega), dec_t (by omega), dec_t (by omega)]
  exact Ev.all fun _ => by first | rfl | trivial

/-- 'Below', of quotients over one number. -/
theorem L114 (a b : Int) (n : Nat) (hn : 1 ≤ n) (h12 : n ≤ 12) (ha : 0 ≤ a) (ha1 : a ≤ 100 * (n : Int)) (hb : 0 ≤ b) (hb1 : b ≤ 100 * (n : Int)) : F114 ((lowP a n, lowP b n, ()) : Sp × Sp × Unit) = some (decide (a < b), ()) := by
  obtain ⟨p, rfl⟩ := Int.eq_ofNat_of_zero_le ha
  obtain ⟨q, rfl⟩ := Int.eq_ofNat_of_zero_le hb
  refine ghost_eq (Ev.eq (fun _ => E114 _ _ _) ?_)
  have e1 : lowP (p : Int) (n : Int) = (((p / Nat.gcd p n : Nat) : Int), ((n / Nat.gcd p n : Nat) : Int), ()) := by simp [lowP]
  have e2 : lowP (q : Int) (n : Int) = (((q / Nat.gcd q n : Nat) : Int), ((n / Nat.gcd q n : Nat) : Int), ()) := by simp [lowP]
  have g1 : 0 < Nat.gcd p n := Nat.gcd_pos_of_pos_right _ hn
  have g2 : 0 < Nat.gcd q n := Nat.gcd_pos_of_pos_right _ hn
  have d1 : Nat.gcd p n * (p / Nat.gcd p n) = p := Nat.mul_div_cancel' (Nat.gcd_dvd_left p n)
  have d2 : Nat.gcd p n * (n / Nat.gcd p n) = n := Nat.mul_div_cancel' (Nat.gcd_dvd_right p n)
  have d3 : Nat.gcd q n * (q / Nat.gcd q n) = q := Nat.mul_div_cancel' (Nat.gcd_dvd_left q n)
  have d4 : Nat.gcd q n * (n / Nat.gcd q n) = n := Nat.mul_div_cancel' (Nat.gcd_dvd_right q n)
  have l1 : p / Nat.gcd p n ≤ p := Nat.div_le_self _ _
  have l2 : n / Nat.gcd p n ≤ n := Nat.div_le_self _ _
  have l3 : q / Nat.gcd q n ≤ q := Nat.div_le_self _ _
  have l4 : n / Nat.gcd q n ≤ n := Nat.div_le_self _ _
  rw [e1, e2]
  generalize Nat.gcd p n = g at *
  generalize Nat.gcd q n = h at *
  generalize p / g = p1 at *
  generalize q / h = q1 at *
  generalize n / g = n1 at *
  generalize n / h = n2 at *
  simp only
  have m1 : p1 * n2 ≤ 1200 * 12 := Nat.mul_le_mul (by omega) (by omega)
  have m2 : q1 * n1 ≤ 1200 * 12 := Nat.mul_le_mul (by omega) (by omega)
  have c1 : ((p1 : Int) * (n2 : Int)) = ((p1 * n2 : Nat) : Int) := by simp
  have c2 : ((q1 : Int) * (n1 : Int)) = ((q1 * n1 : Nat) : Int) := by simp
  rw [c1, c2, wrap_id (by omega) (by omega), wrap_id (by omega) (by omega)]
  have key : p1 * n2 < q1 * n1 ↔ p < q := by
    have hgh : 0 < g * h := Nat.mul_pos g1 g2
    have s1 : (g * h) * (p1 * n2) = p * n := by rw [← d1, ← d4, Nat.mul_mul_mul_comm]
    have s2 : (g * h) * (q1 * n1) = q * n := by rw [Nat.mul_comm g h, Nat.mul_mul_mul_comm, d3, d2]
    rw [← Nat.mul_lt_mul_left hgh, s1, s2]
    exact Nat.mul_lt_mul_right (by omega)
  have : decide (((p1 * n2 : Nat) : Int) < ((q1 * n1 : Nat) : Int)) = decide ((p : Int) < (q : Int)) := decide_eq_decide.2 (by omega)
  rw [this]
  exact Ev.all fun _ => by first | rfl | trivial
/-- 'narrow', of quotients over one number. -/
theorem L44 (a b u v : Int) (n : Nat) (hn : 1 ≤ n) (h12 : n ≤ 12) (ha : 0 ≤ a) (ha1 : a ≤ 100 * (n : Int)) (hb : 0 ≤ b) (hb1 : b ≤ 100 * (n : Int)) (hu : 0 ≤ u) (hu1 : u ≤ 100 * (n : Int)) (hv : 0 ≤ v) (hv1 : v ≤ 100 * (n : Int)) (h1 : u ≤ a) (h2 : b ≤ v) : F44 ((lowP a n, lowP b n, lowP u n, lowP v n, ()) : Sp × Sp × Sp × Sp × Unit) = some (true, ()) := by
  refine ghost_eq (Ev.eq (fun _ => E44 _ _ _ _ _) ?_)
  rw [L114 a u n hn h12 ha ha1 hu hu1, L114 v b n hn h12 hv hv1 hb hb1, dec_f (by omega), dec_f (by omega)]
  exact Ev.all fun _ => by first | rfl | trivial

theorem month_some {c : Int × List Sp × Unit} (h : someB c = true) : monthP c = (lowP (sums (c, 0, ()) nob).1 c.2.1.length, lowP (sums (c, 0, ()) nob).2.1 c.2.1.length, 0, ()) := by
  unfold monthP
  rw [if_neg (by simpa using some_ent h)]
  rfl
theorem ent_some {c : Int × List Sp × Unit} (h : someB c = true) {d : Nat} (hd : d < c.2.1.length) {n : Int} (h0 : 0 ≤ n) (h1 : n ≤ 100) : (ent c d n).2.1 = 0 := by
  obtain ⟨a, _, e⟩ := some_ok h
  unfold ent
  rw [if_neg (by simpa using a), if_neg (by omega), if_neg (by omega), if_pos e]
theorem told_some {c : Int × List Sp × Unit} (h : someB c = true) {d : Nat} (hd : d < c.2.1.length) {n : Int} (h0 : 0 ≤ n) (h1 : n ≤ 100) : toldP c d n = if canB (c.2.1.getD d z0) n = true ∧ someB (withC c d n) = true then monthP (withC c d n) else (z0, z0, 9, ()) := by
  obtain ⟨hc, hv, ha⟩ := some_ok h
  unfold toldP
  rw [if_neg (by simpa using ent_some h hd h0 h1)]
  cases hb : canB (c.2.1.getD d z0) n with
  | false =>
    rw [spn_not c hv d n hd h0 h1 hb, if_neg (by decide), if_neg (fun h => by cases h.1)]
  | true =>
    have hs : someB (withC c d n) = alive (spn (withC c d n, 0, ()) nob) := by unfold someB; rw [chk_with hc d h0 h1]; rfl
    have hsp := spn_with c d n hd h0 h1 hb
    cases hal : alive (spn (withC c d n, 0, ()) nob) with
    | false =>
      rw [hsp, hal, if_neg (by decide), if_neg (fun h => by rw [hs, hal] at h; cases h.2)]
    | true =>
      rw [hal] at hs
      rw [hsp, hal, if_pos rfl, if_pos ⟨rfl, hs⟩, month_some hs]
      unfold overP
      rw [sums_with c d n hd h0 h1 hb, with_len]

/-- CloudMore: with one more day told no Number and no Month is wider, and what surely is so stays so. -/
theorem L12 (c : Int × List Sp × Unit) (x : List Int) (hx : ∀ i, 0 ≤ x.getD i 0 ∧ x.getD i 0 ≤ 255) : F12 ((c, x, ()) : (Int × List Sp × Unit) × List Int × Unit) = some (true, ()) := by
  refine ghost_eq (Ev.eq (fun _ => E12 _ _ _) ?_)
  rw [L47, L22]
  simp only [Option.bind_some]
  cases h : someB c with
  | false =>
    rw [L25 c 0 0]
    have hn := some_not h
    have e1 : toldP c 0 0 = (z0, z0, (ent c 0 0).2.1, ()) := by unfold toldP; rw [if_pos hn]
    have e3 : ((ent c 0 0).2.1 != 0) = true := by simpa using hn
    rw [e1]
    simp only [e3, Bool.not_false, cond_true, Option.bind_some]
    exact Ev.all fun _ => by first | rfl | trivial
  | true =>
    obtain ⟨hc, hv, ha⟩ := some_ok h
    have h12 := hv.l12
    have h1 := hv.l1
    have x0 := hx 0
    have x1 := hx 1
    obtain ⟨d, hd, hdl⟩ : ∃ o : Nat, Int.tmod (IntKind.wrap IntKind.i64 (x.getD 0 0)) (c.2.1.length : Int) = (o : Int) ∧ o < c.2.1.length := by
      rw [wrap_id (by omega) (by omega), Int.tmod_eq_emod_of_nonneg (by omega)]
      obtain ⟨n, hn⟩ := Int.eq_ofNat_of_zero_le x0.1
      rw [hn]
      exact ⟨n % c.2.1.length, by simp, Nat.mod_lt _ (by omega)⟩
    obtain ⟨n, hn, n0, n1⟩ : ∃ n : Int, Int.tmod (IntKind.wrap IntKind.i64 (x.getD 1 0)) 101 = n ∧ 0 ≤ n ∧ n ≤ 100 := by
      rw [wrap_id (by omega) (by omega), Int.tmod_eq_emod_of_nonneg (by omega)]
      exact ⟨_, rfl, by omega, by omega⟩
    rw [hd, hn]
    simp only [Bool.not_true, cond_false]
    rw [dec_f (show ¬ ((c.2.1.length : Int) = 0) by omega), L25 c d n, L55 c hv d hdl, L56, Int.toNat_natCast, dec_t (show (0 : Int) ≤ (d : Int) by omega), dec_t (show (d : Int) < (c.2.1.length : Int) by omega), told_some h hdl n0 n1]
    simp only [cond_false, Option.bind_some, Bool.and_self, cond_true]
    rw [show c.2.1.getD d (0, 0, ()) = c.2.1.getD d z0 from rfl]
    cases hb : canB (c.2.1.getD d z0) n with
    | false =>
      rw [if_neg (fun h => by cases h.1)]
      have ez : eqD (Ty.struct [Ty.int IntKind.i64, Ty.int IntKind.i64]) z0 (0, 0, ()) = true := eqD_self z0
      simp only [Bool.not_false, cond_true, beq_self_eq_true, ez]
      exact Ev.all fun _ => by first | rfl | trivial
    | true =>
      rw [L47]
      simp only [Option.bind_some, Bool.not_true, cond_false]
      cases hs : someB (withC c d n) with
      | false =>
        rw [if_neg (fun h => by cases h.2)]
        have ez : eqD (Ty.struct [Ty.int IntKind.i64, Ty.int IntKind.i64]) z0 (0, 0, ()) = true := eqD_self z0
        simp only [Bool.not_false, cond_true, beq_self_eq_true, ez]
        exact Ev.all fun _ => by first | rfl | trivial
      | true =>
        obtain ⟨_, hw, hwa⟩ := some_ok hs
        have wl := with_len c d n
        rw [if_pos (by constructor <;> trivial), L23 c, L23 (withC c d n), L28 c, L28 (withC c d n), L31 c, L31 (withC c d n)]
        simp only [Option.bind_some]
        have hwt := with_truth hdl n0 n1 hb
        obtain ⟨t1, t2⟩ := (spn_char (withC c d n, 0, ()) nob hw bd_nob).1 hwa
        have c1 := ((hwt _).1 t1).1
        have c2 := ((hwt _).1 t2).1
        have hin := (spn_char (c, 0, ()) nob hv bd_nob).2
        have b1 := (hin _ c1).2
        have b2 := (hin _ c2).2
        have q1 := sumX_le (x := lows (spn (c, 0, ()) nob)) (y := lows (spn (withC c d n, 0, ()) nob)) (i := c.2.1.length - 1) fun j hj => (b1 j (by simp only; omega)).1
        have q2 := sumX_le (x := highs (spn (withC c d n, 0, ()) nob)) (y := highs (spn (c, 0, ()) nob)) (i := c.2.1.length - 1) fun j hj => (b2 j (by simp only; omega)).2
        have s1 := sums_cap hv ha
        have s2 := sums_cap hw hwa
        have r1 : (sums (c, 0, ()) nob).1 ≤ (sums (withC c d n, 0, ()) nob).1 ∧ (sums (withC c d n, 0, ()) nob).2.1 ≤ (sums (c, 0, ()) nob).2.1 := by
          rw [sums_X (c, 0, ()) nob hv bd_nob, sums_X (withC c d n, 0, ()) nob hw bd_nob]
          simp only [with_len]
          exact ⟨q1, q2⟩
        rw [wl] at s2
        rw [month_some h, month_some hs, tops_some h, tops_some hs, rises_some h, rises_some hs, wl]
        simp only [bne_self_eq_false, cond_false, eqD_self, Bool.not_true]
        have n1' := numsL_len (sureTop (c, 0, ()) (spn (c, 0, ()) nob)) c.2.1.length
        have n2' := numsL_len (sureTop (withC c d n, 0, ()) (spn (withC c d n, 0, ()) nob)) c.2.1.length
        have n3' := numsL_len (mayTop (c, 0, ()) (spn (c, 0, ()) nob)) c.2.1.length
        have n4' := numsL_len (mayTop (withC c d n, 0, ()) (spn (withC c d n, 0, ()) nob)) c.2.1.length
        have n5' := numsL_len (sureRise (c, 0, ()) (spn (c, 0, ()) nob)) c.2.1.length
        have n6' := numsL_len (sureRise (withC c d n, 0, ()) (spn (withC c d n, 0, ()) nob)) c.2.1.length
        have n7' := numsL_len (mayRise (c, 0, ()) (spn (c, 0, ()) nob)) c.2.1.length
        have n8' := numsL_len (mayRise (withC c d n, 0, ()) (spn (withC c d n, 0, ()) nob)) c.2.1.length
        rw [L42 _ _ h1 h12 s2.1 s2.2.1, L42 _ _ h1 h12 s2.2.2.1 s2.2.2.2, L42 _ _ h1 h12 s1.1 s1.2.1, L42 _ _ h1 h12 s1.2.2.1 s1.2.2.2, L44 _ _ _ _ _ h1 h12 s2.1 s2.2.1 s2.2.2.1 s2.2.2.2 s1.1 s1.2.1 s1.2.2.1 s1.2.2.2 r1.1 r1.2]
        rw [L57 _ _ (by omega) (by omega), L57 _ _ (by omega) (by omega), L57 _ _ (by omega) (by omega), L57 _ _ (by omega) (by omega)]
        simp only [Option.bind_some, Bool.not_true, cond_false]
        have g1 : ((numsL (sureTop (c, 0, ()) (spn (c, 0, ()) nob)) c.2.1.length).all fun x => decide (x ∈ numsL (sureTop (withC c d n, 0, ()) (spn (withC c d n, 0, ()) nob)) c.2.1.length)) = true := sub_nums fun k hk hp => ⟨hk, (sureTop_iff hw hwa (by rw [wl]; exact hk)).2 fun x hx j hj => (sureTop_iff hv ha hk).1 hp x ((hwt x).1 hx).1 j (by rw [wl] at hj; exact hj)⟩
        have g2 : ((numsL (mayTop (withC c d n, 0, ()) (spn (withC c d n, 0, ()) nob)) c.2.1.length).all fun x => decide (x ∈ numsL (mayTop (c, 0, ()) (spn (c, 0, ()) nob)) c.2.1.length)) = true := sub_nums fun k hk hp => ⟨hk, by
          obtain ⟨x, hx, hm⟩ := (mayTop_iff hw hwa (by rw [wl]; exact hk)).1 hp
          exact (mayTop_iff hv ha hk).2 ⟨x, ((hwt x).1 hx).1, fun j hj => hm j (by rw [wl]; exact hj)⟩⟩
        have g3 : ((numsL (sureRise (c, 0, ()) (spn (c, 0, ()) nob)) c.2.1.length).all fun x => decide (x ∈ numsL (sureRise (withC c d n, 0, ()) (spn (withC c d n, 0, ()) nob)) c.2.1.length)) = true := sub_nums fun k hk hp => ⟨hk, (sureRise_iff hw hwa (by rw [wl]; exact hk)).2 ⟨((sureRise_iff hv ha hk).1 hp).1, fun x hx => ((sureRise_iff hv ha hk).1 hp).2 x ((hwt x).1 hx).1⟩⟩
        have g4 : ((numsL (mayRise (withC c d n, 0, ()) (spn (withC c d n, 0, ()) nob)) c.2.1.length).all fun x => decide (x ∈ numsL (mayRise (c, 0, ()) (spn (c, 0, ()) nob)) c.2.1.length)) = true := sub_nums fun k hk hp => ⟨hk, by
          obtain ⟨hk1, x, hx, hm⟩ := (mayRise_iff hw hwa (by rw [wl]; exact hk)).1 hp
          exact (mayRise_iff hv ha hk).2 ⟨hk1, x, ((hwt x).1 hx).1, hm⟩⟩
        rw [g1, g2, g3, g4]
        simp only [Bool.not_true, cond_false]
        have key : ∀ (e i : Nat), i + e = c.2.1.length → Ev fun k => T12_0 i c (withC c d n) k = some (true, ()) := by
          intro e
          induction e with
          | zero =>
            intro i hi
            refine U12_0 _ _ _ (Ev.eq (fun _ => Q12_0 _ _ _ _) ?_)
            rw [dec_f (by omega), L22]
            exact Ev.all fun _ => by first | rfl | trivial
          | succ e ih =>
            intro i hi
            refine U12_0 _ _ _ (Ev.eq (fun _ => Q12_0 _ _ _ _) ?_)
            have hlt : i < c.2.1.length := by omega
            have k1 := (b1 i hlt).1
            have k2 := (b2 i hlt).2
            simp only [lows, highs] at k1 k2
            rw [dec_t (show (i : Int) < (c.2.1.length : Int) by omega), L20 c i, L20 (withC c d n) i, num_some h hlt, num_some hs (d := i) (by rw [wl]; exact hlt), wrap_succ (n := i) (by omega)]
            simp only [cond_true, Option.bind_some, bne_self_eq_false, cond_false]
            rw [L58, dec_t (show ((spn (withC c d n, 0, ()) nob).getD i z0).1 ≥ ((spn (c, 0, ()) nob).getD i z0).1 by omega), dec_t (show ((spn (withC c d n, 0, ()) nob).getD i z0).2.1 ≤ ((spn (c, 0, ()) nob).getD i z0).2.1 by omega)]
            exact ih (i + 1) (by omega)
        exact key c.2.1.length 0 (by omega)
end Go.Proofs.YtjigflnjgmgmnaaDoor
