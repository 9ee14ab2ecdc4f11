/- What helpers of the outright statements come to. Conditions: as each lemma states. -/
import Derived.Test.YtjigflnjgmgmnaaDoorClHa
import Derived.Test.YtjigflnjgmgmnaaDoorClS
import Derived.Test.YtjigflnjgmgmnaaDoorClHb
namespace Go.Proofs.YtjigflnjgmgmnaaDoor
open Go Go.Gh Go.Proofs Go.Few
def turnP (x : List Int) (n : Nat) : Int := if x.length = 0 then 0 else x.getD (n % x.length) 0
theorem L112 (x : List Int) (hx : ∀ v ∈ x, 0 ≤ v ∧ v ≤ 255) (n : Nat) : F112 ((x, (n : Int), ()) : List Int × Int × Unit) = some (turnP x n, ()) ∧ 0 ≤ turnP x n ∧ turnP x n ≤ 255 := by
 unfold turnP
 by_cases h : x.length = 0
 ·rw [if_pos h]
  refine ⟨ghost_eq (Ev.eq (fun _ => E112 _ _ _) ?_), by decide, by decide⟩
  have : ((x.length : Int) == 0) = true := by simp [h]
  rw [this]
  exact Ev.all fun _ => by first | rfl | trivial
 ·rw [if_neg h]
  have hlt : n % x.length < x.length := Nat.mod_lt _ (by omega)
  have hv := hx _ (List.getElem_mem hlt)
  rw [getD_lt hlt]
  refine ⟨ghost_eq (Ev.eq (fun _ => E112 _ _ _) ?_), hv.1, hv.2⟩
  have e1 : ((x.length : Int) == 0) = false := by simp; intro e; exact h (by simp [e])
  have e2 : Int.tmod (n : Int) (x.length : Int) = ((n % x.length : Nat) : Int) := by rw [Int.tmod_eq_emod_of_nonneg (by omega)]; simp
  rw [e1, e2, dec_f (show ¬ ((x.length : Int) = 0) by omega), dec_t (show (0 : Int) ≤ ((n % x.length : Nat) : Int) by omega), dec_t (show ((n % x.length : Nat) : Int) < (x.length : Int) by omega), Int.toNat_natCast, getD_lt hlt, wrap_id (by omega) (by omega)]
  exact Ev.all fun _ => by first | rfl | trivial
theorem L45 (n : Int) (s : Sp) : F45 ((n, s, ()) : Int × Sp × Unit) = some (decide (s.1 ≤ n) && decide (n ≤ s.2.1), ()) := by
 refine ghost_eq (Ev.eq (fun _ => E45 _ _ _) ?_)
 rw [L48]
 exact Ev.all fun _ => by first | rfl | trivial
theorem L46 (l : List Int) (hl : l.length < 1000000000000) (n : Int) : F46 ((l, n, ()) : List Int × Int × Unit) = some (decide (n ∈ l), ()) := by
 refine ghost_eq (Ev.eq (fun _ => E46 _ _ _) ?_)
 have key : ∀ (e i : Nat), i + e = l.length → Ev fun k => iter cx45 S46 [.bool] 6000 k 0 K46_0 (((l, (n, ((i : Int), ()))), ()), ()) = some (decide (n ∈ l.drop i), ()) := by
  intro e
  induction e with
  | zero =>
   intro i hi
   refine iter_ev (Ev.eq (fun _ => Q46_0 _ _ _ _) ?_)
   rw [dec_f (by omega), List.drop_eq_nil_of_le (by omega)]
   exact Ev.all fun _ => by simp
  | succ e ih =>
   intro i hi
   refine iter_ev (Ev.eq (fun _ => Q46_0 _ _ _ _) ?_)
   have hlt : i < l.length := by omega
   rw [dec_t (show (i : Int) < (l.length : Int) by omega), dec_t (show (0 : Int) ≤ (i : Int) by omega), Int.toNat_natCast, getD_lt hlt, wrap_succ (n := i) (by omega), List.drop_eq_getElem_cons hlt]
   simp only [Bool.and_self, cond_true]
   by_cases h : l[i] = n
   ·have : (l[i] == n) = true := by simpa using h
    rw [this, dec_t (show n ∈ l[i] :: l.drop (i + 1) by rw [h]; exact List.mem_cons_self ..)]
    exact Ev.all fun _ => by first | rfl | trivial
   ·have : (l[i] == n) = false := by simpa using h
    rw [this]
    have e3 : decide (n ∈ l[i] :: l.drop (i + 1)) = decide (n ∈ l.drop (i + 1)) := decide_eq_decide.2 ⟨fun hm => by
     rcases List.mem_cons.1 hm with e | e
     ·exact absurd e.symm h
     ·exact e, fun hm => List.mem_cons_of_mem _ hm⟩
    rw [e3]
    exact ih (i + 1) (by omega)
 have := key l.length 0 (by omega)
 rw [List.drop_zero] at this
 exact this
theorem L39 (c : Int × List Sp × Unit) : F39 ((c, ()) : (Int × List Sp × Unit) × Unit) = some ((chk c).2.2.1 == 0, ()) := by
 refine ghost_eq (Ev.eq (fun _ => E39 _ _) ?_)
 rw [L19]
 exact Ev.all fun _ => by first | rfl | trivial
def someB (c : Int × List Sp × Unit) : Bool := (chk c).2.2.1 == 0 && alive (spn (c, 0, ()) nob)
theorem some_ok {c : Int × List Sp × Unit} (h : someB c = true) : (chk c).2.2.1 = 0 ∧ Valid c ∧ alive (spn (c, 0, ()) nob) = true := by
 unfold someB at h
 rw [Bool.and_eq_true, beq_iff_eq] at h
 exact ⟨h.1, (chk_ok h.1).1, h.2⟩
theorem some_ent {c : Int × List Sp × Unit} (h : someB c = true) : (ent c 0 0).2.1 = 0 := by
 obtain ⟨h1, _, h3⟩ := some_ok h
 rw [ent_err, if_pos h1, if_pos h3]
theorem truth_range {c : Int × List Sp × Unit} (hv : Valid c) {x : Nat → Int} (hx : Truth (c, 0, ()) nob x) {d : Nat} (hd : d < c.2.1.length) : 0 ≤ x d ∧ x d ≤ 100 := by
 have := hx.own d hd
 exact own_range _ _ hv this.1 this.2
theorem take_any {c : Int × List Sp × Unit} (hv : Valid c) (l : List Sp) (hl : l.length = 12) (p : Sp → Bool) : ((l.take c.2.1.length).any p) = true ↔ ∃ j, j < c.2.1.length ∧ p (l.getD j z0) = true := by
 have h12 := hv.l12
 rw [List.any_eq_true]
 constructor
 ·rintro ⟨s, hs, h⟩
  obtain ⟨j, hj, rfl⟩ := List.mem_iff_getElem.1 hs
  rw [List.length_take] at hj
  refine ⟨j, by omega, ?_⟩
  rw [getD_lt (by omega)]
  rw [List.getElem_take] at h
  exact h
 ·rintro ⟨j, hj, h⟩
  rw [getD_lt (by omega)] at h
  exact ⟨_, List.mem_iff_getElem.2 ⟨j, by rw [List.length_take]; omega, List.getElem_take ..⟩, h⟩
theorem told_char {c : Int × List Sp × Unit} (hv : Valid c) {d : Nat} (hd : d < c.2.1.length) {v : Int} (h0 : 0 ≤ v) (h1 : v ≤ 100) : (alive (spn (c, 0, ()) (d, v, ())) = true → (Truth (c, 0, ()) nob (lows (spn (c, 0, ()) (d, v, ()))) ∧ lows (spn (c, 0, ()) (d, v, ())) d = v) ∧ (Truth (c, 0, ()) nob (highs (spn (c, 0, ()) (d, v, ()))) ∧ highs (spn (c, 0, ()) (d, v, ())) d = v)) ∧
  (∀ x, Truth (c, 0, ()) nob x → x d = v → alive (spn (c, 0, ()) (d, v, ())) = true ∧ ∀ i, i < c.2.1.length → lows (spn (c, 0, ()) (d, v, ())) i ≤ x i ∧ x i ≤ highs (spn (c, 0, ()) (d, v, ())) i) := by
 obtain ⟨s1, s2⟩ := spn_char (c, 0, ()) (d, v, ()) hv (bd_pt h0 h1 d)
 refine ⟨fun h => ?_, fun x hx hxd => ?_⟩
 ·obtain ⟨t1, t2⟩ := s1 h
  exact ⟨(truth_told d hd v _).1 t1, (truth_told d hd v _).1 t2⟩
 ·exact s2 x ((truth_told d hd v x).2 ⟨hx, hxd⟩)
theorem in_many {c : Int × List Sp × Unit} (hv : Valid c) (ha : alive (spn (c, 0, ()) nob) = true) {d : Nat} (hd : d < c.2.1.length) {x : Nat → Int} (hx : Truth (c, 0, ()) nob x) : ((spn (c, 0, ()) nob).getD d z0).1 ≤ x d ∧ x d < ((spn (c, 0, ()) nob).getD d z0).1 + (many (spn (c, 0, ()) nob) d : Int) := by
 have h1 := ((spn_char (c, 0, ()) nob hv bd_nob).2 x hx).2 d hd
 have h2 := many_eq c hv ha hd
 simp only [lows, highs] at h1
 omega
theorem of_many {c : Int × List Sp × Unit} (hv : Valid c) (ha : alive (spn (c, 0, ()) nob) = true) {d : Nat} (hd : d < c.2.1.length) {v : Int} (h1 : ((spn (c, 0, ()) nob).getD d z0).1 ≤ v) (h2 : v < ((spn (c, 0, ()) nob).getD d z0).1 + (many (spn (c, 0, ()) nob) d : Int)) : 0 ≤ v ∧ v ≤ 100 := by
 have h3 := many_eq c hv ha hd
 have h4 := spn_day c hv ha hd
 omega
theorem sureTop_iff {c : Int × List Sp × Unit} (hv : Valid c) (ha : alive (spn (c, 0, ()) nob) = true) {d : Nat} (hd : d < c.2.1.length) : sureTop (c, 0, ()) (spn (c, 0, ()) nob) d = true ↔ ∀ x, Truth (c, 0, ()) nob x → ∀ j, j < c.2.1.length → x j ≤ x d := by
 unfold sureTop
 rw [allN_iff]
 constructor
 ·intro h x hx j hj
  obtain ⟨m1, m2⟩ := in_many hv ha hd hx
  have hr := truth_range hv hx hd
  have ht := h (x d) m1 m2
  obtain ⟨al, bd⟩ := (told_char hv hd hr.1 hr.2).2 x hx rfl
  unfold topS at ht
  rw [al, Bool.true_and, Bool.not_eq_true', ← Bool.not_eq_true, take_any hv _ (spn_bd (c, 0, ()) (d, x d, ()) hv (bd_pt hr.1 hr.2 d)).1] at ht
  have := (bd j hj).2
  apply Classical.byContradiction
  intro hn
  exact ht ⟨j, hj, decide_eq_true (by simp only [highs] at this; omega)⟩
 ·intro h v m1 m2
  have hr := of_many hv ha hd m1 m2
  unfold topS
  cases al : alive (spn (c, 0, ()) (d, v, ())) with
  | false => rfl
  | true =>
   obtain ⟨_, t2, e2⟩ := (told_char hv hd hr.1 hr.2).1 al
   rw [Bool.true_and, Bool.not_eq_true', ← Bool.not_eq_true, take_any hv _ (spn_bd (c, 0, ()) (d, v, ()) hv (bd_pt hr.1 hr.2 d)).1]
   rintro ⟨j, hj, hp⟩
   have h1 := h _ t2 j hj
   have h2 := of_decide_eq_true hp
   rw [e2] at h1
   simp only [highs] at h1
   omega
theorem mayTop_iff {c : Int × List Sp × Unit} (hv : Valid c) (ha : alive (spn (c, 0, ()) nob) = true) {d : Nat} (hd : d < c.2.1.length) : mayTop (c, 0, ()) (spn (c, 0, ()) nob) d = true ↔ ∃ x, Truth (c, 0, ()) nob x ∧ ∀ j, j < c.2.1.length → x j ≤ x d := by
 unfold mayTop
 rw [anyN_iff]
 constructor
 ·rintro ⟨v, m1, m2, ht⟩
  have hr := of_many hv ha hd m1 m2
  unfold topM at ht
  rw [Bool.and_eq_true] at ht
  obtain ⟨⟨t1, e1⟩, _⟩ := (told_char hv hd hr.1 hr.2).1 ht.1
  refine ⟨_, t1, fun j hj => ?_⟩
  have h2 := ht.2
  rw [Bool.not_eq_true', ← Bool.not_eq_true, take_any hv _ (spn_bd (c, 0, ()) (d, v, ()) hv (bd_pt hr.1 hr.2 d)).1] at h2
  rw [e1]
  apply Classical.byContradiction
  intro hn
  exact h2 ⟨j, hj, decide_eq_true (by simp only [lows] at hn; omega)⟩
 ·rintro ⟨x, hx, h⟩
  obtain ⟨m1, m2⟩ := in_many hv ha hd hx
  have hr := truth_range hv hx hd
  obtain ⟨al, bd⟩ := (told_char hv hd hr.1 hr.2).2 x hx rfl
  refine ⟨x d, m1, m2, ?_⟩
  unfold topM
  rw [al, Bool.true_and, Bool.not_eq_true', ← Bool.not_eq_true, take_any hv _ (spn_bd (c, 0, ()) (d, x d, ()) hv (bd_pt hr.1 hr.2 d)).1]
  rintro ⟨j, hj, hp⟩
  have h1 := (bd j hj).1
  have h2 := of_decide_eq_true hp
  have h3 := h j hj
  simp only [lows] at h1
  omega
theorem sureRise_iff {c : Int × List Sp × Unit} (hv : Valid c) (ha : alive (spn (c, 0, ()) nob) = true) {d : Nat} (hd : d < c.2.1.length) : sureRise (c, 0, ()) (spn (c, 0, ()) nob) d = true ↔ 1 ≤ d ∧ ∀ x, Truth (c, 0, ()) nob x → x (d - 1) < x d := by
 unfold sureRise
 rw [Bool.and_eq_true, decide_eq_true_eq, allN_iff]
 constructor
 ·rintro ⟨h1, h⟩
  refine ⟨h1, fun x hx => ?_⟩
  obtain ⟨m1, m2⟩ := in_many hv ha hd hx
  have hr := truth_range hv hx hd
  have ht := h (x d) m1 m2
  obtain ⟨al, bd⟩ := (told_char hv hd hr.1 hr.2).2 x hx rfl
  unfold riseS at ht
  rw [al, Bool.true_and, Bool.not_eq_true', decide_eq_false_iff_not] at ht
  have := (bd (d - 1) (by omega)).2
  simp only [highs] at this
  omega
 ·rintro ⟨h1, h⟩
  refine ⟨h1, fun v m1 m2 => ?_⟩
  have hr := of_many hv ha hd m1 m2
  unfold riseS
  cases al : alive (spn (c, 0, ()) (d, v, ())) with
  | false => rfl
  | true =>
   obtain ⟨_, t2, e2⟩ := (told_char hv hd hr.1 hr.2).1 al
   have := h _ t2
   rw [e2] at this
   simp only [highs] at this
   rw [Bool.true_and, Bool.not_eq_true', decide_eq_false_iff_not]
   omega
theorem mayRise_iff {c : Int × List Sp × Unit} (hv : Valid c) (ha : alive (spn (c, 0, ()) nob) = true) {d : Nat} (hd : d < c.2.1.length) : mayRise (c, 0, ()) (spn (c, 0, ()) nob) d = true ↔ 1 ≤ d ∧ ∃ x, Truth (c, 0, ()) nob x ∧ x (d - 1) < x d := by
 unfold mayRise
 rw [Bool.and_eq_true, decide_eq_true_eq, anyN_iff]
 constructor
 ·rintro ⟨h1, v, m1, m2, ht⟩
  have hr := of_many hv ha hd m1 m2
  unfold riseM at ht
  rw [Bool.and_eq_true, decide_eq_true_eq] at ht
  obtain ⟨⟨t1, e1⟩, _⟩ := (told_char hv hd hr.1 hr.2).1 ht.1
  refine ⟨h1, _, t1, ?_⟩
  rw [e1]
  simp only [lows]
  omega
 ·rintro ⟨h1, x, hx, h⟩
  obtain ⟨m1, m2⟩ := in_many hv ha hd hx
  have hr := truth_range hv hx hd
  obtain ⟨al, bd⟩ := (told_char hv hd hr.1 hr.2).2 x hx rfl
  refine ⟨h1, x d, m1, m2, ?_⟩
  unfold riseM
  rw [al, Bool.true_and, decide_eq_true_eq]
  have := (bd (d - 1) (by omega)).1
  simp only [lows] at this
  omega
end Go.Proofs.YtjigflnjgmgmnaaDoor
/- States at the cuts of the outright statements. Conditions: none. -/
namespace Go.Proofs.YtjigflnjgmgmnaaDoor
open Go Go.Gh Go.Proofs
noncomputable abbrev T9_0 (t7 : (List Int)) (t14 : (List Int)) (t15 : (List Int)) (t17 : (List Int)) (t18 : (List Int)) (t20 : Int) (t21 : Int) (t22 : Int) (h0 : (Int × (List (Int × Int × Unit)) × Unit)) (h1 : (Int × Int × Unit)) (h2 : (Int × Int × Unit)) (f : Nat) : Option (denL [.bool]) := iter cx49 S9 [.bool] 6000 f 0 K9_0 (((t7, ((), ((), ((), (t14, (t15, (t17, (t18, (t20, (t21, (t22, ()))))))))))), ()), (h0, (h1, (h2, ()))))
theorem U9_0 (t7 : (List Int)) (t14 : (List Int)) (t15 : (List Int)) (t17 : (List Int)) (t18 : (List Int)) (t20 : Int) (t21 : Int) (t22 : Int) (h0 : (Int × (List (Int × Int × Unit)) × Unit)) (h1 : (Int × Int × Unit)) (h2 : (Int × Int × Unit)) {y : denL [.bool]} (h : Ev fun k => seg cx49 S9 [.bool] 6000 some (iter cx49 S9 [.bool] 6000 k) 0 K9_0 (((t7, ((), ((), ((), (t14, (t15, (t17, (t18, (t20, (t21, (t22, ()))))))))))), ()), (h0, (h1, (h2, ())))) = some y) : Ev fun k => T9_0 t7 t14 t15 t17 t18 t20 t21 t22 h0 h1 h2 k = some y := iter_ev h
noncomputable abbrev T9_1 (t7 : (List Int)) (t14 : (List Int)) (t15 : (List Int)) (t17 : (List Int)) (t18 : (List Int)) (t21 : Int) (t24 : Int) (h0 : (Int × (List (Int × Int × Unit)) × Unit)) (f : Nat) : Option (denL [.bool]) := iter cx49 S9 [.bool] 6000 f 1 K9_1 (((t7, ((), (t14, (t15, (t17, (t18, (t21, (t24, ())))))))), ()), (h0, ()))
theorem U9_1 (t7 : (List Int)) (t14 : (List Int)) (t15 : (List Int)) (t17 : (List Int)) (t18 : (List Int)) (t21 : Int) (t24 : Int) (h0 : (Int × (List (Int × Int × Unit)) × Unit)) {y : denL [.bool]} (h : Ev fun k => seg cx49 S9 [.bool] 6000 some (iter cx49 S9 [.bool] 6000 k) 1 K9_1 (((t7, ((), (t14, (t15, (t17, (t18, (t21, (t24, ())))))))), ()), (h0, ())) = some y) : Ev fun k => T9_1 t7 t14 t15 t17 t18 t21 t24 h0 k = some y := iter_ev h
end Go.Proofs.YtjigflnjgmgmnaaDoor
/- CloudFewest returns true. Conditions: as each lemma states. -/
namespace Go.Proofs.YtjigflnjgmgmnaaDoor
open Go Go.Gh Go.Proofs Go.Few
theorem chkFrom_of : ∀ (l : List Sp) (i h : Int), (∀ d ∈ l, 0 ≤ d.1 ∧ d.1 ≤ 3 ∧ 0 ≤ d.2.1 ∧ d.2.1 ≤ 100 ∧ (d.1 = 0 → d.2.1 = 0)) → h + (l.countP fun d => d.1 == 3 : Nat) ≤ 5 → (chkFrom l i h).2.2.1 = 0
 | [], _, _, _, _ => rfl
 | d :: ds, i, h, hd, hc => by
  have h1 := hd d (List.mem_cons_self ..)
  rw [List.countP_cons] at hc
  unfold chkFrom
  rw [if_neg (by omega), if_neg (by intro ⟨a, b⟩; exact b (h1.2.2.2.2 a))]
  by_cases e : d.1 = 3
  ·rw [if_pos (by simpa using e)] at hc
   simp only [if_pos e]
   rw [if_neg (by omega)]
   exact chkFrom_of ds _ _ (fun x hx => hd x (List.mem_cons_of_mem _ hx)) (by omega)
  ·rw [if_neg (by simpa using e)] at hc
   simp only [if_neg e]
   rw [if_neg (by omega)]
   exact chkFrom_of ds _ _ (fun x hx => hd x (List.mem_cons_of_mem _ hx)) (by omega)
theorem chk_iff (c : Int × List Sp × Unit) : (chk c).2.2.1 = 0 ↔ Valid c ∧ (∀ d ∈ c.2.1, d.1 = 0 → d.2.1 = 0) ∧ (c.2.1.countP fun d => d.1 == 3) ≤ 5 := by
 constructor
 ·intro h
  obtain ⟨h1, h2⟩ := chk_ok h
  have h3 := hopes_le h
  have e : (numsL (isHope c) c.2.1.length).length = c.2.1.countP fun d => d.1 == 3 := numsL_count (fun d => d.1 == 3) c.2.1
  exact ⟨h1, h2, by omega⟩
 ·rintro ⟨h1, h2, h3⟩
  have a := h1.s0
  have b := h1.s20
  have c1 := h1.l1
  have c2 := h1.l12
  unfold chk
  rw [if_neg (by omega), if_neg (by omega)]
  exact chkFrom_of _ _ _ (fun d hd => by have := h1.day d hd; exact ⟨this.1, this.2.1, this.2.2.1, this.2.2.2, h2 d hd⟩) (by omega)
theorem count_set (q : Sp → Bool) (z : Sp) (hz : q z = false) : ∀ (l : List Sp) (i : Nat), (l.set i z).countP q ≤ l.countP q
 | [], _ => by simp
 | d :: l, 0 => by rw [List.set_cons_zero, List.countP_cons, List.countP_cons, hz]; simp
 | d :: l, i + 1 => by
  rw [List.set_cons_succ, List.countP_cons, List.countP_cons]
  have := count_set q z hz l i
  omega
def okB (c : Int × List Sp × Unit) (l : List Int) : Bool := alive (spn (butC c l, 0, ()) nob)
theorem wrong_spec {c : Int × List Sp × Unit} (h : (chk c).2.2.1 = 0) : (∃ r, wrongP c = (r, 0, ()) ∧ Best (fun l => l.Sublist (numsL (isHope c) c.2.1.length) ∧ okB c l = true) r) ∨ (wrongP c = ([], 9, ()) ∧ ∀ l, l.Sublist (numsL (isHope c) c.2.1.length) → okB c l = false) := by
 have hin : ∀ x ∈ numsL (isHope c) c.2.1.length, 0 ≤ x ∧ x < (c.2.1.length : Int) := by
  intro x hx
  obtain ⟨n, h1, _, rfl⟩ := numsL_mem.1 hx
  omega
 unfold wrongP
 rw [if_neg (by simpa using h), wrongN_scan, ← List.range_eq_range']
 generalize numsL (isHope c) c.2.1.length = hs at *
 obtain ⟨q1, q2⟩ := scan_best (fun l => alive (spn (c, (bitsL l : Int), ()) nob)) (byBits hs)
 unfold byBits at q1 q2
 have e : ∀ l, (l ∈ byBits hs ∧ alive (spn (c, (bitsL l : Int), ()) nob) = true) ↔ (l.Sublist hs ∧ okB c l = true) := fun l => by
  rw [mem_byBits]
  constructor
  ·rintro ⟨a, b⟩
   exact ⟨a, by rw [okB, ← spn_but c l fun x hx => hin x (a.subset hx)]; exact b⟩
  ·rintro ⟨a, b⟩
   exact ⟨a, by rw [spn_but c l fun x hx => hin x (a.subset hx)]; exact b⟩
 unfold byBits at e
 cases hf : (scan (fun l => alive (spn (c, (bitsL l : Int), ()) nob)) ((List.range (2 ^ hs.length)).map fun s => selB hs s hs.length) [] false).2 with
 | true => exact .inl ⟨_, if_pos rfl, (q1 hf).iff e⟩
 | false =>
  refine .inr ⟨if_neg (by decide), fun l hl => ?_⟩
  cases ho : okB c l with
  | false => rfl
  | true =>
   have h3 := (e l).2 ⟨hl, ho⟩
   have := q2 hf l h3.1
   rw [this] at h3
   cases h3.2
end Go.Proofs.YtjigflnjgmgmnaaDoor
/- CloudSteps and CloudRises return true. Conditions: as each lemma states. -/
namespace Go.Proofs.YtjigflnjgmgmnaaDoor
open Go Go.Gh Go.Proofs
theorem ent_zero {c : Int × List Sp × Unit} (h : someB c = true) {d : Nat} (hd : d < c.2.1.length) : ent c d 0 = (some (c, 0, ()), 0, ()) := by
 obtain ⟨h1, h2, h3⟩ := some_ok h
 unfold ent
 rw [if_neg (by simpa using h1), if_neg (by omega), if_neg (by omega), if_pos h3]
theorem num_some {c : Int × List Sp × Unit} (h : someB c = true) {d : Nat} (hd : d < c.2.1.length) : numP c d = ((spn (c, 0, ()) nob).getD d z0, 0, ()) := by
 unfold numP
 rw [ent_zero h hd, if_neg (fun h => h rfl), Int.toNat_natCast]
theorem tops_some {c : Int × List Sp × Unit} (h : someB c = true) : topsP c = (numsL (sureTop (c, 0, ()) (spn (c, 0, ()) nob)) c.2.1.length, numsL (mayTop (c, 0, ()) (spn (c, 0, ()) nob)) c.2.1.length, 0, ()) := by
 unfold topsP
 rw [if_neg (by simpa using some_ent h)]
theorem rises_some {c : Int × List Sp × Unit} (h : someB c = true) : risesP c = (numsL (sureRise (c, 0, ()) (spn (c, 0, ()) nob)) c.2.1.length, numsL (mayRise (c, 0, ()) (spn (c, 0, ()) nob)) c.2.1.length, 0, ()) := by
 unfold risesP
 rw [if_neg (by simpa using some_ent h)]
theorem in_nums {p : Nat → Bool} {k d : Nat} (hd : d < k) : decide ((d : Int) ∈ numsL p k) = p d := by
 rw [Bool.eq_iff_iff, decide_eq_true_eq, numsL_mem]
 constructor
 ·rintro ⟨n, _, h, e⟩
  have : n = d := by omega
  rw [← this]; exact h
 ·intro h; exact ⟨d, hd, h, rfl⟩
end Go.Proofs.YtjigflnjgmgmnaaDoor
/- CloudBack returns true. Conditions: as each lemma states. -/
namespace Go.Proofs.YtjigflnjgmgmnaaDoor
open Go Go.Gh Go.Proofs
end Go.Proofs.YtjigflnjgmgmnaaDoor
/- CloudAsked returns true. Conditions: as each lemma states. -/
namespace Go.Proofs.YtjigflnjgmgmnaaDoor
open Go Go.Gh Go.Proofs
structure AskOK (f : Nat → Int) (d n : Nat) (day left : Int) (r : Int × Int) : Prop where
 all : ∀ k, d ≤ k → k < n → r.2 ≤ f k
 is : r = (day, left) ∨ ∃ k : Nat, d ≤ k ∧ k < n ∧ r = ((k : Int), f k) ∧ f k < left ∧ ∀ j, d ≤ j → j < k → f k < f j
end Go.Proofs.YtjigflnjgmgmnaaDoor
/- CloudMore returns true. Conditions: as each lemma states. -/
namespace Go.Proofs.YtjigflnjgmgmnaaDoor
open Go Go.Gh Go.Proofs
theorem sumX_cap {x : Nat → Int} : ∀ {i : Nat}, (∀ j, j ≤ i → 0 ≤ x j ∧ x j ≤ 100) → 0 ≤ sumX x i ∧ sumX x i ≤ 100 * ((i : Int) + 1)
 | 0, h => by have := h 0 (Nat.le_refl _); simp only [sumX]; omega
 | i + 1, h => by
  have h1 := sumX_cap (i := i) fun j hj => h j (by omega)
  have h2 := h (i + 1) (Nat.le_refl _)
  simp only [sumX]
  omega
theorem sums_cap {c : Int × List Sp × Unit} (hv : Valid c) (ha : alive (spn (c, 0, ()) nob) = true) : 0 ≤ (sums (c, 0, ()) nob).1 ∧ (sums (c, 0, ()) nob).1 ≤ 100 * (c.2.1.length : Int) ∧ 0 ≤ (sums (c, 0, ()) nob).2.1 ∧ (sums (c, 0, ()) nob).2.1 ≤ 100 * (c.2.1.length : Int) := by
 have hl := hv.l1
 obtain ⟨t1, t2⟩ := (spn_char (c, 0, ()) nob hv bd_nob).1 ha
 have q1 := sumX_cap (x := lows (spn (c, 0, ()) nob)) (i := c.2.1.length - 1) fun j hj => truth_range hv t1 (by omega)
 have q2 := sumX_cap (x := highs (spn (c, 0, ()) nob)) (i := c.2.1.length - 1) fun j hj => truth_range hv t2 (by omega)
 rw [sums_X (c, 0, ()) nob hv bd_nob]
 simp only
 omega
theorem L42 (a : Int) (n : Nat) (hn : 1 ≤ n) (h12 : n ≤ 12) (h0 : 0 ≤ a) (h1 : a ≤ 100 * (n : Int)) : F42 ((lowP a n, (n : Int), ()) : Sp × Int × Unit) = some (true, ()) := by
 obtain ⟨b, rfl⟩ := Int.eq_ofNat_of_zero_le h0
 refine ghost_eq (Ev.eq (fun _ => E42 _ _ _) ?_)
 rw [wrap_id (by omega) (by omega), L48, L48]
 have hg : 0 < Nat.gcd b n := Nat.gcd_pos_of_pos_right _ hn
 have hdvd := Nat.gcd_dvd_right b n
 have e : lowP (b : Int) (n : Int) = (((b / Nat.gcd b n : Nat) : Int), ((n / Nat.gcd b n : Nat) : Int), ()) := by simp [lowP]
 have l1 : b / Nat.gcd b n ≤ b := Nat.div_le_self _ _
 have l2 : n / Nat.gcd b n ≤ n := Nat.div_le_self _ _
 have l3 : 0 < n / Nat.gcd b n := Nat.div_pos (Nat.le_of_dvd (by omega) hdvd) hg
 rw [e]
 generalize b / Nat.gcd b n = u at *
 generalize n / Nat.gcd b n = v at *
 simp only [Option.bind_some]
 rw [dec_t (by omega), dec_t (by omega), dec_t (by omega), dec_t (by omega)]
 exact Ev.all fun _ => by first | rfl | trivial
theorem L114 (a b : Int) (n : Nat) (hn : 1 ≤ n) (h12 : n ≤ 12) (ha : 0 ≤ a) (ha1 : a ≤ 100 * (n : Int)) (hb : 0 ≤ b) (hb1 : b ≤ 100 * (n : Int)) : F114 ((lowP a n, lowP b n, ()) : Sp × Sp × Unit) = some (decide (a < b), ()) := by
 obtain ⟨p, rfl⟩ := Int.eq_ofNat_of_zero_le ha
 obtain ⟨q, rfl⟩ := Int.eq_ofNat_of_zero_le hb
 refine ghost_eq (Ev.eq (fun _ => E114 _ _ _) ?_)
 have e1 : lowP (p : Int) (n : Int) = (((p / Nat.gcd p n : Nat) : Int), ((n / Nat.gcd p n : Nat) : Int), ()) := by simp [lowP]
 have e2 : lowP (q : Int) (n : Int) = (((q / Nat.gcd q n : Nat) : Int), ((n / Nat.gcd q n : Nat) : Int), ()) := by simp [lowP]
 have g1 : 0 < Nat.gcd p n := Nat.gcd_pos_of_pos_right _ hn
 have g2 : 0 < Nat.gcd q n := Nat.gcd_pos_of_pos_right _ hn
 have d1 : Nat.gcd p n * (p / Nat.gcd p n) = p := Nat.mul_div_cancel' (Nat.gcd_dvd_left p n)
 have d2 : Nat.gcd p n * (n / Nat.gcd p n) = n := Nat.mul_div_cancel' (Nat.gcd_dvd_right p n)
 have d3 : Nat.gcd q n * (q / Nat.gcd q n) = q := Nat.mul_div_cancel' (Nat.gcd_dvd_left q n)
 have d4 : Nat.gcd q n * (n / Nat.gcd q n) = n := Nat.mul_div_cancel' (Nat.gcd_dvd_right q n)
 have l1 : p / Nat.gcd p n ≤ p := Nat.div_le_self _ _
 have l2 : n / Nat.gcd p n ≤ n := Nat.div_le_self _ _
 have l3 : q / Nat.gcd q n ≤ q := Nat.div_le_self _ _
 have l4 : n / Nat.gcd q n ≤ n := Nat.div_le_self _ _
 rw [e1, e2]
 generalize Nat.gcd p n = g at *
 generalize Nat.gcd q n = h at *
 generalize p / g = p1 at *
 generalize q / h = q1 at *
 generalize n / g = n1 at *
 generalize n / h = n2 at *
 simp only
 have m1 : p1 * n2 ≤ 1200 * 12 := Nat.mul_le_mul (by omega) (by omega)
 have m2 : q1 * n1 ≤ 1200 * 12 := Nat.mul_le_mul (by omega) (by omega)
 have c1 : ((p1 : Int) * (n2 : Int)) = ((p1 * n2 : Nat) : Int) := by simp
 have c2 : ((q1 : Int) * (n1 : Int)) = ((q1 * n1 : Nat) : Int) := by simp
 rw [c1, c2, wrap_id (by omega) (by omega), wrap_id (by omega) (by omega)]
 have key : p1 * n2 < q1 * n1 ↔ p < q := by
  have hgh : 0 < g * h := Nat.mul_pos g1 g2
  have s1 : (g * h) * (p1 * n2) = p * n := by rw [← d1, ← d4, Nat.mul_mul_mul_comm]
  have s2 : (g * h) * (q1 * n1) = q * n := by rw [Nat.mul_comm g h, Nat.mul_mul_mul_comm, d3, d2]
  rw [← Nat.mul_lt_mul_left hgh, s1, s2]
  exact Nat.mul_lt_mul_right (by omega)
 have : decide (((p1 * n2 : Nat) : Int) < ((q1 * n1 : Nat) : Int)) = decide ((p : Int) < (q : Int)) := decide_eq_decide.2 (by omega)
 rw [this]
 exact Ev.all fun _ => by first | rfl | trivial
theorem L44 (a b u v : Int) (n : Nat) (hn : 1 ≤ n) (h12 : n ≤ 12) (ha : 0 ≤ a) (ha1 : a ≤ 100 * (n : Int)) (hb : 0 ≤ b) (hb1 : b ≤ 100 * (n : Int)) (hu : 0 ≤ u) (hu1 : u ≤ 100 * (n : Int)) (hv : 0 ≤ v) (hv1 : v ≤ 100 * (n : Int)) (h1 : u ≤ a) (h2 : b ≤ v) : F44 ((lowP a n, lowP b n, lowP u n, lowP v n, ()) : Sp × Sp × Sp × Sp × Unit) = some (true, ()) := by
 refine ghost_eq (Ev.eq (fun _ => E44 _ _ _ _ _) ?_)
 rw [L114 a u n hn h12 ha ha1 hu hu1, L114 v b n hn h12 hv hv1 hb hb1, dec_f (by omega), dec_f (by omega)]
 exact Ev.all fun _ => by first | rfl | trivial
theorem month_some {c : Int × List Sp × Unit} (h : someB c = true) : monthP c = (lowP (sums (c, 0, ()) nob).1 c.2.1.length, lowP (sums (c, 0, ()) nob).2.1 c.2.1.length, 0, ()) := by
 unfold monthP
 rw [if_neg (by simpa using some_ent h)]
 rfl
end Go.Proofs.YtjigflnjgmgmnaaDoor
