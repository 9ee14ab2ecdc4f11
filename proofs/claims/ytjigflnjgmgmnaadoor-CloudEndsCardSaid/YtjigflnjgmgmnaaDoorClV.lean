/- What the first functions of the reference come to. Conditions: as each lemma states. -/
import Derived.Test.YtjigflnjgmgmnaaDoorClL
import Derived.Test.YtjigflnjgmgmnaaDoorClC
namespace Go.Proofs.YtjigflnjgmgmnaaDoor
open Go Go.Gh Go.Proofs
theorem L48 (n lo hi : Int) : F48 ((n, lo, hi, ()) : Int × Int × Int × Unit) = some (decide (lo ≤ n) && decide (n ≤ hi), ()) := by
 refine ghost_eq (Ev.eq (fun _ => E48 _ _ _ _) (Ev.all fun _ => ?_))
 cases decide (lo ≤ n) <;> rfl
def wideP (s : Sp) (n : Int) : Sp := (if s.1 < n then s.1 else n, if s.2.1 > n then s.2.1 else n, ())
theorem L117 (s : Sp) (n : Int) : F117 ((s, n, ()) : Sp × Int × Unit) = some (wideP s n, ()) := ghost_eq (Ev.eq (fun _ => E117 _ _ _) (Ev.all fun _ => by first | rfl | trivial))
def canB (d : Sp) (n : Int) : Bool := if d.1 = 0 then true else if d.1 = 1 then decide (n ≥ d.2.1) else n == d.2.1
theorem L56 (d : Sp) (n : Int) : F56 ((d, n, ()) : Sp × Int × Unit) = some (canB d n, ()) := by
 refine ghost_eq (Ev.eq (fun _ => E56 _ _ _) (Ev.all fun _ => ?_))
 unfold canB
 by_cases h0 : d.1 = 0
 ·simp [h0]
 ·have : (d.1 == 0) = false := by simpa using h0
  simp only [this, cond_false, if_neg h0]
  by_cases h1 : d.1 = 1
  ·simp [h1]
  ·have : (d.1 == 1) = false := by simpa using h1
   simp only [this, cond_false, if_neg h1]
theorem L19 (m : Int × List Sp × Unit) : F19 ((m, ()) : (Int × List Sp × Unit) × Unit) = some (chk m) := by
 refine ghost_eq (Ev.eq (fun _ => E19 _ m) ?_)
 rw [L48, L48]
 simp only [Option.bind_some]
 unfold chk
 by_cases h1 : m.1 < 0 ∨ m.1 > 20
 ·have : (!(decide (0 ≤ m.1) && decide (m.1 ≤ 20))) = true := by
   rcases h1 with h | h
   ·rw [dec_f (show ¬ (0 ≤ m.1) by omega)]; rfl
   ·rw [dec_f (show ¬ (m.1 ≤ 20) by omega), Bool.and_false]; rfl
  simp only [this, cond_true, if_pos h1]
  exact Ev.all fun _ => by first | rfl | trivial
 ·have : (!(decide (0 ≤ m.1) && decide (m.1 ≤ 20))) = false := by rw [dec_t (show 0 ≤ m.1 by omega), dec_t (show m.1 ≤ 20 by omega)]; rfl
  simp only [this, cond_false, if_neg h1]
  by_cases h2 : (m.2.1.length : Int) < 1 ∨ (m.2.1.length : Int) > 12
  ·have : (!(decide (1 ≤ (m.2.1.length : Int)) && decide ((m.2.1.length : Int) ≤ 12))) = true := by
    rcases h2 with h | h
    ·rw [dec_f (show ¬ (1 ≤ (m.2.1.length : Int)) by omega)]; rfl
    ·rw [dec_f (show ¬ ((m.2.1.length : Int) ≤ 12) by omega), Bool.and_false]; rfl
   simp only [this, cond_true, if_pos h2]
   exact Ev.all fun _ => by first | rfl | trivial
  ·have : (!(decide (1 ≤ (m.2.1.length : Int)) && decide ((m.2.1.length : Int) ≤ 12))) = false := by rw [dec_t (show 1 ≤ (m.2.1.length : Int) by omega), dec_t (show (m.2.1.length : Int) ≤ 12 by omega)]; rfl
   simp only [this, cond_false, if_neg h2]
   have key : ∀ (c i : Nat) (h : Int), i + c = m.2.1.length → 0 ≤ h → h ≤ i → Ev fun k => iter cx56 S19 [(.int .i64), (.int .i64), (.int .i64)] 6000 k 0 K19_0 ((((), (h, ((i : Int), ()))), ()), (m, ())) = some (chkFrom (m.2.1.drop i) i h) := by
    intro c
    induction c with
    | zero =>
     intro i h hi _ _
     refine iter_ev (Ev.eq (fun _ => Q19_0 _ _ _ _) ?_)
     rw [dec_f (by omega), List.drop_eq_nil_of_le (by omega)]
     exact Ev.all fun _ => by first | rfl | trivial
    | succ c ih =>
     intro i h hi hh1 hh2
     have hlt : i < m.2.1.length := by omega
     refine iter_ev (Ev.eq (fun _ => Q19_0 _ _ _ _) ?_)
     have e1 : ((i : Int) < (m.2.1.length : Int)) := by omega
     have e2 : (0 : Int) ≤ (i : Int) := by omega
     have e3 : IntKind.wrap IntKind.i64 ((i : Int) + 1) = ((i + 1 : Nat) : Int) := by rw [wrap_id (by omega) (by omega)]; omega
     have e4 : IntKind.wrap IntKind.i64 (h + 1) = h + 1 := wrap_id (by omega) (by omega)
     have hg : m.2.1.getD (Int.toNat (i : Int)) (0, 0, ()) = m.2.1[i] := by simp [List.getD_eq_getElem?_getD, hlt]
     rw [hg, L48, L48]
     simp only [dec_t e1, dec_t e2, e3, e4, cond_true, Bool.and_self, Option.bind_some]
     rw [List.drop_eq_getElem_cons hlt]
     generalize m.2.1[i] = d
     unfold chkFrom
     by_cases b1 : d.1 < 0 ∨ d.1 > 3
     ·have : (!(decide (0 ≤ d.1) && decide (d.1 ≤ 3))) = true := by
       rcases b1 with h | h
       ·rw [dec_f (show ¬ (0 ≤ d.1) by omega)]; rfl
       ·rw [dec_f (show ¬ (d.1 ≤ 3) by omega), Bool.and_false]; rfl
      simp only [this, cond_true]
      rw [if_pos (by omega)]
      exact Ev.all fun _ => by first | rfl | trivial
     ·have : (!(decide (0 ≤ d.1) && decide (d.1 ≤ 3))) = false := by rw [dec_t (show 0 ≤ d.1 by omega), dec_t (show d.1 ≤ 3 by omega)]; rfl
      simp only [this, cond_false]
      by_cases b2 : d.2.1 < 0 ∨ d.2.1 > 100
      ·have : (!(decide (0 ≤ d.2.1) && decide (d.2.1 ≤ 100))) = true := by
        rcases b2 with h | h
        ·rw [dec_f (show ¬ (0 ≤ d.2.1) by omega)]; rfl
        ·rw [dec_f (show ¬ (d.2.1 ≤ 100) by omega), Bool.and_false]; rfl
       simp only [this, cond_true]
       rw [if_pos (by omega)]
       exact Ev.all fun _ => by first | rfl | trivial
      ·have : (!(decide (0 ≤ d.2.1) && decide (d.2.1 ≤ 100))) = false := by rw [dec_t (show 0 ≤ d.2.1 by omega), dec_t (show d.2.1 ≤ 100 by omega)]; rfl
       simp only [this, cond_false]
       rw [if_neg (by omega)]
       have ih1 := ih (i + 1) (h + 1) (by omega) (by omega) (by omega)
       have ih2 := ih (i + 1) h (by omega) (by omega) (by omega)
       have tail : ∀ (b3 : Bool), (d.1 = 3 ↔ b3 = true) → Ev fun k => (bif b3 then bif decide (h + 1 > 5) then some (2, (i : Int), 3, ()) else iter cx56 S19 [(.int .i64), (.int .i64), (.int .i64)] 6000 k 0 K19_0 ((((), (h + 1, (((i + 1 : Nat) : Int), ()))), ()), (m, ()))
         else bif decide (h > 5) then some (2, (i : Int), 3, ()) else iter cx56 S19 [(.int .i64), (.int .i64), (.int .i64)] 6000 k 0 K19_0 ((((), (h, (((i + 1 : Nat) : Int), ()))), ()), (m, ()))) =
         some (if (if d.1 = 3 then h + 1 else h) > 5 then (2, (i : Int), 3, ()) else chkFrom (m.2.1.drop (i + 1)) ((i : Int) + 1) (if d.1 = 3 then h + 1 else h)) := by
        intro b3 hb3
        cases b3 with
        | true =>
         have hd := hb3.2 rfl
         simp only [cond_true, if_pos hd]
         by_cases b4 : h + 1 > 5
         ·simp only [dec_t b4, cond_true, if_pos b4]; exact Ev.all fun _ => by first | rfl | trivial
         ·simp only [dec_f b4, cond_false, if_neg b4]
          simpa using ih1
        | false =>
         have hd : ¬ d.1 = 3 := fun e => by have := hb3.1 e; cases this
         simp only [cond_false, if_neg hd]
         by_cases b4 : h > 5
         ·simp only [dec_t b4, cond_true, if_pos b4]; exact Ev.all fun _ => by first | rfl | trivial
         ·simp only [dec_f b4, cond_false, if_neg b4]
          simpa using ih2
       have htail := tail (d.1 == 3) (by simp)
       by_cases b0 : d.1 = 0
       ·have e0 : (d.1 == 0) = true := by simpa using b0
        simp only [e0, cond_true]
        by_cases b5 : d.2.1 = 0
        ·have : (d.2.1 != 0) = false := by simp [b5]
         simp only [this, cond_false]
         rw [if_neg (by omega)]
         exact htail
        ·have : (d.2.1 != 0) = true := by simpa using b5
         simp only [this, cond_true]
         rw [if_pos (by omega)]
         exact Ev.all fun _ => by first | rfl | trivial
       ·have e0 : (d.1 == 0) = false := by simpa using b0
        simp only [e0, cond_false]
        rw [if_neg (by omega)]
        exact htail
   have := key m.2.1.length 0 0 (by omega) (by omega) (by omega)
   simpa using this
abbrev Su := List Bool × List Sp × Unit
def su0 : Su := (List.replicate 101 false, List.replicate 101 (0, 0, ()), ())
def Pre (c : Int × List Sp × Unit) : Nat → Int → Int → Prop
 | 0, v, s => canB (c.2.1.getD 0 z0) v = true ∧ 0 ≤ v ∧ v ≤ 100 ∧ s = v
 | i + 1, v, s => canB (c.2.1.getD (i + 1) z0) v = true ∧ 0 ≤ v ∧ v ≤ 100 ∧ ∃ k s', Pre c i k s' ∧ v - k ≤ c.1 ∧ k - v ≤ c.1 ∧ s = s' + v
theorem Pre.bounds {c : Int × List Sp × Unit} : ∀ {i : Nat} {v s : Int}, Pre c i v s → 0 ≤ v ∧ v ≤ 100 ∧ 0 ≤ s ∧ s ≤ 100 * ((i : Int) + 1)
 | 0, v, s, h => by unfold Pre at h; omega
 | i + 1, v, s, h => by
  unfold Pre at h
  obtain ⟨_, h1, h2, k, s', h3, _, _, h4⟩ := h
  have := h3.bounds
  omega
structure Part (Q : Int → Prop) (b : Bool) (w : Sp) : Prop where
 ex : b = true ↔ ∃ s, Q s
 lo : b = true → Q w.1
 hi : b = true → Q w.2.1
 all : ∀ s, Q s → w.1 ≤ s ∧ s ≤ w.2.1
theorem Part.iff {Q Q' : Int → Prop} {b : Bool} {w : Sp} (h : Part Q b w) (e : ∀ s, Q s ↔ Q' s) : Part Q' b w :=
 ⟨h.ex.trans ⟨fun ⟨s, q⟩ => ⟨s, (e s).1 q⟩, fun ⟨s, q⟩ => ⟨s, (e s).2 q⟩⟩, fun hb => (e _).1 (h.lo hb), fun hb => (e _).1 (h.hi hb), fun s q => h.all s ((e s).2 q)⟩
theorem Part.none {Q : Int → Prop} {w : Sp} (h : ∀ s, ¬ Q s) : Part Q false w :=
 ⟨⟨fun h => (by cases h), fun ⟨s, q⟩ => absurd q (h s)⟩, fun h => (by cases h), fun h => (by cases h), fun s q => absurd q (h s)⟩
theorem pick3 {Q Q' : Int → Prop} {w a1 a2 : Int} (hw : Q w ∨ Q' w) (h1 : Q' a1) (h2 : Q' a2) (c1 c2 : Prop) [Decidable c1] [Decidable c2] : Q (if c2 then (if c1 then w else a1) else a2) ∨ Q' (if c2 then (if c1 then w else a1) else a2) := by
 by_cases e2 : c2
 ·rw [if_pos e2]
  by_cases e1 : c1
  ·rw [if_pos e1]; exact hw
  ·rw [if_neg e1]; exact .inr h1
 ·rw [if_neg e2]; exact .inr h2
theorem Part.two {Q Q' : Int → Prop} {b : Bool} {w a : Sp} (h : Part Q b w) (h' : Part Q' true a) : Part (fun s => Q s ∨ Q' s) true (wideP (wideP (bif b then w else a) a.1) a.2.1) := by
 have hq : a.1 ≤ a.2.1 := (h'.all _ (h'.lo rfl)).2
 refine ⟨⟨fun _ => ⟨_, .inr (h'.lo rfl)⟩, fun _ => rfl⟩, fun _ => ?_, fun _ => ?_, fun s hs => ?_⟩
 ·refine pick3 ?_ (h'.lo rfl) (h'.hi rfl) _ _
  cases b with
  | true => exact .inl (h.lo rfl)
  | false => exact .inr (h'.lo rfl)
 ·refine pick3 ?_ (h'.lo rfl) (h'.hi rfl) _ _
  cases b with
  | true => exact .inl (h.hi rfl)
  | false => exact .inr (h'.hi rfl)
 ·have e : (b = true ∧ Q s ∧ w.1 ≤ s ∧ s ≤ w.2.1) ∨ (a.1 ≤ s ∧ s ≤ a.2.1) := by
   rcases hs with hs | hs
   ·exact .inl ⟨h.ex.2 ⟨s, hs⟩, hs, h.all s hs⟩
   ·exact .inr (h'.all s hs)
  cases b with
  | true =>
   simp only [cond_true, wideP]
   rcases e with ⟨_, _, e⟩ | e <;> (repeat' split) <;> omega
  | false =>
   simp only [cond_false, wideP]
   rcases e with ⟨e, _⟩ | e
   ·cases e
   ·(repeat' split) <;> omega
structure SuOK (c : Int × List Sp × Unit) (i : Nat) (S : Su) : Prop where
 l1 : S.1.length = 101
 l2 : S.2.1.length = 101
 day : ∀ v : Nat, v ≤ 100 → Part (Pre c i v) (S.1.getD v false) (S.2.1.getD v z0)
theorem getD_set' {α : Type} {l : List α} {i j : Nat} {a d : α} (h : i < l.length) : (l.set i a).getD j d = if i = j then a else l.getD j d := by
 rw [List.getD_eq_getElem?_getD, List.getElem?_set]
 split
 ·first | rfl | (rw [if_pos h]; rfl)
 ·rw [← List.getD_eq_getElem?_getD]
abbrev R116 : List Ty := [(.slice (.struct [(.arr 101 .bool), (.arr 101 (.struct [(.int .i64), (.int .i64)]))]))]
def FrontOK (c : Int × List Sp × Unit) (Y : List Su) : Prop := Y.length = c.2.1.length ∧ ∀ i, i < c.2.1.length → SuOK c i (Y.getD i su0)
def Gets (c : Int × List Sp × Unit) (g : Nat → Option (denL R116)) : Prop := ∃ Y : List Su, (Ev fun f => g f = some (Y, ())) ∧ FrontOK c Y
theorem Gets.eq {c : Int × List Sp × Unit} {g g' : Nat → Option (denL R116)} (h : ∀ f, g f = g' f) (e : Gets c g') : Gets c g := let ⟨Y, q, r⟩ := e; ⟨Y, Ev.eq h q, r⟩
theorem Gets.iter {c : Int × List Sp × Unit} {n : Nat} {kp : Kept} {x : denK (specAt S116 n)} (h : Gets c fun k => seg cx19 S116 R116 6000 some (iter cx19 S116 R116 6000 k) n kp x) : Gets c fun k => iter cx19 S116 R116 6000 k n kp x := let ⟨Y, q, r⟩ := h; ⟨Y, iter_ev q, r⟩
noncomputable abbrev i0 (c : Int × List Sp × Unit) (i : Nat) (l : List Su) (f : Nat) : Option (denL R116) := iter cx19 S116 R116 6000 f 0 K116_0 ((((), ((), ((i : Int), ()))), ()), (c, (l, ())))
noncomputable abbrev i1 (c : Int × List Sp × Unit) (i n : Nat) (S : Su) (l : List Su) (f : Nat) : Option (denL R116) := iter cx19 S116 R116 6000 f 1 K116_1 ((((), ((), ((i : Int), ((), ((n : Int), ()))))), ()), (c, (S, (l, ()))))
noncomputable abbrev i2 (c : Int × List Sp × Unit) (i n k : Nat) (S : Su) (l : List Su) (f : Nat) : Option (denL R116) := iter cx19 S116 R116 6000 f 2 K116_2 ((((), ((), ((i : Int), ((), ((n : Int), ((k : Int), ())))))), ()), (c, (S, (l, ()))))
def Qk (c : Int × List Sp × Unit) (i n st k : Nat) (s : Int) : Prop := ∃ (k' : Nat) (s' : Int), n - st ≤ k' ∧ k' < k ∧ Pre c (i - 1) k' s' ∧ s = s' + n
theorem front2 (c : Int × List Sp × Unit) (st : Nat) (hst : c.1 = st) (h20 : st ≤ 20) (l : List Su) (i : Nat) (hi : 1 ≤ i) (h12 : i ≤ 12) (hl : l.length = i) (hp : SuOK c (i - 1) (l.getD (i - 1) su0)) (n : Nat) (hn : n ≤ 100) (S0 : Su)
  (hk : ∀ S' : Su, S'.1.length = 101 → S'.2.1.length = 101 → Part (Qk c i n st (min (n + st) 100 + 1)) (S'.1.getD n false) (S'.2.1.getD n z0) → (∀ v, v ≠ n → S'.1.getD v false = S0.1.getD v false ∧ S'.2.1.getD v z0 = S0.2.1.getD v z0) → Gets c (i1 c i (n + 1) S' l)) :
  ∀ (d k : Nat), k + d = min (n + st) 100 + 1 → n - st ≤ k → ∀ S : Su, S.1.length = 101 → S.2.1.length = 101 → Part (Qk c i n st k) (S.1.getD n false) (S.2.1.getD n z0) → (∀ v, v ≠ n → S.1.getD v false = S0.1.getD v false ∧ S.2.1.getD v z0 = S0.2.1.getD v z0) → Gets c (i2 c i n k S l) := by
 have w1 : IntKind.wrap IntKind.i64 ((n : Int) + c.1) = ((n + st : Nat) : Int) := by rw [hst, wrap_id (by omega) (by omega)]; omega
 have w2 : IntKind.wrap IntKind.i64 ((i : Int) - 1) = ((i - 1 : Nat) : Int) := by rw [wrap_id (by omega) (by omega)]; omega
 have w3 : IntKind.wrap IntKind.i64 ((n : Int) + 1) = ((n + 1 : Nat) : Int) := by rw [wrap_id (by omega) (by omega)]; omega
 have hcap : ∀ k : Nat, decide ((k : Int) ≤ if ((n + st : Nat) : Int) < 100 then ((n + st : Nat) : Int) else 100) = decide (k ≤ min (n + st) 100) := by
  intro k
  apply decide_eq_decide.2
  split <;> omega
 intro d
 induction d with
 | zero =>
  intro k hd hk0 S l1 l2 hP ho
  refine Gets.iter (Gets.eq (fun _ => Q116_2 _ _ _ _ _ _ _) ?_)
  rw [w1, hcap, dec_f (show ¬ (k ≤ min (n + st) 100) by omega), w3]
  simp only [cond_false]
  rw [show k = min (n + st) 100 + 1 by omega] at hP
  exact hk S l1 l2 hP ho
 | succ d ih =>
  intro k hd hk0 S l1 l2 hP ho
  refine Gets.iter (Gets.eq (fun _ => Q116_2 _ _ _ _ _ _ _) ?_)
  have w4 : IntKind.wrap IntKind.i64 ((k : Int) + 1) = ((k + 1 : Nat) : Int) := by rw [wrap_id (by omega) (by omega)]; omega
  have d1 : (0 : Int) ≤ ((i - 1 : Nat) : Int) := by omega
  have d2 : ((i - 1 : Nat) : Int) < (l.length : Int) := by omega
  have d3 : (0 : Int) ≤ (k : Int) := by omega
  have d4 : (k : Int) < 101 := by omega
  have d5 : i - 1 < l.length := by omega
  have d6 : k < 101 := by omega
  have d7 : (0 : Int) ≤ (n : Int) := by omega
  have d8 : (n : Int) < 101 := by omega
  have d9 : n < 101 := by omega
  have hpk := hp.day k (by omega)
  simp only [w1, hcap, w2, w4, dec_t (show k ≤ min (n + st) 100 by omega), dec_t d1, dec_t d2, dec_t d3, dec_t d4, Int.toNat_natCast, dec_t d5, dec_t d6, dec_t d7, dec_t d8, dec_t d9, Bool.and_self, cond_true, L117, Option.bind_some]
  rw [show ((List.replicate 101 false, List.replicate 101 (0, 0, ()), ()) : Su) = su0 from rfl]
  rw [show ((0, 0, ()) : Sp) = z0 from rfl]
  generalize hpr : l.getD (i - 1) su0 = pr at *
  cases hb : pr.1.getD k false with
  | false =>
   simp only [Bool.not_false, cond_true]
   refine ih (k + 1) (by omega) (by omega) S l1 l2 (hP.iff fun s => ?_) ho
   constructor
   ·rintro ⟨k', s', a, b, e, f⟩; exact ⟨k', s', a, by omega, e, f⟩
   ·rintro ⟨k', s', a, b, e, f⟩
    by_cases hkk : k' = k
    ·subst hkk
     have := hpk.ex.2 ⟨s', e⟩
     rw [hb] at this; cases this
    ·exact ⟨k', s', a, by omega, e, f⟩
  | true =>
   simp only [Bool.not_true, cond_false]
   have a1 := (hpk.lo hb).bounds
   have a2 := (hpk.hi hb).bounds
   have w5 : IntKind.wrap IntKind.i64 ((pr.2.1.getD k z0).1 + (n : Int)) = (pr.2.1.getD k z0).1 + n := wrap_id (by omega) (by omega)
   have w6 : IntKind.wrap IntKind.i64 ((pr.2.1.getD k z0).2.1 + (n : Int)) = (pr.2.1.getD k z0).2.1 + n := wrap_id (by omega) (by omega)
   rw [w5, w6]
   have hP' : Part (fun s => ∃ s', Pre c (i - 1) k s' ∧ s = s' + n) true ((pr.2.1.getD k z0).1 + n, (pr.2.1.getD k z0).2.1 + n, ()) := by
    refine ⟨⟨fun _ => ⟨_, _, hpk.lo hb, rfl⟩, fun _ => rfl⟩, fun _ => ⟨_, hpk.lo hb, rfl⟩, fun _ => ⟨_, hpk.hi hb, rfl⟩, ?_⟩
    rintro s ⟨s', e, rfl⟩
    have := hpk.all s' e
    simp only
    omega
   have h2 := (hP.two hP').iff (Q' := Qk c i n st (k + 1)) fun s => by
    constructor
    ·rintro (⟨k', s', a, b, e, f⟩ | ⟨s', e, f⟩)
     ·exact ⟨k', s', a, by omega, e, f⟩
     ·exact ⟨k, s', hk0, by omega, e, f⟩
    ·rintro ⟨k', s', a, b, e, f⟩
     by_cases hkk : k' = k
     ·subst hkk; exact .inr ⟨s', e, f⟩
     ·exact .inl ⟨k', s', a, by omega, e, f⟩
   cases hs : S.1.getD n false with
   | false =>
    simp only [Bool.not_false, cond_true]
    rw [hs] at h2
    simp only [cond_false] at h2
    refine ih (k + 1) (by omega) (by omega) _ (by simp [l1]) (by simp [l2]) ?_ fun v hv => ?_
    ·rw [getD_set' (by rw [l1]; omega), if_pos rfl, getD_set' (by simp [l2]; omega), if_pos rfl, getD_set' (by rw [l2]; omega), if_pos rfl]
     exact h2
    ·rw [getD_set' (by rw [l1]; omega), if_neg (Ne.symm hv), getD_set' (by simp [l2]; omega), if_neg (Ne.symm hv), getD_set' (by rw [l2]; omega), if_neg (Ne.symm hv)]
     exact ho v hv
   | true =>
    simp only [Bool.not_true, cond_false]
    rw [hs] at h2
    simp only [cond_true] at h2
    refine ih (k + 1) (by omega) (by omega) _ l1 (by simp [l2]) ?_ fun v hv => ?_
    ·rw [getD_set' (by rw [l2]; omega), if_pos rfl, hs]
     exact h2
    ·rw [getD_set' (by rw [l2]; omega), if_neg (Ne.symm hv)]
     exact ho v hv
end Go.Proofs.YtjigflnjgmgmnaaDoor
/- What Front, Total, Numbers of the reference come to. Conditions: as each lemma states. -/
namespace Go.Proofs.YtjigflnjgmgmnaaDoor
open Go Go.Gh Go.Proofs
theorem pre_zero (c : Int × List Sp × Unit) (v s : Int) : Pre c 0 v s ↔ canB (c.2.1.getD 0 z0) v = true ∧ 0 ≤ v ∧ v ≤ 100 ∧ s = v := by unfold Pre; exact Iff.rfl
theorem pre_succ (c : Int × List Sp × Unit) (i : Nat) (v s : Int) : Pre c (i + 1) v s ↔ canB (c.2.1.getD (i + 1) z0) v = true ∧ 0 ≤ v ∧ v ≤ 100 ∧ ∃ k s', Pre c i k s' ∧ v - k ≤ c.1 ∧ k - v ≤ c.1 ∧ s = s' + v := by rw [Pre]
theorem front1 (c : Int × List Sp × Unit) (st : Nat) (hst : c.1 = st) (h20 : st ≤ 20) (l : List Su) (i : Nat) (h12 : c.2.1.length ≤ 12) (hi : i < c.2.1.length) (hl : l.length = i) (hp : 1 ≤ i → SuOK c (i - 1) (l.getD (i - 1) su0))
  (hk : ∀ S' : Su, SuOK c i S' → Gets c (i0 c (i + 1) (l ++ [S']))) :
  ∀ (d n : Nat), n + d = 101 → ∀ S : Su, S.1.length = 101 → S.2.1.length = 101 → (∀ v, v < n → Part (Pre c i v) (S.1.getD v false) (S.2.1.getD v z0)) → (∀ v, n ≤ v → S.1.getD v false = false) → Gets c (i1 c i n S l) := by
 intro d
 induction d with
 | zero =>
  intro n hd S l1 l2 hP ho
  refine Gets.iter (Gets.eq (fun _ => Q116_1 _ _ _ _ _ _) ?_)
  have w1 : IntKind.wrap IntKind.i64 ((i : Int) + 1) = ((i + 1 : Nat) : Int) := by rw [wrap_id (by omega) (by omega)]; omega
  rw [dec_f (show ¬ ((n : Int) ≤ 100) by omega), w1]
  simp only [cond_false]
  rw [show List.set (List.replicate 1 ((List.replicate 101 false, List.replicate 101 (0, 0, ()), ()) : Su)) 0 S = [S] from rfl]
  rw [dec_t (show l.length + [S].length ≤ 2147483648 by simp; omega)]
  exact hk S ⟨l1, l2, fun v hv => hP v (by omega)⟩
 | succ d ih =>
  intro n hd S l1 l2 hP ho
  refine Gets.iter (Gets.eq (fun _ => Q116_1 _ _ _ _ _ _) ?_)
  have w3 : IntKind.wrap IntKind.i64 ((n : Int) + 1) = ((n + 1 : Nat) : Int) := by rw [wrap_id (by omega) (by omega)]; omega
  have w4 : IntKind.wrap IntKind.i64 ((n : Int) - c.1) = (n : Int) - st := by rw [hst, wrap_id (by omega) (by omega)]
  have hg : c.2.1.getD (Int.toNat (i : Int)) (0, 0, ()) = c.2.1.getD i z0 := rfl
  rw [dec_t (show (n : Int) ≤ 100 by omega), dec_t (show (0 : Int) ≤ (i : Int) by omega), dec_t (show (i : Int) < (c.2.1.length : Int) by omega), hg, L56]
  simp only [cond_true, Bool.and_self, Option.bind_some, w3, w4]
  have hn : S.1.getD n false = false := ho n (Nat.le_refl _)
  cases hc : canB (c.2.1.getD i z0) (n : Int) with
  | false =>
   simp only [Bool.not_false, cond_true]
   refine ih (n + 1) (by omega) S l1 l2 (fun v hv => ?_) (fun v hv => ho v (by omega))
   by_cases e : v = n
   ·subst e
    rw [hn]
    refine Part.none fun s hs => ?_
    cases i with
    | zero => rw [pre_zero] at hs; rw [hc] at hs; cases hs.1
    | succ i => rw [pre_succ] at hs; rw [hc] at hs; cases hs.1
   ·exact hP v (by omega)
  | true =>
   simp only [Bool.not_true, cond_false]
   cases i with
   | zero =>
    rw [show (((0 : Nat) : Int) == 0) = true from rfl]
    have d7 : (0 : Int) ≤ (n : Int) := by omega
    have d8 : (n : Int) < 101 := by omega
    have d9 : n < 101 := by omega
    simp only [cond_true, dec_t d7, dec_t d8, Int.toNat_natCast, dec_t d9, Bool.and_self]
    refine ih (n + 1) (by omega) _ (by simp [l1]) (by simp [l2]) (fun v hv => ?_) (fun v hv => ?_)
    ·by_cases e : v = n
     ·subst e
      rw [getD_set' (by rw [l1]; omega), if_pos rfl, getD_set' (by rw [l2]; omega), if_pos rfl]
      refine ⟨⟨fun _ => ⟨v, (pre_zero _ _ _).2 ⟨hc, by omega, by omega, rfl⟩⟩, fun _ => rfl⟩, fun _ => (pre_zero _ _ _).2 ⟨hc, by omega, by omega, rfl⟩, fun _ => (pre_zero _ _ _).2 ⟨hc, by omega, by omega, rfl⟩, fun s hs => ?_⟩
      rw [pre_zero] at hs
      simp only; omega
     ·rw [getD_set' (by rw [l1]; omega), if_neg (by omega), getD_set' (by rw [l2]; omega), if_neg (by omega)]
      exact hP v (by omega)
    ·rw [getD_set' (by rw [l1]; omega), if_neg (by omega)]
     exact ho v (by omega)
   | succ i =>
    have : ((((i + 1 : Nat) : Int)) == 0) = false := by simp; omega
    rw [this]
    simp only [cond_false]
    have hk0 : (if (n : Int) - st > 0 then (n : Int) - st else 0) = ((n - st : Nat) : Int) := by split <;> omega
    rw [hk0]
    refine front2 c st hst h20 l (i + 1) (by omega) (by omega) hl (hp (by omega)) n (by omega) S (fun S' l1' l2' hP' ho' => ?_) (min (n + st) 100 + 1 - (n - st)) (n - st) (by omega) (Nat.le_refl _) S l1 l2 ?_ (fun v _ => ⟨rfl, rfl⟩)
    ·refine ih (n + 1) (by omega) S' l1' l2' (fun v hv => ?_) (fun v hv => ?_)
     ·by_cases e : v = n
      ·subst e
       refine hP'.iff fun s => ?_
       rw [pre_succ]
       constructor
       ·rintro ⟨k', s', a, b, e, f⟩
        exact ⟨hc, by omega, by omega, k', s', e, by omega, by omega, f⟩
       ·rintro ⟨_, _, _, k, s', e, a, b, f⟩
        have hb := e.bounds
        obtain ⟨k', rfl⟩ := Int.eq_ofNat_of_zero_le hb.1
        exact ⟨k', s', by omega, by omega, e, f⟩
      ·obtain ⟨o1, o2⟩ := ho' v e
       rw [o1, o2]
       exact hP v (by omega)
     ·obtain ⟨o1, o2⟩ := ho' v (by omega)
      rw [o1]
      exact ho v (by omega)
    ·rw [hn]
     refine Part.none fun s hs => ?_
     obtain ⟨k', s', a, b, _⟩ := hs
     omega
theorem front0 (c : Int × List Sp × Unit) (st : Nat) (hst : c.1 = st) (h20 : st ≤ 20) (h12 : c.2.1.length ≤ 12) : ∀ (d i : Nat), i + d = c.2.1.length → ∀ l : List Su, l.length = i → (∀ j, j < i → SuOK c j (l.getD j su0)) → Gets c (i0 c i l) := by
 intro d
 induction d with
 | zero =>
  intro i hd l hl hP
  refine Gets.iter (Gets.eq (fun _ => Q116_0 _ _ _ _) ?_)
  rw [dec_f (by omega)]
  exact ⟨l, Ev.all fun _ => by first | rfl | trivial, by omega, fun j hj => hP j (by omega)⟩
 | succ d ih =>
  intro i hd l hl hP
  refine Gets.iter (Gets.eq (fun _ => Q116_0 _ _ _ _) ?_)
  rw [dec_t (show (i : Int) < (c.2.1.length : Int) by omega)]
  simp only [cond_true]
  refine front1 c st hst h20 l i h12 (by omega) hl (fun h1 => hP _ (by omega)) (fun S' hS' => ?_) 101 0 (by omega) su0 (by simp [su0]) (by simp [su0]) (fun v hv => by omega) (fun v hv => ?_)
  ·refine ih (i + 1) (by omega) (l ++ [S']) (by simp [hl]) (fun j hj => ?_)
   by_cases e : j = i
   ·subst e
    rw [show (l ++ [S']).getD j su0 = S' by rw [List.getD_eq_getElem?_getD, List.getElem?_append_right (by omega), hl]; simp]
    exact hS'
   ·rw [show (l ++ [S']).getD j su0 = l.getD j su0 by rw [List.getD_eq_getElem?_getD, List.getElem?_append_left (by omega), ← List.getD_eq_getElem?_getD]]
    exact hP j (by omega)
  ·rw [su0, List.getD_eq_getElem?_getD, List.getElem?_replicate]
   split <;> rfl
theorem L116 (c : Int × List Sp × Unit) (hv : Valid c) : ∃ Y : List Su, F116 ((c, ()) : (Int × List Sp × Unit) × Unit) = some (Y, ()) ∧ FrontOK c Y := by
 obtain ⟨st, hst⟩ := Int.eq_ofNat_of_zero_le hv.s0
 have h20 := hv.s20
 obtain ⟨Y, h1, h2⟩ := front0 c st hst (by omega) hv.l12 c.2.1.length 0 (by omega) [] rfl (fun j hj => by omega)
 exact ⟨Y, ghost_eq (Ev.eq (fun _ => E116 _ _) h1), h2⟩
end Go.Proofs.YtjigflnjgmgmnaaDoor
/- Sums of the reference, and truths. Conditions: as each lemma states. -/
namespace Go.Proofs.YtjigflnjgmgmnaaDoor
open Go Go.Gh Go.Proofs
def sumX (x : Nat → Int) : Nat → Int
 | 0 => x 0
 | i + 1 => sumX x i + x (i + 1)
theorem sumX_eq {x y : Nat → Int} : ∀ {i : Nat}, (∀ j, j ≤ i → x j = y j) → sumX x i = sumX y i
 | 0, h => h 0 (Nat.le_refl _)
 | i + 1, h => by
  simp only [sumX]
  rw [sumX_eq (i := i) (fun j hj => h j (by omega)), h (i + 1) (Nat.le_refl _)]
structure PT (c : Int × List Sp × Unit) (i : Nat) (x : Nat → Int) : Prop where
 can : ∀ j, j ≤ i → canB (c.2.1.getD j z0) (x j) = true ∧ 0 ≤ x j ∧ x j ≤ 100
 up : ∀ j, j < i → x j - x (j + 1) ≤ c.1 ∧ x (j + 1) - x j ≤ c.1
theorem pre_of {c : Int × List Sp × Unit} {x : Nat → Int} : ∀ {i : Nat}, PT c i x → Pre c i (x i) (sumX x i)
 | 0, h => (pre_zero _ _ _).2 ⟨(h.can 0 (Nat.le_refl _)).1, (h.can 0 (Nat.le_refl _)).2.1, (h.can 0 (Nat.le_refl _)).2.2, rfl⟩
 | i + 1, h => by
  have h1 := h.can (i + 1) (Nat.le_refl _)
  have h2 := h.up i (by omega)
  exact (pre_succ _ _ _ _).2 ⟨h1.1, h1.2.1, h1.2.2, x i, sumX x i, pre_of ⟨fun j hj => h.can j (by omega), fun j hj => h.up j (by omega)⟩, by omega, by omega, rfl⟩
theorem of_pre {c : Int × List Sp × Unit} : ∀ {i : Nat} {v s : Int}, Pre c i v s → ∃ x, PT c i x ∧ x i = v ∧ sumX x i = s
 | 0, v, s, h => by
  obtain ⟨h1, h2, h3, h4⟩ := (pre_zero _ _ _).1 h
  refine ⟨fun _ => v, ⟨fun j hj => ?_, fun j hj => by omega⟩, rfl, by simp [sumX, h4]⟩
  obtain rfl : j = 0 := by omega
  exact ⟨h1, h2, h3⟩
 | i + 1, v, s, h => by
  obtain ⟨h1, h2, h3, k, s', h4, h5, h6, h7⟩ := (pre_succ _ _ _ _).1 h
  obtain ⟨x, g1, g2, g3⟩ := of_pre h4
  refine ⟨fun j => if j ≤ i then x j else v, ⟨fun j hj => ?_, fun j hj => ?_⟩, if_neg (by omega), ?_⟩
  ·by_cases e : j ≤ i
   ·simp only [if_pos e]; exact g1.can j e
   ·obtain rfl : j = i + 1 := by omega
    simp only [if_neg e]; exact ⟨h1, h2, h3⟩
  ·by_cases e : j + 1 ≤ i
   ·simp only [if_pos e, if_pos (show j ≤ i by omega)]; exact g1.up j (by omega)
   ·obtain rfl : j = i := by omega
    simp only [if_pos (Nat.le_refl _), if_neg e, g2]; omega
  ·simp only [sumX]
   rw [sumX_eq (y := x) (fun j hj => by simp only [if_pos hj]), g3, if_neg (by omega), h7]
theorem canB_iff {d : Sp} (h : 0 ≤ d.1 ∧ d.1 ≤ 3 ∧ 0 ≤ d.2.1 ∧ d.2.1 ≤ 100) (v : Int) : (canB d v = true ∧ 0 ≤ v ∧ v ≤ 100) ↔ (canD d).1 ≤ v ∧ v ≤ (canD d).2.1 := by
 unfold canB canD
 by_cases h0 : d.1 = 0
 ·simp [h0, sp]
 ·rw [if_neg h0, if_neg h0]
  by_cases h1 : d.1 = 1
  ·simp only [if_pos h1, sp, decide_eq_true_eq]; omega
  ·simp only [if_neg h1, sp, beq_iff_eq]; omega
theorem own_c (c : Int × List Sp × Unit) (i : Nat) : own (c, 0, ()) nob i = canD (c.2.1.getD i z0) := by
 unfold own
 rw [if_neg (by simp only [nob]; omega)]
 unfold dayAt
 rw [show bitOf ((c, 0, ()) : Mo).2.1 i = false by simp [bitOf], if_neg (by decide)]
theorem truth_pt {c : Int × List Sp × Unit} (hv : Valid c) (x : Nat → Int) : Truth (c, 0, ()) nob x ↔ PT c (c.2.1.length - 1) x := by
 have h1 := hv.l1
 constructor
 ·intro h
  refine ⟨fun j hj => ?_, fun j hj => h.up j (by simp only; omega)⟩
  have := h.own j (by simp only; omega)
  rw [own_c] at this
  exact (canB_iff (hv.at j) _).2 this
 ·intro h
  refine ⟨fun j hj => ?_, fun j hj => h.up j (by simp only at hj; omega)⟩
  rw [own_c]
  exact (canB_iff (hv.at j) _).1 (h.can j (by simp only at hj; omega))
theorem L59 (c : Int × List Sp × Unit) (hv : Valid c) : ∃ (w : Sp) (b : Bool), F59 ((c, ()) : (Int × List Sp × Unit) × Unit) = some (w, b, ()) ∧ Part (fun s => ∃ x, Truth (c, 0, ()) nob x ∧ sumX x (c.2.1.length - 1) = s) b w := by
 obtain ⟨Y, hY, hl, hF⟩ := L116 c hv
 have h1 := hv.l1
 have h12 := hv.l12
 have hS := hF (c.2.1.length - 1) (by omega)
 have w1 : IntKind.wrap IntKind.i64 ((c.2.1.length : Int) - 1) = ((c.2.1.length - 1 : Nat) : Int) := by rw [wrap_id (by omega) (by omega)]; omega
 have key : ∀ (d k : Nat), k + d = 101 → ∀ (b : Bool) (w : Sp), Part (fun s => ∃ v : Nat, v < k ∧ Pre c (c.2.1.length - 1) v s) b w →
   ∃ (w' : Sp) (b' : Bool), (Ev fun f => iter cx116 S59 [(.struct [(.int .i64), (.int .i64)]), .bool] 6000 f 0 K59_0 ((((), ((), ((), (b, ((k : Int), ()))))), ()), (((0, 0, ()) : Sp), (Y.getD (c.2.1.length - 1) su0, (w, ())))) = some (w', b', ())) ∧ Part (fun s => ∃ v : Nat, v < 101 ∧ Pre c (c.2.1.length - 1) v s) b' w' := by
  intro d
  induction d with
  | zero =>
   intro k hd b w hP
   obtain rfl : k = 101 := by omega
   refine ⟨w, b, iter_ev (Ev.eq (fun _ => Q59_0 _ _ _ _ _ _) ?_), hP⟩
   rw [dec_f (by omega)]
   exact Ev.all fun _ => by first | rfl | trivial
  | succ d ih =>
   intro k hd b w hP
   have w4 : IntKind.wrap IntKind.i64 ((k : Int) + 1) = ((k + 1 : Nat) : Int) := by rw [wrap_id (by omega) (by omega)]; omega
   have d3 : (0 : Int) ≤ (k : Int) := by omega
   have d4 : (k : Int) < 101 := by omega
   have d5 : (k : Int) ≤ 100 := by omega
   have d6 : k < 101 := by omega
   have hpk := hS.day k (by omega)
   generalize Y.getD (c.2.1.length - 1) su0 = S at *
   have red : ∀ f, seg cx116 S59 [(.struct [(.int .i64), (.int .i64)]), .bool] 6000 some (iter cx116 S59 [(.struct [(.int .i64), (.int .i64)]), .bool] 6000 f) 0 K59_0 ((((), ((), ((), (b, ((k : Int), ()))))), ()), (((0, 0, ()) : Sp), (S, (w, ())))) =
     (bif !S.1.getD k false then iter cx116 S59 [(.struct [(.int .i64), (.int .i64)]), .bool] 6000 f 0 K59_0 ((((), ((), ((), (b, (((k + 1 : Nat) : Int), ()))))), ()), (((0, 0, ()) : Sp), (S, (w, ()))))
       else iter cx116 S59 [(.struct [(.int .i64), (.int .i64)]), .bool] 6000 f 0 K59_0 ((((), ((), ((), (true, (((k + 1 : Nat) : Int), ()))))), ()), (((0, 0, ()) : Sp), (S, (wideP (wideP (bif b then w else S.2.1.getD k z0) (S.2.1.getD k z0).1) (S.2.1.getD k z0).2.1, ()))))) := by
    intro f
    rw [Q59_0]
    simp only [dec_t d3, dec_t d4, dec_t d5, dec_t d6, w4, Int.toNat_natCast, Bool.and_self, cond_true, L117, Option.bind_some]
    rw [show ((0, 0, ()) : Sp) = z0 from rfl]
    cases S.1.getD k false <;> cases b <;> rfl
   cases hb : S.1.getD k false with
   | false =>
    obtain ⟨w', b', q1, q2⟩ := ih (k + 1) (by omega) b w (hP.iff fun s => by
     constructor
     ·rintro ⟨v, hv, e⟩; exact ⟨v, by omega, e⟩
     ·rintro ⟨v, hv, e⟩
      by_cases hvk : v = k
      ·subst hvk
       have := hpk.ex.2 ⟨s, e⟩
       rw [hb] at this; cases this
      ·exact ⟨v, by omega, e⟩)
    refine ⟨w', b', iter_ev (Ev.eq (fun f => (red f).trans ?_) q1), q2⟩
    rw [hb]; rfl
   | true =>
    rw [hb] at hpk
    obtain ⟨w', b', q1, q2⟩ := ih (k + 1) (by omega) true _ ((hP.two hpk).iff (Q' := fun s => ∃ v : Nat, v < k + 1 ∧ Pre c (c.2.1.length - 1) v s) fun s => by
     constructor
     ·rintro (⟨v, hv, e⟩ | e)
      ·exact ⟨v, by omega, e⟩
      ·exact ⟨k, by omega, e⟩
     ·rintro ⟨v, hv, e⟩
      by_cases hvk : v = k
      ·subst hvk; exact .inr e
      ·exact .inl ⟨v, by omega, e⟩)
    refine ⟨w', b', iter_ev (Ev.eq (fun f => (red f).trans ?_) q1), q2⟩
    rw [hb]; rfl
 obtain ⟨w, b, q1, q2⟩ := key 101 0 (by omega) false (0, 0, ()) (Part.none fun s => by rintro ⟨v, hv, _⟩; omega)
 refine ⟨w, b, ghost_eq (Ev.eq (fun _ => E59 _ _) ?_), q2.iff fun s => ?_⟩
 ·rw [hY]
  simp only [Option.bind_some, w1, Int.toNat_natCast]
  rw [dec_t (by omega), dec_t (by omega)]
  simp only [Bool.and_self, cond_true]
  exact q1
 ·constructor
  ·rintro ⟨v, _, e⟩
   obtain ⟨x, g1, g2, g3⟩ := of_pre e
   exact ⟨x, (truth_pt hv x).2 g1, g3⟩
  ·rintro ⟨x, g1, g2⟩
   have := pre_of ((truth_pt hv x).1 g1)
   rw [g2] at this
   have hb := this.bounds
   obtain ⟨v, hv⟩ := Int.eq_ofNat_of_zero_le hb.1
   rw [hv] at this hb
   exact ⟨v, by omega, this⟩
end Go.Proofs.YtjigflnjgmgmnaaDoor
/- What Number of the reference comes to. Conditions: as each lemma states. -/
namespace Go.Proofs.YtjigflnjgmgmnaaDoor
open Go Go.Gh Go.Proofs
theorem L94 (c : Int × List Sp × Unit) (hv : Valid c) : F94 ((c, ()) : (Int × List Sp × Unit) × Unit) = some (alive (spn (c, 0, ()) nob), ()) := by
 obtain ⟨w, b, h1, h2⟩ := L59 c hv
 have : b = alive (spn (c, 0, ()) nob) := by
  have e1 := h2.ex
  have e2 := alive_iff (c, 0, ()) nob hv bd_nob
  cases b with
  | true =>
   obtain ⟨s, x, hx, _⟩ := e1.1 rfl
   exact (e2.2 ⟨x, hx⟩).symm
  | false =>
   cases ha : alive (spn (c, 0, ()) nob) with
   | false => rfl
   | true =>
    obtain ⟨x, hx⟩ := e2.1 ha
    exact absurd (e1.2 ⟨_, x, hx, rfl⟩) (by decide)
 refine ghost_eq (Ev.eq (fun _ => E94 _ _) ?_)
 rw [h1, this]
 exact Ev.all fun _ => by first | rfl | trivial
theorem one_set {α : Type} (a b : α) : List.set (List.replicate 1 a) 0 b = [b] := rfl
end Go.Proofs.YtjigflnjgmgmnaaDoor
/- What Number of the reference comes to: that of the program. Conditions: as each lemma states. -/
namespace Go.Proofs.YtjigflnjgmgmnaaDoor
open Go Go.Gh Go.Proofs
def numsL (p : Nat → Bool) (k : Nat) : List Int := ((List.range k).filter p).map fun v : Nat => (v : Int)
theorem numsL_succ (p : Nat → Bool) (k : Nat) : numsL p (k + 1) = if p k = true then numsL p k ++ [(k : Int)] else numsL p k := by
 unfold numsL
 rw [List.range_succ, List.filter_append, List.map_append]
 cases h : p k <;> simp [h]
theorem numsL_len (p : Nat → Bool) (k : Nat) : (numsL p k).length ≤ k := by
 unfold numsL
 rw [List.length_map]
 have := List.length_filter_le p (List.range k)
 simpa using this
theorem numsL_mem {p : Nat → Bool} {k : Nat} {v : Int} : v ∈ numsL p k ↔ ∃ n : Nat, n < k ∧ p n = true ∧ (n : Int) = v := by
 unfold numsL
 simp only [List.mem_map, List.mem_filter, List.mem_range]
 constructor
 ·rintro ⟨n, ⟨a, b⟩, e⟩; exact ⟨n, a, b, e⟩
 ·rintro ⟨n, a, b, e⟩; exact ⟨n, ⟨a, b⟩, e⟩
theorem own_range (m : Mo) (t : Sp) (hv : Valid m.1) {i : Nat} {x : Int} (h1 : (own m t i).1 ≤ x) (h2 : x ≤ (own m t i).2.1) : 0 ≤ x ∧ x ≤ 100 := by
 have hd : 0 ≤ (dayAt m i).2.1 ∧ (dayAt m i).2.1 ≤ 100 := by
  unfold dayAt
  split
  ·decide
  ·have := hv.at i; omega
 have hc : 0 ≤ (canD (dayAt m i)).1 ∧ (canD (dayAt m i)).2.1 ≤ 100 := by
  unfold canD
  split
  ·decide
  ·split <;> (simp only [sp]; omega)
 unfold own at h1 h2
 split at h1
 ·rename_i e
  rw [if_pos e] at h2
  simp only [both] at h1 h2
  omega
 ·rename_i e
  rw [if_neg e] at h2
  omega
end Go.Proofs.YtjigflnjgmgmnaaDoor
