/- What the first functions of the reference come to. Conditions: as each lemma states. -/
import Derived.Test.YtjigflnjgmgmnaaDoorClL
import Derived.Test.YtjigflnjgmgmnaaDoorClC
namespace Go.Proofs.YtjigflnjgmgmnaaDoor
open Go Go.Gh Go.Proofs
theorem L48 (n lo hi : Int) : F48 ((n, lo, hi, ()) : Int × Int × Int × Unit) = some (decide (lo ≤ n) && decide (n ≤ hi), ()) := by
 refine ghost_eq (Ev.eq (fun _ => E48 _ _ _ _) (Ev.all fun _ => ?_))
 cases decide (lo ≤ n) <;> rfl
def canB (d : Sp) (n : Int) : Bool := if d.1 = 0 then true else if d.1 = 1 then decide (n ≥ d.2.1) else n == d.2.1
theorem L19 (m : Int × List Sp × Unit) : F19 ((m, ()) : (Int × List Sp × Unit) × Unit) = some (chk m) := by
 refine ghost_eq (Ev.eq (fun _ => E19 _ m) ?_)
 rw [L48, L48]
 simp only [Option.bind_some]
 unfold chk
 by_cases h1 : m.1 < 0 ∨ m.1 > 20
 ·have : (!(decide (0 ≤ m.1) && decide (m.1 ≤ 20))) = true := by
   rcases h1 with h | h
   ·rw [dec_f (show ¬ (0 ≤ m.1) by omega)]; rfl
   ·rw [dec_f (show ¬ (m.1 ≤ 20) by omega), Bool.and_false]; rfl
  simp only [this, cond_true, if_pos h1]
  exact Ev.all fun _ => by first | rfl | trivial
 ·have : (!(decide (0 ≤ m.1) && decide (m.1 ≤ 20))) = false := by rw [dec_t (show 0 ≤ m.1 by omega), dec_t (show m.1 ≤ 20 by omega)]; rfl
  simp only [this, cond_false, if_neg h1]
  by_cases h2 : (m.2.1.length : Int) < 1 ∨ (m.2.1.length : Int) > 12
  ·have : (!(decide (1 ≤ (m.2.1.length : Int)) && decide ((m.2.1.length : Int) ≤ 12))) = true := by
    rcases h2 with h | h
    ·rw [dec_f (show ¬ (1 ≤ (m.2.1.length : Int)) by omega)]; rfl
    ·rw [dec_f (show ¬ ((m.2.1.length : Int) ≤ 12) by omega), Bool.and_false]; rfl
   simp only [this, cond_true, if_pos h2]
   exact Ev.all fun _ => by first | rfl | trivial
  ·have : (!(decide (1 ≤ (m.2.1.length : Int)) && decide ((m.2.1.length : Int) ≤ 12))) = false := by rw [dec_t (show 1 ≤ (m.2.1.length : Int) by omega), dec_t (show (m.2.1.length : Int) ≤ 12 by omega)]; rfl
   simp only [this, cond_false, if_neg h2]
   have key : ∀ (c i : Nat) (h : Int), i + c = m.2.1.length → 0 ≤ h → h ≤ i → Ev fun k => iter cx56 S19 [(.int .i64), (.int .i64), (.int .i64)] 6000 k 0 K19_0 ((((), (h, ((i : Int), ()))), ()), (m, ())) = some (chkFrom (m.2.1.drop i) i h) := by
    intro c
    induction c with
    | zero =>
     intro i h hi _ _
     refine iter_ev (Ev.eq (fun _ => Q19_0 _ _ _ _) ?_)
     rw [dec_f (by omega), List.drop_eq_nil_of_le (by omega)]
     exact Ev.all fun _ => by first | rfl | trivial
    | succ c ih =>
     intro i h hi hh1 hh2
     have hlt : i < m.2.1.length := by omega
     refine iter_ev (Ev.eq (fun _ => Q19_0 _ _ _ _) ?_)
     have e1 : ((i : Int) < (m.2.1.length : Int)) := by omega
     have e2 : (0 : Int) ≤ (i : Int) := by omega
     have e3 : IntKind.wrap IntKind.i64 ((i : Int) + 1) = ((i + 1 : Nat) : Int) := by rw [wrap_id (by omega) (by omega)]; omega
     have e4 : IntKind.wrap IntKind.i64 (h + 1) = h + 1 := wrap_id (by omega) (by omega)
     have hg : m.2.1.getD (Int.toNat (i : Int)) (0, 0, ()) = m.2.1[i] := by simp [List.getD_eq_getElem?_getD, hlt]
     rw [hg, L48, L48]
     simp only [dec_t e1, dec_t e2, e3, e4, cond_true, Bool.and_self, Option.bind_some]
     rw [List.drop_eq_getElem_cons hlt]
     generalize m.2.1[i] = d
     unfold chkFrom
     by_cases b1 : d.1 < 0 ∨ d.1 > 3
     ·have : (!(decide (0 ≤ d.1) && decide (d.1 ≤ 3))) = true := by
       rcases b1 with h | h
       ·rw [dec_f (show ¬ (0 ≤ d.1) by omega)]; rfl
       ·rw [dec_f (show ¬ (d.1 ≤ 3) by omega), Bool.and_false]; rfl
      simp only [this, cond_true]
      rw [if_pos (by omega)]
      exact Ev.all fun _ => by first | rfl | trivial
     ·have : (!(decide (0 ≤ d.1) && decide (d.1 ≤ 3))) = false := by rw [dec_t (show 0 ≤ d.1 by omega), dec_t (show d.1 ≤ 3 by omega)]; rfl
      simp only [this, cond_false]
      by_cases b2 : d.2.1 < 0 ∨ d.2.1 > 100
      ·have : (!(decide (0 ≤ d.2.1) && decide (d.2.1 ≤ 100))) = true := by
        rcases b2 with h | h
        ·rw [dec_f (show ¬ (0 ≤ d.2.1) by omega)]; rfl
        ·rw [dec_f (show ¬ (d.2.1 ≤ 100) by omega), Bool.and_false]; rfl
       simp only [this, cond_true]
       rw [if_pos (by omega)]
       exact Ev.all fun _ => by first | rfl | trivial
      ·have : (!(decide (0 ≤ d.2.1) && decide (d.2.1 ≤ 100))) = false := by rw [dec_t (show 0 ≤ d.2.1 by omega), dec_t (show d.2.1 ≤ 100 by omega)]; rfl
       simp only [this, cond_false]
       rw [if_neg (by omega)]
       have ih1 := ih (i + 1) (h + 1) (by omega) (by omega) (by omega)
       have ih2 := ih (i + 1) h (by omega) (by omega) (by omega)
       have tail : ∀ (b3 : Bool), (d.1 = 3 ↔ b3 = true) → Ev fun k => (bif b3 then bif decide (h + 1 > 5) then some (2, (i : Int), 3, ()) else iter cx56 S19 [(.int .i64), (.int .i64), (.int .i64)] 6000 k 0 K19_0 ((((), (h + 1, (((i + 1 : Nat) : Int), ()))), ()), (m, ()))
         else bif decide (h > 5) then some (2, (i : Int), 3, ()) else iter cx56 S19 [(.int .i64), (.int .i64), (.int .i64)] 6000 k 0 K19_0 ((((), (h, (((i + 1 : Nat) : Int), ()))), ()), (m, ()))) =
         some (if (if d.1 = 3 then h + 1 else h) > 5 then (2, (i : Int), 3, ()) else chkFrom (m.2.1.drop (i + 1)) ((i : Int) + 1) (if d.1 = 3 then h + 1 else h)) := by
        intro b3 hb3
        cases b3 with
        | true =>
         have hd := hb3.2 rfl
         simp only [cond_true, if_pos hd]
         by_cases b4 : h + 1 > 5
         ·simp only [dec_t b4, cond_true, if_pos b4]; exact Ev.all fun _ => by first | rfl | trivial
         ·simp only [dec_f b4, cond_false, if_neg b4]
          simpa using ih1
        | false =>
         have hd : ¬ d.1 = 3 := fun e => by have := hb3.1 e; cases this
         simp only [cond_false, if_neg hd]
         by_cases b4 : h > 5
         ·simp only [dec_t b4, cond_true, if_pos b4]; exact Ev.all fun _ => by first | rfl | trivial
         ·simp only [dec_f b4, cond_false, if_neg b4]
          simpa using ih2
       have htail := tail (d.1 == 3) (by simp)
       by_cases b0 : d.1 = 0
       ·have e0 : (d.1 == 0) = true := by simpa using b0
        simp only [e0, cond_true]
        by_cases b5 : d.2.1 = 0
        ·have : (d.2.1 != 0) = false := by simp [b5]
         simp only [this, cond_false]
         rw [if_neg (by omega)]
         exact htail
        ·have : (d.2.1 != 0) = true := by simpa using b5
         simp only [this, cond_true]
         rw [if_pos (by omega)]
         exact Ev.all fun _ => by first | rfl | trivial
       ·have e0 : (d.1 == 0) = false := by simpa using b0
        simp only [e0, cond_false]
        rw [if_neg (by omega)]
        exact htail
   have := key m.2.1.length 0 0 (by omega) (by omega) (by omega)
   simpa using this
abbrev Su := List Bool × List Sp × Unit
def su0 : Su := (List.replicate 101 false, List.replicate 101 (0, 0, ()), ())
def Pre (c : Int × List Sp × Unit) : Nat → Int → Int → Prop
 | 0, v, s => canB (c.2.1.getD 0 z0) v = true ∧ 0 ≤ v ∧ v ≤ 100 ∧ s = v
 | i + 1, v, s => canB (c.2.1.getD (i + 1) z0) v = true ∧ 0 ≤ v ∧ v ≤ 100 ∧ ∃ k s', Pre c i k s' ∧ v - k ≤ c.1 ∧ k - v ≤ c.1 ∧ s = s' + v
structure Part (Q : Int → Prop) (b : Bool) (w : Sp) : Prop where
 ex : b = true ↔ ∃ s, Q s
 lo : b = true → Q w.1
 hi : b = true → Q w.2.1
 all : ∀ s, Q s → w.1 ≤ s ∧ s ≤ w.2.1
theorem Part.iff {Q Q' : Int → Prop} {b : Bool} {w : Sp} (h : Part Q b w) (e : ∀ s, Q s ↔ Q' s) : Part Q' b w :=
 ⟨h.ex.trans ⟨fun ⟨s, q⟩ => ⟨s, (e s).1 q⟩, fun ⟨s, q⟩ => ⟨s, (e s).2 q⟩⟩, fun hb => (e _).1 (h.lo hb), fun hb => (e _).1 (h.hi hb), fun s q => h.all s ((e s).2 q)⟩
theorem Part.none {Q : Int → Prop} {w : Sp} (h : ∀ s, ¬ Q s) : Part Q false w :=
 ⟨⟨fun h => (by cases h), fun ⟨s, q⟩ => absurd q (h s)⟩, fun h => (by cases h), fun h => (by cases h), fun s q => absurd q (h s)⟩
structure SuOK (c : Int × List Sp × Unit) (i : Nat) (S : Su) : Prop where
 l1 : S.1.length = 101
 l2 : S.2.1.length = 101
 day : ∀ v : Nat, v ≤ 100 → Part (Pre c i v) (S.1.getD v false) (S.2.1.getD v z0)
abbrev R116 : List Ty := [(.slice (.struct [(.arr 101 .bool), (.arr 101 (.struct [(.int .i64), (.int .i64)]))]))]
def FrontOK (c : Int × List Sp × Unit) (Y : List Su) : Prop := Y.length = c.2.1.length ∧ ∀ i, i < c.2.1.length → SuOK c i (Y.getD i su0)
def Gets (c : Int × List Sp × Unit) (g : Nat → Option (denL R116)) : Prop := ∃ Y : List Su, (Ev fun f => g f = some (Y, ())) ∧ FrontOK c Y
theorem Gets.eq {c : Int × List Sp × Unit} {g g' : Nat → Option (denL R116)} (h : ∀ f, g f = g' f) (e : Gets c g') : Gets c g := let ⟨Y, q, r⟩ := e; ⟨Y, Ev.eq h q, r⟩
noncomputable abbrev i0 (c : Int × List Sp × Unit) (i : Nat) (l : List Su) (f : Nat) : Option (denL R116) := iter cx19 S116 R116 6000 f 0 K116_0 ((((), ((), ((i : Int), ()))), ()), (c, (l, ())))
noncomputable abbrev i2 (c : Int × List Sp × Unit) (i n k : Nat) (S : Su) (l : List Su) (f : Nat) : Option (denL R116) := iter cx19 S116 R116 6000 f 2 K116_2 ((((), ((), ((i : Int), ((), ((n : Int), ((k : Int), ())))))), ()), (c, (S, (l, ()))))
end Go.Proofs.YtjigflnjgmgmnaaDoor
/- What Front, Total, Numbers of the reference come to. Conditions: as each lemma states. -/
namespace Go.Proofs.YtjigflnjgmgmnaaDoor
open Go Go.Gh Go.Proofs
end Go.Proofs.YtjigflnjgmgmnaaDoor
/- Sums of the reference, and truths. Conditions: as each lemma states. -/
namespace Go.Proofs.YtjigflnjgmgmnaaDoor
open Go Go.Gh Go.Proofs
def sumX (x : Nat → Int) : Nat → Int
 | 0 => x 0
 | i + 1 => sumX x i + x (i + 1)
structure PT (c : Int × List Sp × Unit) (i : Nat) (x : Nat → Int) : Prop where
 can : ∀ j, j ≤ i → canB (c.2.1.getD j z0) (x j) = true ∧ 0 ≤ x j ∧ x j ≤ 100
 up : ∀ j, j < i → x j - x (j + 1) ≤ c.1 ∧ x (j + 1) - x j ≤ c.1
theorem own_c (c : Int × List Sp × Unit) (i : Nat) : own (c, 0, ()) nob i = canD (c.2.1.getD i z0) := by
 unfold own
 rw [if_neg (by simp only [nob]; omega)]
 unfold dayAt
 rw [show bitOf ((c, 0, ()) : Mo).2.1 i = false by simp [bitOf], if_neg (by decide)]
end Go.Proofs.YtjigflnjgmgmnaaDoor
/- What Number of the reference comes to. Conditions: as each lemma states. -/
namespace Go.Proofs.YtjigflnjgmgmnaaDoor
open Go Go.Gh Go.Proofs
theorem one_set {α : Type} (a b : α) : List.set (List.replicate 1 a) 0 b = [b] := rfl
end Go.Proofs.YtjigflnjgmgmnaaDoor
/- What Number of the reference comes to: that of the program. Conditions: as each lemma states. -/
namespace Go.Proofs.YtjigflnjgmgmnaaDoor
open Go Go.Gh Go.Proofs
def numsL (p : Nat → Bool) (k : Nat) : List Int := ((List.range k).filter p).map fun v : Nat => (v : Int)
theorem numsL_succ (p : Nat → Bool) (k : Nat) : numsL p (k + 1) = if p k = true then numsL p k ++ [(k : Int)] else numsL p k := by
 unfold numsL
 rw [List.range_succ, List.filter_append, List.map_append]
 cases h : p k <;> simp [h]
theorem numsL_len (p : Nat → Bool) (k : Nat) : (numsL p k).length ≤ k := by
 unfold numsL
 rw [List.length_map]
 have := List.length_filter_le p (List.range k)
 simpa using this
theorem numsL_mem {p : Nat → Bool} {k : Nat} {v : Int} : v ∈ numsL p k ↔ ∃ n : Nat, n < k ∧ p n = true ∧ (n : Int) = v := by
 unfold numsL
 simp only [List.mem_map, List.mem_filter, List.mem_range]
 constructor
 ·rintro ⟨n, ⟨a, b⟩, e⟩; exact ⟨n, a, b, e⟩
 ·rintro ⟨n, a, b, e⟩; exact ⟨n, ⟨a, b⟩, e⟩
theorem own_range (m : Mo) (t : Sp) (hv : Valid m.1) {i : Nat} {x : Int} (h1 : (own m t i).1 ≤ x) (h2 : x ≤ (own m t i).2.1) : 0 ≤ x ∧ x ≤ 100 := by
 have hd : 0 ≤ (dayAt m i).2.1 ∧ (dayAt m i).2.1 ≤ 100 := by
  unfold dayAt
  split
  ·decide
  ·have := hv.at i; omega
 have hc : 0 ≤ (canD (dayAt m i)).1 ∧ (canD (dayAt m i)).2.1 ≤ 100 := by
  unfold canD
  split
  ·decide
  ·split <;> (simp only [sp]; omega)
 unfold own at h1 h2
 split at h1
 ·rename_i e
  rw [if_pos e] at h2
  simp only [both] at h1 h2
  omega
 ·rename_i e
  rw [if_neg e] at h2
  omega
end Go.Proofs.YtjigflnjgmgmnaaDoor
