/- What helpers of the outright statements come to. Conditions: as each lemma states. -/
import Derived.Test.YtjigflnjgmgmnaaDoorClHa
import Derived.Test.YtjigflnjgmgmnaaDoorClS
import Derived.Test.YtjigflnjgmgmnaaDoorClHb
namespace Go.Proofs.YtjigflnjgmgmnaaDoor
open Go Go.Gh Go.Proofs Go.Few
theorem L39 (c : Int × List Sp × Unit) : F39 ((c, ()) : (Int × List Sp × Unit) × Unit) = some ((chk c).2.2.1 == 0, ()) := by
 refine ghost_eq (Ev.eq (fun _ => E39 _ _) ?_)
 rw [L19]
 exact Ev.all fun _ => by first | rfl | trivial
def someB (c : Int × List Sp × Unit) : Bool := (chk c).2.2.1 == 0 && alive (spn (c, 0, ()) nob)
theorem L47 (c : Int × List Sp × Unit) : F47 ((c, ()) : (Int × List Sp × Unit) × Unit) = some (someB c, ()) := by
 refine ghost_eq (Ev.eq (fun _ => E47 _ _) ?_)
 rw [L39]
 simp only [Option.bind_some]
 unfold someB
 by_cases h : (chk c).2.2.1 = 0
 ·rw [L94 c (chk_ok h).1]
  have : ((chk c).2.2.1 == 0) = true := by simpa using h
  rw [this]
  exact Ev.all fun _ => by first | rfl | trivial
 ·have : ((chk c).2.2.1 == 0) = false := by simpa using h
  rw [this]
  exact Ev.all fun _ => by first | rfl | trivial
theorem some_ok {c : Int × List Sp × Unit} (h : someB c = true) : (chk c).2.2.1 = 0 ∧ Valid c ∧ alive (spn (c, 0, ()) nob) = true := by
 unfold someB at h
 rw [Bool.and_eq_true, beq_iff_eq] at h
 exact ⟨h.1, (chk_ok h.1).1, h.2⟩
theorem some_not {c : Int × List Sp × Unit} (h : someB c = false) : (ent c 0 0).2.1 ≠ 0 := by
 rw [ent_err]
 unfold someB at h
 by_cases hc : (chk c).2.2.1 = 0
 ·have : ((chk c).2.2.1 == 0) = true := by simpa using hc
  rw [this, Bool.true_and] at h
  rw [if_pos hc, h, if_neg (by decide)]
  decide
 ·rw [if_neg hc]; exact hc
theorem some_ent {c : Int × List Sp × Unit} (h : someB c = true) : (ent c 0 0).2.1 = 0 := by
 obtain ⟨h1, _, h3⟩ := some_ok h
 rw [ent_err, if_pos h1, if_pos h3]
theorem truth_range {c : Int × List Sp × Unit} (hv : Valid c) {x : Nat → Int} (hx : Truth (c, 0, ()) nob x) {d : Nat} (hd : d < c.2.1.length) : 0 ≤ x d ∧ x d ≤ 100 := by
 have := hx.own d hd
 exact own_range _ _ hv this.1 this.2
end Go.Proofs.YtjigflnjgmgmnaaDoor
/- States at the cuts of the outright statements. Conditions: none. -/
namespace Go.Proofs.YtjigflnjgmgmnaaDoor
open Go Go.Gh Go.Proofs
end Go.Proofs.YtjigflnjgmgmnaaDoor
/- CloudFewest returns true. Conditions: as each lemma states. -/
namespace Go.Proofs.YtjigflnjgmgmnaaDoor
open Go Go.Gh Go.Proofs Go.Few
theorem count_set (q : Sp → Bool) (z : Sp) (hz : q z = false) : ∀ (l : List Sp) (i : Nat), (l.set i z).countP q ≤ l.countP q
 | [], _ => by simp
 | d :: l, 0 => by rw [List.set_cons_zero, List.countP_cons, List.countP_cons, hz]; simp
 | d :: l, i + 1 => by
  rw [List.set_cons_succ, List.countP_cons, List.countP_cons]
  have := count_set q z hz l i
  omega
end Go.Proofs.YtjigflnjgmgmnaaDoor
/- CloudSteps and CloudRises return true. Conditions: as each lemma states. -/
namespace Go.Proofs.YtjigflnjgmgmnaaDoor
open Go Go.Gh Go.Proofs
theorem ent_zero {c : Int × List Sp × Unit} (h : someB c = true) {d : Nat} (hd : d < c.2.1.length) : ent c d 0 = (some (c, 0, ()), 0, ()) := by
 obtain ⟨h1, h2, h3⟩ := some_ok h
 unfold ent
 rw [if_neg (by simpa using h1), if_neg (by omega), if_neg (by omega), if_pos h3]
theorem num_some {c : Int × List Sp × Unit} (h : someB c = true) {d : Nat} (hd : d < c.2.1.length) : numP c d = ((spn (c, 0, ()) nob).getD d z0, 0, ()) := by
 unfold numP
 rw [ent_zero h hd, if_neg (fun h => h rfl), Int.toNat_natCast]
end Go.Proofs.YtjigflnjgmgmnaaDoor
/- CloudBack returns true. Conditions: as each lemma states. -/
namespace Go.Proofs.YtjigflnjgmgmnaaDoor
open Go Go.Gh Go.Proofs
end Go.Proofs.YtjigflnjgmgmnaaDoor
/- CloudAsked returns true. Conditions: as each lemma states. -/
namespace Go.Proofs.YtjigflnjgmgmnaaDoor
open Go Go.Gh Go.Proofs
structure AskOK (f : Nat → Int) (d n : Nat) (day left : Int) (r : Int × Int) : Prop where
 all : ∀ k, d ≤ k → k < n → r.2 ≤ f k
 is : r = (day, left) ∨ ∃ k : Nat, d ≤ k ∧ k < n ∧ r = ((k : Int), f k) ∧ f k < left ∧ ∀ j, d ≤ j → j < k → f k < f j
end Go.Proofs.YtjigflnjgmgmnaaDoor
/- CloudMore returns true. Conditions: as each lemma states. -/
namespace Go.Proofs.YtjigflnjgmgmnaaDoor
open Go Go.Gh Go.Proofs
theorem sumX_cap {x : Nat → Int} : ∀ {i : Nat}, (∀ j, j ≤ i → 0 ≤ x j ∧ x j ≤ 100) → 0 ≤ sumX x i ∧ sumX x i ≤ 100 * ((i : Int) + 1)
 | 0, h => by have := h 0 (Nat.le_refl _); simp only [sumX]; omega
 | i + 1, h => by
  have h1 := sumX_cap (i := i) fun j hj => h j (by omega)
  have h2 := h (i + 1) (Nat.le_refl _)
  simp only [sumX]
  omega
theorem sums_cap {c : Int × List Sp × Unit} (hv : Valid c) (ha : alive (spn (c, 0, ()) nob) = true) : 0 ≤ (sums (c, 0, ()) nob).1 ∧ (sums (c, 0, ()) nob).1 ≤ 100 * (c.2.1.length : Int) ∧ 0 ≤ (sums (c, 0, ()) nob).2.1 ∧ (sums (c, 0, ()) nob).2.1 ≤ 100 * (c.2.1.length : Int) := by
 have hl := hv.l1
 obtain ⟨t1, t2⟩ := (spn_char (c, 0, ()) nob hv bd_nob).1 ha
 have q1 := sumX_cap (x := lows (spn (c, 0, ()) nob)) (i := c.2.1.length - 1) fun j hj => truth_range hv t1 (by omega)
 have q2 := sumX_cap (x := highs (spn (c, 0, ()) nob)) (i := c.2.1.length - 1) fun j hj => truth_range hv t2 (by omega)
 rw [sums_X (c, 0, ()) nob hv bd_nob]
 simp only
 omega
theorem month_some {c : Int × List Sp × Unit} (h : someB c = true) : monthP c = (lowP (sums (c, 0, ()) nob).1 c.2.1.length, lowP (sums (c, 0, ()) nob).2.1 c.2.1.length, 0, ()) := by
 unfold monthP
 rw [if_neg (by simpa using some_ent h)]
 rfl
end Go.Proofs.YtjigflnjgmgmnaaDoor
