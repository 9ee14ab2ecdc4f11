/- A month whose days tell what is so of numbers. Conditions: as each lemma states. -/
import Derived.Test.YtjigflnjgmgmnaaDoorClHc
namespace Go.Proofs.YtjigflnjgmgmnaaDoor
open Go Go.Gh Go.Proofs Go.Few
abbrev Mn := Int × List Sp × Unit
end Go.Proofs.YtjigflnjgmgmnaaDoor
/- 'Truly' and 'Told' of the statements: what they come to. Conditions: as each lemma states. -/
namespace Go.Proofs.YtjigflnjgmgmnaaDoor
open Go Go.Gh Go.Proofs Go.Few
end Go.Proofs.YtjigflnjgmgmnaaDoor
/- CloudTrue: days that tell what is so of numbers are not denied. Conditions: as each lemma states. -/
namespace Go.Proofs.YtjigflnjgmgmnaaDoor
open Go Go.Gh Go.Proofs Go.Few
def sumU (x : Nat → Int) : Nat → Int
 | 0 => 0
 | n + 1 => sumU x n + x n
theorem sumU_X (x : Nat → Int) : ∀ n, sumU x (n + 1) = sumX x n
 | 0 => by simp only [sumU, sumX]; omega
 | n + 1 => by
  have h := sumU_X x n
  have e : sumU x (n + 1 + 1) = sumU x (n + 1) + x (n + 1) := rfl
  rw [e, h]; rfl
theorem sumU_cap {x : Nat → Int} {m : Nat} (h : ∀ j, j < m → 0 ≤ x j ∧ x j ≤ 100) : ∀ n, n ≤ m → 0 ≤ sumU x n ∧ sumU x n ≤ 100 * (n : Int)
 | 0, _ => by simp only [sumU]; omega
 | n + 1, hn => by
  have h1 := sumU_cap h n (by omega)
  have h2 := h n (by omega)
  simp only [sumU]
  omega
end Go.Proofs.YtjigflnjgmgmnaaDoor
