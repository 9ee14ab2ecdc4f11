/- What the ghost comes to: law 17. Conditions: none (equations, each by computation). -/
import Derived.Test.YtkhhbpocmmmnmaaTuH
import Derived.Test.YtkhhbpocmmmnmaaTuL13
namespace Go.Proofs.Ytkhhbpocmmmnmaa
open Go Go.Gh Go.Proofs
end Go.Proofs.Ytkhhbpocmmmnmaa
/- Law 17: on its own day. Conditions: as each lemma states. -/
namespace Go.Proofs.Ytkhhbpocmmmnmaa
open Go Go.Gh Go.Proofs
theorem u8_at {x : List Int} (h : ∀ v ∈ x, 0 ≤ v ∧ v ≤ 255) (i : Nat) : ∃ n : Nat, x.getD i 0 = (n : Int) ∧ n ≤ 255 := by
 have hb : 0 ≤ x.getD i 0 ∧ x.getD i 0 ≤ 255 := by
  rw [List.getD_eq_getElem?_getD]
  cases hq : x[i]? with
  | none => simp
  | some v => exact h v (List.mem_of_getElem? hq)
 exact ⟨(x.getD i 0).toNat, by omega, by omega⟩
end Go.Proofs.Ytkhhbpocmmmnmaa
