/- What the ghost comes to: law 13. Conditions: none (equations, each by computation). -/
import Derived.Test.YtkhhbpocmmmnmaaTuH
import Derived.Test.YtkhhbpocmmmnmaaTuV
namespace Go.Proofs.Ytkhhbpocmmmnmaa
open Go Go.Gh Go.Proofs
end Go.Proofs.Ytkhhbpocmmmnmaa
/- Law 13: faster by the middle. Conditions: as each lemma states. -/
namespace Go.Proofs.Ytkhhbpocmmmnmaa
open Go Go.Gh Go.Proofs
theorem awake_end {y : denL [.bool]} (h : ((true, ()) : Bool × Unit) = y) : Ev fun _ : Nat => (Option.bind (F25 ()) fun (y : Bool × Unit) => some (y.1, ()) : Option (denL [.bool])) = some y := by
 rw [L25, ← h]
 exact Ev.all fun _ => rfl
end Go.Proofs.Ytkhhbpocmmmnmaa
