/- Helpers of the outright statements. Conditions: as each lemma states. (Some texts of another chapter, turned to this one.) -/
import Derived.Test.YtallblpnlefpeaaRoDa
import Derived.Test.YtallblpnlefpeaaRoF
namespace Go.Proofs.Ytallblpnlefpeaa
open Go Go.Gh Go.Proofs Go.Few
theorem L39 (b : Bk) : F39 ((b, ()) : Bk × Unit) = some ((chkP b).2.2.1 == 0, ()) := by
 refine ghost_eq (Ev.eq (fun _ => E39 _ _) ?_)
 rw [L19]
 exact Ev.all fun _ => by first | rfl | trivial
end Go.Proofs.Ytallblpnlefpeaa
/- Values of a book without some rows, and numbers that have nothing to do with a row. Conditions: as each lemma states. -/
namespace Go.Proofs.Ytallblpnlefpeaa
open Go Go.Gh Go.Proofs Go.Few
def valA (A : List Fd) (n : Nat) : Int × Int × Unit := (if (A.getD n fd0).1 = true then (A.getD n fd0).2.1 else 0, if (A.getD n fd0).1 = true then 0 else 8, ())
theorem enterE_in {b : Bk} (h : (chkP b).2.2.1 = 0) {n below : Int} (h0 : 0 ≤ n) (h1 : n < below) : enterE b n below = 0 := by
 unfold enterE
 rw [if_neg (fun hn => hn h), if_neg (by omega)]
theorem value_b {b : Bk} (h : (chkP b).2.2.1 = 0) {n : Nat} (hn : n < b.2.1.length) : valueP b n = valA (allP b (rowsN b)) n := by
 unfold valueP standE valA
 rw [enterE_in h (by omega) (by omega), Int.toNat_natCast]
 simp only [ne_eq, not_true_eq_false, if_false]
 cases ((allP b (rowsN b)).getD n fd0).1 <;> rfl
end Go.Proofs.Ytallblpnlefpeaa
