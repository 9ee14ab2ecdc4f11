/- The reference: what has to do with a row, and rows that are struck out. Conditions: as each lemma states. -/
import Derived.Test.YtallblpnlefpeaaRoAa
namespace Go.Proofs.Ytallblpnlefpeaa
open Go Go.Gh Go.Proofs Go.Few
theorem numsL_congr {p q : Nat → Bool} : ∀ {k : Nat}, (∀ i, i < k → p i = q i) → numsL p k = numsL q k
 | 0, _ => rfl
 | k + 1, h => by rw [numsL_succ, numsL_succ, h k (by omega), numsL_congr fun i hi => h i (by omega)]
structure Same (b c : Bk) : Prop where
 nums : c.2.1 = b.2.1
 len : c.1.length = b.1.length
 val : ∀ i, (c.1.getD i rw0).1 = (b.1.getD i rw0).1
theorem Same.makes {b c : Bk} (h : Same b c) (w : Wy) (rows : Int) (l : List Fd) : makesP c w rows l = makesP b w rows l := by
 unfold makesP
 rw [show ((bitL w.2.1 8).map fun i => (c.1.getD i rw0).1) = (bitL w.2.1 8).map fun i => (b.1.getD i rw0).1 from List.map_congr_left fun i _ => h.val i]
theorem Same.allN {b c : Bk} (h : Same b c) (rows : Int) : ∀ n, Ytallblpnlefpeaa.allN c rows n = Ytallblpnlefpeaa.allN b rows n
 | 0 => rfl
 | n + 1 => by
  rw [Ytallblpnlefpeaa.allN, Ytallblpnlefpeaa.allN, h.allN rows n, h.nums]
  have : firstP c rows (Ytallblpnlefpeaa.allN b rows n) (b.2.1.getD n []) = firstP b rows (Ytallblpnlefpeaa.allN b rows n) (b.2.1.getD n []) := by
   unfold firstP
   rw [List.map_congr_left fun w _ => h.makes w rows _]
  rw [this]
theorem Same.all {b c : Bk} (h : Same b c) (rows : Int) : allP c rows = allP b rows := by
 unfold allP
 rw [h.allN, h.nums]
end Go.Proofs.Ytallblpnlefpeaa
