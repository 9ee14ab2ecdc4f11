/- The states at the cuts of the reference (c). Conditions: none (abbreviations). -/
import Derived.Test.YtkbephbhajplhaaDoorCyR
import Derived.Test.YtkbephbhajplhaaDoorGhI
import Derived.Test.YtkbephbhajplhaaDoorCyY
namespace Go.Proofs.YtkbephbhajplhaaDoor
open Go Go.Gh Go.Proofs
end Go.Proofs.YtkbephbhajplhaaDoor
/- The equations at the cuts of the reference, with the states' names (c). Conditions: none. (Printed by rest.py.) -/
namespace Go.Proofs.YtkbephbhajplhaaDoor
open Go Go.Gh Go.Proofs
end Go.Proofs.YtkbephbhajplhaaDoor
/- The reference's 'Wrong' is the program's. Conditions: as each lemma states. -/
namespace Go.Proofs.YtkbephbhajplhaaDoor
open Go Go.Gh Go.Proofs
open Go.Few
def idxL (s : Se) : List Int := upto 0 (s.2.1.length : Nat)
theorem idx_len (s : Se) : (idxL s).length = s.2.1.length := by
 unfold idxL
 rw [Few.upto_len]; omega
theorem idx_get (s : Se) {i : Nat} (h : i < s.2.1.length) : (idxL s).getD i 0 = (i : Int) := by
 rw [getD_lt (by rw [idx_len]; exact h)]
 unfold idxL upto
 simp
theorem sel_nums (s : Se) (set : Nat) : ∀ j, j ≤ s.2.1.length → Few.selB (idxL s) set j = numsL (set.testBit ·) j
 | 0, _ => rfl
 | j + 1, h => by
  rw [numsL_succ, ← sel_nums s set j (by omega)]
  simp only [Few.selB, idx_get s (show j < s.2.1.length by omega)]
theorem bits_sets (s : Se) : Few.byBits (idxL s) = setsL s.2.1.length 0 (2 ^ s.2.1.length) := by
 unfold Few.byBits setsL
 rw [idx_len, ← List.range_eq_range']
 exact List.map_congr_left fun set _ => sel_nums s set _ (Nat.le_refl _)
theorem wrong_find {s : Se} (h0 : (chkP s).2.2.1 = 0) : wrongP s = match (Few.subsTo (idxL s) (s.2.1.length + 1)).find? (okW s) with
  | some r => (r, 0, ())
  | none => ([], 9, ()) := by
 have hsf := Few.scan_find (ok := okW s) (ok' := okW s) (hs := idxL s) (show (idxL s).Pairwise (· < ·) from Few.upto_pair _ _) fun _ _ => rfl
 rw [bits_sets, idx_len] at hsf
 unfold wrongP
 rw [if_pos h0]
 cases hf : (Few.subsTo (idxL s) (s.2.1.length + 1)).find? (okW s) with
 | some r => rw [hsf.1 r hf]; rfl
 | none => rw [hsf.2 hf]; rfl
end Go.Proofs.YtkbephbhajplhaaDoor
