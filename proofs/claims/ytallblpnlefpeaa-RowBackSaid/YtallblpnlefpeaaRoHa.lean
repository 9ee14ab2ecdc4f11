/- Ground, Needs and Cut of a valid book. Conditions: as each lemma states. -/
import Derived.Test.YtallblpnlefpeaaRoGa
namespace Go.Proofs.Ytallblpnlefpeaa
open Go Go.Gh Go.Proofs Go.Few

theorem standE_in {b : Bk} (h : (chkP b).2.2.1 = 0) {n : Nat} (hn : n < b.2.1.length) : standE b n = if ((allP b (rowsN b)).getD n fd0).1 = true then 0 else 8 := by
  unfold standE
  rw [enterE_in h (by omega) (by omega), Int.toNat_natCast]
  simp only [ne_eq, not_true_eq_false, if_false]
theorem okG_all (b : Bk) (n : Nat) : okG b n (standL b) = ((allP b (rowsN b)).getD n fd0).1 := rfl
theorem ground_in {b : Bk} (hv : VB b) (h : (chkP b).2.2.1 = 0) {n : Nat} (hn : n < b.2.1.length) (hs : ((allP b (rowsN b)).getD n fd0).1 = true) : groundP b n = (refFew (standL b) (okG b n), 0, ()) := by
  unfold groundP
  rw [standE_in h hn, if_pos hs, if_pos rfl, Int.toNat_natCast, few_same hv.r8 (by rw [okG_all]; exact hs)]
theorem ground_no {b : Bk} (h : (chkP b).2.2.1 = 0) {n : Nat} (hn : n < b.2.1.length) (hs : ((allP b (rowsN b)).getD n fd0).1 = false) : groundP b n = ([], 8, ()) ∧ needsP b n = ([], 8, ()) := by
  unfold groundP needsP
  rw [standE_in h hn, hs, if_neg (by decide), if_neg (by decide)]
  exact ⟨rfl, rfl⟩
theorem needs_in {b : Bk} (h : (chkP b).2.2.1 = 0) {n : Nat} (hn : n < b.2.1.length) (hs : ((allP b (rowsN b)).getD n fd0).1 = true) : needsP b n = (numsL (needsB b n) 8, 0, ()) := by
  unfold needsP
  rw [standE_in h hn, if_pos hs, if_pos rfl, Int.toNat_natCast]
theorem needs_mem {b : Bk} {n : Nat} {y : Int} (hy : y ∈ numsL (needsB b n) 8) : ∃ i : Nat, (i : Int) = y ∧ y ∈ standL b ∧ i < b.1.length ∧ ((allP b (offN b i)).getD n fd0).1 = false := by
  obtain ⟨i, _, h2, rfl⟩ := numsL_mem.1 hy
  unfold needsB at h2
  rw [Bool.and_eq_true, stand_bit, Bool.and_eq_true, decide_eq_true_eq] at h2
  exact ⟨i, rfl, stand_mem.2 ⟨i, h2.1.1, by simpa using h2.1.2, rfl⟩, h2.1.1, by simpa using h2.2⟩
theorem mem_needs {b : Bk} (h8 : b.1.length ≤ 8) {n i : Nat} (hi : (i : Int) ∈ standL b) (h : ((allP b (offN b i)).getD n fd0).1 = false) : (i : Int) ∈ numsL (needsB b n) 8 := by
  obtain ⟨j, h1, h2, h3⟩ := stand_mem.1 hi
  obtain rfl : j = i := by omega
  refine numsL_mem.2 ⟨j, by omega, ?_, rfl⟩
  unfold needsB
  rw [stand_bit, dec_t h1, h2, h]
  rfl
theorem cut_in {b : Bk} (hv : VB b) (h : (chkP b).2.2.1 = 0) {n : Nat} (hn : n < b.2.1.length) : cutP b n = (refFew (standL b) (okC b n), 0, ()) := by
  unfold cutP
  rw [enterE_in h (by omega) (by omega), if_pos rfl, Int.toNat_natCast, few_same hv.r8 (cut_all hv n)]
theorem okC_one {b : Bk} {n i : Nat} : okC b n [(i : Int)] = !((allP b (offN b i)).getD n fd0).1 := by
  unfold okC
  rw [bits_one]
  rfl
theorem okC_nil {b : Bk} {n : Nat} : okC b n [] = !((allP b (rowsN b)).getD n fd0).1 := by
  unfold okC
  have : butN (rowsN b) (Few.bitsL []) = rowsN b := by
    apply Nat.eq_of_testBit_eq
    intro i
    rw [butN_bit, show Few.bitsL [] = 0 from rfl, Nat.zero_testBit, Bool.not_false, Bool.and_true]
  rw [this]
theorem valA_err (A : List Fd) (n : Nat) : (valA A n).2.1 = if (A.getD n fd0).1 = true then 0 else 8 := rfl
end Go.Proofs.Ytallblpnlefpeaa
