/- What the ghost comes to: law 15. Conditions: none (equations, each by computation). -/
import Derived.Test.YtkhhbpocmmmnmaaTuH
import Derived.Test.YtkhhbpocmmmnmaaTuL9
namespace Go.Proofs.Ytkhhbpocmmmnmaa
open Go Go.Gh Go.Proofs
end Go.Proofs.Ytkhhbpocmmmnmaa
/- What the ghost comes to: law 8. Conditions: none (equations, each by computation). -/
namespace Go.Proofs.Ytkhhbpocmmmnmaa
open Go Go.Gh Go.Proofs
end Go.Proofs.Ytkhhbpocmmmnmaa
/- Laws 15 and 8: less exact; told as a truth has it. Conditions: as each lemma states. -/
namespace Go.Proofs.Ytkhhbpocmmmnmaa
open Go Go.Gh Go.Proofs
def ownG (n : Nat) : List Int := (List.range n).map fun i : Nat => (i : Int)
theorem own_at {n i : Nat} (h : i < n) : (ownG n).getD i 0 = (i : Int) := by
 rw [getD_lt (by simp [ownG]; exact h)]
 simp [ownG]
theorem own_gt (n : Nat) : GT n (ownG n) := ⟨by simp [ownG], fun j hj => ⟨j, Nat.le_refl _, own_at hj, own_at hj⟩⟩
theorem own_many (n : Nat) : manyP n (ownG n) = n := by
 unfold manyP
 have : (List.range n).filter (fun i => (ownG n).getD i 0 == (i : Int)) = List.range n := by
  rw [List.filter_eq_self]
  intro i hi
  exact bq (own_at (List.mem_range.1 hi))
 rw [this, List.length_range]
theorem own_truth {s : Su} (h : s.2.2.2.1 = []) {r : List Int} (hr : RT s s.1.length r) : Truth s none' r (ownG s.2.2.1.length) :=
 ⟨hr, own_gt _, soP_iff.2 fun i hi => absurd hi (by rw [h]; simp), fun a b ha hb hab he => by
   rw [own_at ha, own_at hb] at he
   omega⟩
theorem hi_all {s : Su} (hs : VS s) (ht : trP s ≠ []) (h : s.2.2.2.1 = []) : (hullL ((refL s).map fun t => (manyP s.2.2.1.length t.2.1 : Int))).2.1 = (s.2.2.1.length : Int) := by
 have hne := refL_ne hs ht
 obtain ⟨_, t2, m2, e2⟩ := hull_map_at (f := fun t : Tr => (manyP s.2.2.1.length t.2.1 : Int)) hne
 have ho := own_truth h (mem_refL.1 m2).rt
 have := (hull_map_le (L := refL s) (f := fun t : Tr => (manyP s.2.2.1.length t.2.1 : Int)) ((mem_refL (t := (t2.1, ownG s.2.2.1.length, ()))).2 ho)).2
 have e : manyP s.2.2.1.length (ownG s.2.2.1.length) = s.2.2.1.length := own_many _
 rw [e] at this
 have h3 := manyP_le s.2.2.1.length t2.2.1
 omega
end Go.Proofs.Ytkhhbpocmmmnmaa
