/- What the first functions of the reference come to. Conditions: as each lemma states. -/
import Derived.Test.YtjigflnjgmgmnaaDoorClL
import Derived.Test.YtjigflnjgmgmnaaDoorClC
namespace Go.Proofs.YtjigflnjgmgmnaaDoor
open Go Go.Gh Go.Proofs
def canB (d : Sp) (n : Int) : Bool := if d.1 = 0 then true else if d.1 = 1 then decide (n ≥ d.2.1) else n == d.2.1
abbrev Su := List Bool × List Sp × Unit
def su0 : Su := (List.replicate 101 false, List.replicate 101 (0, 0, ()), ())
def Pre (c : Int × List Sp × Unit) : Nat → Int → Int → Prop
 | 0, v, s => canB (c.2.1.getD 0 z0) v = true ∧ 0 ≤ v ∧ v ≤ 100 ∧ s = v
 | i + 1, v, s => canB (c.2.1.getD (i + 1) z0) v = true ∧ 0 ≤ v ∧ v ≤ 100 ∧ ∃ k s', Pre c i k s' ∧ v - k ≤ c.1 ∧ k - v ≤ c.1 ∧ s = s' + v
structure Part (Q : Int → Prop) (b : Bool) (w : Sp) : Prop where
 ex : b = true ↔ ∃ s, Q s
 lo : b = true → Q w.1
 hi : b = true → Q w.2.1
 all : ∀ s, Q s → w.1 ≤ s ∧ s ≤ w.2.1
theorem Part.none {Q : Int → Prop} {w : Sp} (h : ∀ s, ¬ Q s) : Part Q false w :=
 ⟨⟨fun h => (by cases h), fun ⟨s, q⟩ => absurd q (h s)⟩, fun h => (by cases h), fun h => (by cases h), fun s q => absurd q (h s)⟩
structure SuOK (c : Int × List Sp × Unit) (i : Nat) (S : Su) : Prop where
 l1 : S.1.length = 101
 l2 : S.2.1.length = 101
 day : ∀ v : Nat, v ≤ 100 → Part (Pre c i v) (S.1.getD v false) (S.2.1.getD v z0)
abbrev R116 : List Ty := [(.slice (.struct [(.arr 101 .bool), (.arr 101 (.struct [(.int .i64), (.int .i64)]))]))]
def FrontOK (c : Int × List Sp × Unit) (Y : List Su) : Prop := Y.length = c.2.1.length ∧ ∀ i, i < c.2.1.length → SuOK c i (Y.getD i su0)
def Gets (c : Int × List Sp × Unit) (g : Nat → Option (denL R116)) : Prop := ∃ Y : List Su, (Ev fun f => g f = some (Y, ())) ∧ FrontOK c Y
theorem Gets.eq {c : Int × List Sp × Unit} {g g' : Nat → Option (denL R116)} (h : ∀ f, g f = g' f) (e : Gets c g') : Gets c g := let ⟨Y, q, r⟩ := e; ⟨Y, Ev.eq h q, r⟩
noncomputable abbrev i0 (c : Int × List Sp × Unit) (i : Nat) (l : List Su) (f : Nat) : Option (denL R116) := iter cx19 S116 R116 6000 f 0 K116_0 ((((), ((), ((i : Int), ()))), ()), (c, (l, ())))
noncomputable abbrev i2 (c : Int × List Sp × Unit) (i n k : Nat) (S : Su) (l : List Su) (f : Nat) : Option (denL R116) := iter cx19 S116 R116 6000 f 2 K116_2 ((((), ((), ((i : Int), ((), ((n : Int), ((k : Int), ())))))), ()), (c, (S, (l, ()))))
end Go.Proofs.YtjigflnjgmgmnaaDoor
/- What Front, Total, Numbers of the reference come to. Conditions: as each lemma states. -/
namespace Go.Proofs.YtjigflnjgmgmnaaDoor
open Go Go.Gh Go.Proofs
end Go.Proofs.YtjigflnjgmgmnaaDoor
/- Sums of the reference, and truths. Conditions: as each lemma states. -/
namespace Go.Proofs.YtjigflnjgmgmnaaDoor
open Go Go.Gh Go.Proofs
structure PT (c : Int × List Sp × Unit) (i : Nat) (x : Nat → Int) : Prop where
 can : ∀ j, j ≤ i → canB (c.2.1.getD j z0) (x j) = true ∧ 0 ≤ x j ∧ x j ≤ 100
 up : ∀ j, j < i → x j - x (j + 1) ≤ c.1 ∧ x (j + 1) - x j ≤ c.1
end Go.Proofs.YtjigflnjgmgmnaaDoor
/- What Number of the reference comes to. Conditions: as each lemma states. -/
namespace Go.Proofs.YtjigflnjgmgmnaaDoor
open Go Go.Gh Go.Proofs
theorem one_set {α : Type} (a b : α) : List.set (List.replicate 1 a) 0 b = [b] := rfl
end Go.Proofs.YtjigflnjgmgmnaaDoor
/- What Number of the reference comes to: that of the program. Conditions: as each lemma states. -/
namespace Go.Proofs.YtjigflnjgmgmnaaDoor
open Go Go.Gh Go.Proofs
def numsL (p : Nat → Bool) (k : Nat) : List Int := ((List.range k).filter p).map fun v : Nat => (v : Int)
theorem numsL_succ (p : Nat → Bool) (k : Nat) : numsL p (k + 1) = if p k = true then numsL p k ++ [(k : Int)] else numsL p k := by
 unfold numsL
 rw [List.range_succ, List.filter_append, List.map_append]
 cases h : p k <;> simp [h]
theorem numsL_len (p : Nat → Bool) (k : Nat) : (numsL p k).length ≤ k := by
 unfold numsL
 rw [List.length_map]
 have := List.length_filter_le p (List.range k)
 simpa using this
theorem numsL_mem {p : Nat → Bool} {k : Nat} {v : Int} : v ∈ numsL p k ↔ ∃ n : Nat, n < k ∧ p n = true ∧ (n : Int) = v := by
 unfold numsL
 simp only [List.mem_map, List.mem_filter, List.mem_range]
 constructor
 ·rintro ⟨n, ⟨a, b⟩, e⟩; exact ⟨n, a, b, e⟩
 ·rintro ⟨n, a, b, e⟩; exact ⟨n, ⟨a, b⟩, e⟩
theorem own_range (m : Mo) (t : Sp) (hv : Valid m.1) {i : Nat} {x : Int} (h1 : (own m t i).1 ≤ x) (h2 : x ≤ (own m t i).2.1) : 0 ≤ x ∧ x ≤ 100 := by
 have hd : 0 ≤ (dayAt m i).2.1 ∧ (dayAt m i).2.1 ≤ 100 := by
  unfold dayAt
  split
  ·decide
  ·have := hv.at i; omega
 have hc : 0 ≤ (canD (dayAt m i)).1 ∧ (canD (dayAt m i)).2.1 ≤ 100 := by
  unfold canD
  split
  ·decide
  ·split <;> (simp only [sp]; omega)
 unfold own at h1 h2
 split at h1
 ·rename_i e
  rw [if_pos e] at h2
  simp only [both] at h1 h2
  omega
 ·rename_i e
  rw [if_neg e] at h2
  omega
end Go.Proofs.YtjigflnjgmgmnaaDoor
