/- What Month and Told of the reference come to. Conditions: as each lemma states. -/
import Derived.Test.YtjigflnjgmgmnaaDoorClT
import Derived.Test.YtjigflnjgmgmnaaDoorGhI
namespace Go.Proofs.YtjigflnjgmgmnaaDoor
open Go Go.Gh Go.Proofs
theorem L113 (a b : Nat) : F113 (((a : Int), (b : Int), ()) : Int × Int × Unit) = some (((Nat.gcd a b : Nat) : Int), ()) := by
 refine ghost_eq (Ev.eq (fun _ => E113 _ _ _) ?_)
 have key : ∀ (n x y : Nat), y ≤ n → Nat.gcd x y = Nat.gcd a b → Ev fun k => iter cx21 S113 [(.int .i64)] 6000 k 0 K113_0 ((((x : Int), ((y : Int), ())), ()), ()) = some (((Nat.gcd a b : Nat) : Int), ()) := by
  intro n
  induction n with
  | zero =>
   intro x y hy hg
   obtain rfl : y = 0 := by omega
   refine iter_ev (Ev.eq (fun _ => Q113_0 _ _ _) ?_)
   rw [← hg, Nat.gcd_zero_right]
   exact Ev.all fun _ => by first | rfl | trivial
  | succ n ih =>
   intro x y hy hg
   refine iter_ev (Ev.eq (fun _ => Q113_0 _ _ _) ?_)
   by_cases h0 : y = 0
   ·subst h0
    rw [← hg, Nat.gcd_zero_right]
    exact Ev.all fun _ => by first | rfl | trivial
   ·have e1 : (((y : Nat) : Int) != 0) = true := by simpa using h0
    rw [e1, dec_f (show ¬ ((y : Int) = 0) by omega)]
    simp only [cond_true, cond_false]
    have e2 : Int.tmod (x : Int) (y : Int) = ((x % y : Nat) : Int) := by
     rw [Int.tmod_eq_emod_of_nonneg (by omega)]; simp
    rw [e2]
    have hlt := Nat.mod_lt x (by omega : 0 < y)
    refine ih y (x % y) (by omega) ?_
    rw [← hg, Nat.gcd_comm x y, Nat.gcd_rec y x, Nat.gcd_comm]
 exact key b a b (Nat.le_refl _) rfl
theorem L43 (a b : Nat) (ha : a < 1000000000) (h1 : 0 < b) (hb : b < 1000000000) : F43 (((a : Int), (b : Int), ()) : Int × Int × Unit) = some (lowP a b, ()) := by
 refine ghost_eq (Ev.eq (fun _ => E43 _ _ _) ?_)
 have e0 : (if IntKind.wrap IntKind.i64 (0 - (a : Int)) > (a : Int) then IntKind.wrap IntKind.i64 (0 - (a : Int)) else (a : Int)) = a := by
  rw [wrap_id (by omega) (by omega)]
  split <;> omega
 rw [e0, L113]
 have hg : 0 < Nat.gcd a b := Nat.gcd_pos_of_pos_right _ h1
 have e3 : lowP a b = (((a / Nat.gcd a b : Nat) : Int), ((b / Nat.gcd a b : Nat) : Int), ()) := by simp [lowP]
 have l1 : a / Nat.gcd a b ≤ a := Nat.div_le_self _ _
 have l2 : b / Nat.gcd a b ≤ b := Nat.div_le_self _ _
 have q1 : Int.tdiv (a : Int) ((Nat.gcd a b : Nat) : Int) = ((a / Nat.gcd a b : Nat) : Int) := by simp
 have q2 : Int.tdiv (b : Int) ((Nat.gcd a b : Nat) : Int) = ((b / Nat.gcd a b : Nat) : Int) := by simp
 rw [e3]
 simp only [Option.bind_some]
 rw [dec_f (show ¬ (((Nat.gcd a b : Nat) : Int) = 0) by omega), q1, q2]
 generalize a / Nat.gcd a b = u at *
 generalize b / Nat.gcd a b = v at *
 rw [wrap_id (by omega) (by omega), wrap_id (by omega) (by omega)]
 exact Ev.all fun _ => by first | rfl | trivial
theorem sumS_X (l : List Sp) : ∀ (n i : Nat) (s : Sp), i + n + 1 ≤ l.length → (1 ≤ i → s = (sumX (lows l) (i - 1), sumX (highs l) (i - 1), ())) → (i = 0 → s = z0) → sumS ((l.drop i).take (n + 1)) s = (sumX (lows l) (i + n), sumX (highs l) (i + n), ())
 | n, i, s, h, h1, h0 => by
  have hi : i < l.length := by omega
  rw [List.drop_eq_getElem_cons hi, List.take_succ_cons, sumS]
  have hg : l[i] = l.getD i z0 := by simp [List.getD_eq_getElem?_getD, hi]
  have hs : (s.1 + (l[i]).1, s.2.1 + (l[i]).2.1, ()) = ((sumX (lows l) i, sumX (highs l) i, ()) : Sp) := by
   rw [hg]
   cases i with
   | zero => rw [h0 rfl]; simp [sumX, lows, highs, z0]
   | succ i => rw [h1 (by omega)]; rfl
  rw [hs]
  cases n with
  | zero => rfl
  | succ n =>
   have := sumS_X l n (i + 1) (sumX (lows l) i, sumX (highs l) i, ()) (by omega) (fun _ => rfl) (fun h => by omega)
   rw [this]
   simp [show i + 1 + n = i + (n + 1) by omega]
theorem sums_X (m : Mo) (t : Sp) (hv : Valid m.1) (ht : Bd1 (sp t.2.1 t.2.1)) : sums m t = (sumX (lows (spn m t)) (m.1.2.1.length - 1), sumX (highs (spn m t)) (m.1.2.1.length - 1), ()) := by
 have hl := hv.l12
 have hl' := hv.l1
 have hbd := spn_bd m t hv ht
 unfold sums
 have := sumS_X (spn m t) (m.1.2.1.length - 1) 0 z0 (by rw [hbd.1]; omega) (fun h => by omega) (fun _ => rfl)
 rw [List.drop_zero, show m.1.2.1.length - 1 + 1 = m.1.2.1.length by omega, Nat.zero_add] at this
 exact this
theorem ent_err (c : Int × List Sp × Unit) : (ent c 0 0).2.1 = (if (chk c).2.2.1 = 0 then (if alive (spn (c, 0, ()) nob) = true then 0 else 8) else (chk c).2.2.1) := by
 unfold ent
 by_cases h : (chk c).2.2.1 = 0
 ·obtain ⟨hv, _⟩ := chk_ok h
  have h1 := hv.l1
  rw [if_neg (by simpa using h), if_pos h, if_neg (by omega), if_neg (by omega)]
  split <;> rfl
 ·rw [if_pos h, if_neg h]
theorem dayAt_c (c : Int × List Sp × Unit) (i : Nat) : dayAt (c, 0, ()) i = c.2.1.getD i z0 := by
 unfold dayAt
 rw [show bitOf ((c, 0, ()) : Mo).2.1 i = false by simp [bitOf], if_neg (by decide)]
end Go.Proofs.YtjigflnjgmgmnaaDoor
/- What Tops, Rises and Ask of the reference come to. Conditions: as each lemma states. -/
namespace Go.Proofs.YtjigflnjgmgmnaaDoor
open Go Go.Gh Go.Proofs
theorem wrap_succ {n : Nat} (h : n < 1000000000000) : IntKind.wrap IntKind.i64 ((n : Int) + 1) = ((n + 1 : Nat) : Int) := by rw [wrap_id (by omega) (by omega)]; omega
end Go.Proofs.YtjigflnjgmgmnaaDoor
/- What Tops, Rises and Ask of the reference come to: those of the program. Conditions: as each lemma states. -/
namespace Go.Proofs.YtjigflnjgmgmnaaDoor
open Go Go.Gh Go.Proofs
end Go.Proofs.YtjigflnjgmgmnaaDoor
/- What Ask of the reference comes to: that of the program. Conditions: as each lemma states. -/
namespace Go.Proofs.YtjigflnjgmgmnaaDoor
open Go Go.Gh Go.Proofs
structure MostOf (P : Int → Prop) (ap : Int → Int) (a r : Int) : Prop where
 all : ∀ v, P v → ap v ≤ r
 ge : a ≤ r
 is : r = a ∨ ∃ v, P v ∧ ap v = r
theorem MostOf.one {P : Int → Prop} {ap : Int → Int} {a r q : Int} (h : MostOf P ap a r) (h' : MostOf P ap a q) : r = q := by
 have h1 := h.ge
 have h2 := h'.ge
 rcases h.is with e | ⟨v, hv, e⟩ <;> rcases h'.is with e' | ⟨w, hw, e'⟩
 ·omega
 ·have := h.all w hw; omega
 ·have := h'.all v hv; omega
 ·have := h.all w hw
  have := h'.all v hv
  omega
theorem MostOf.iff {P Q : Int → Prop} {ap : Int → Int} {a r : Int} (h : MostOf P ap a r) (e : ∀ v, P v ↔ Q v) : MostOf Q ap a r :=
 ⟨fun v hv => h.all v ((e v).2 hv), h.ge, h.is.imp id fun ⟨v, hv, e'⟩ => ⟨v, (e v).1 hv, e'⟩⟩
theorem MostOf.cons {P : Int → Prop} {ap : Int → Int} {a r b w : Int} (hb : b = if ap w > a then ap w else a) (h : MostOf P ap b r) : MostOf (fun v => v = w ∨ P v) ap a r := by
 have h1 := h.ge
 refine ⟨fun v hv => ?_, ?_, ?_⟩
 ·rcases hv with rfl | hv
  ·split at hb <;> omega
  ·exact h.all v hv
 ·split at hb <;> omega
 ·rcases h.is with e | ⟨v, hv, e⟩
  ·split at hb
   ·exact .inr ⟨w, .inl rfl, by omega⟩
   ·exact .inl (by omega)
  ·exact .inr ⟨v, .inr hv, e⟩
end Go.Proofs.YtjigflnjgmgmnaaDoor
/- What Wrong of the reference comes to: that of the program. Conditions: as each lemma states. -/
namespace Go.Proofs.YtjigflnjgmgmnaaDoor
open Go Go.Gh Go.Proofs Go.Few
end Go.Proofs.YtjigflnjgmgmnaaDoor
