/- What the ghost comes to: TuEq16. Conditions: none (equations, each by computation). -/
import Derived.Test.YtkhhbpocmmmnmaaTuKm
import Derived.Test.YtkhhbpocmmmnmaaTuL15
namespace Go.Proofs.Ytkhhbpocmmmnmaa
open Go Go.Gh Go.Proofs
def S16 : List Gh.Spec := []
noncomputable def F16 : denL [tSu, tSn] → Option (denL [.bool]) := ghost cxM S16 6000 16 [tSu, tSn] [.bool]
theorem N16 (t0 : Su) (t1 : Sn) {y : denL [.bool]} (h : Ev fun _ =>
 (bif decide (List.length t0.2.2.1 ≤ 5864062014805) then bif decide (List.length t0.2.2.1 + List.length (List.set (List.replicate 1 (0, 0, 0, ())) 0 t1) ≤ 5864062014805) then Option.bind (F40 ((t0.1, t0.2.1, t0.2.2.1, [], ()), ())) fun (y : Bool × Unit) => bif !y.1 then Option.bind (F25 ()) fun (y : Bool × Unit) => some (y.1, ()) else Option.bind (F40 ((t0.1, t0.2.1, t0.2.2.1 ++ List.set (List.replicate 1 (0, 0, 0, ())) 0 t1, [], ()), ())) fun (y : Bool × Unit) => bif !y.1 then Option.bind (F25 ()) fun (y : Bool × Unit) => some (y.1, ()) else Option.bind (F26 ((t0.1, t0.2.1, t0.2.2.1, [], ()), ())) fun (y : Sp × Int × Unit) => Option.bind (F26 ((t0.1, t0.2.1, t0.2.2.1 ++ List.set (List.replicate 1 (0, 0, 0, ())) 0 t1, [], ()), ())) fun (y_1 : Sp × Int × Unit) => bif y.2.1 != y_1.2.1 then some (false, ()) else bif y.2.1 != 0 then bif y.2.1 != 8 then some (false, ()) else bif y.2.1 != 0 then Option.bind (F25 ()) fun (y : Bool × Unit) => some (y.1, ()) else Option.bind (F55 (y_1.1.1, y.1.1, IntKind.wrap IntKind.i64 (y.1.1 + 1), ())) fun (y_2 : Bool × Unit) => bif y_2.1 then bif y_1.1.2.1 == IntKind.wrap IntKind.i64 (y.1.2.1 + 1) then Option.bind (F25 ()) fun (y : Bool × Unit) => some (y.1, ()) else some (false, ()) else some (false, ()) else bif y.2.1 != 0 then Option.bind (F25 ()) fun (y : Bool × Unit) => some (y.1, ()) else Option.bind (F55 (y_1.1.1, y.1.1, IntKind.wrap IntKind.i64 (y.1.1 + 1), ())) fun (y_2 : Bool × Unit) => bif y_2.1 then bif y_1.1.2.1 == IntKind.wrap IntKind.i64 (y.1.2.1 + 1) then Option.bind (F25 ()) fun (y : Bool × Unit) => some (y.1, ()) else some (false, ()) else some (false, ()) else none else none : Option (denL [.bool])) = some y) : F16 (t0, (t1, ())) = some y := ghost_eq (Ev.eq (fun _ => by kernel_rfl) h)
end Go.Proofs.Ytkhhbpocmmmnmaa
/- TurningAnother: with one more thing seen the groups are as many or one more. Conditions: what was seen takes no more than memory bears. -/
namespace Go.Proofs.Ytkhhbpocmmmnmaa
open Go Go.Gh Go.Proofs
def anotherP (s : Su) (x : Sn) : Su := (s.1, s.2.1, s.2.2.1 ++ [x], [], ())
theorem many_congr {n : Nat} {g g' : List Int} (h : ∀ j, j < n → g.getD j 0 = g'.getD j 0) : manyP n g = manyP n g' := by
 unfold manyP
 congr 1
 refine List.filter_congr fun i hi => ?_
 rw [h i (List.mem_range.1 hi)]
theorem take_at {g : List Int} {n j : Nat} (hg : g.length = n + 1) (hj : j < n) : (g.take n).getD j 0 = g.getD j 0 := by
 rw [getD_lt (by rw [List.length_take]; omega), getD_lt (by omega), List.getElem_take]
theorem snoc_at {g : List Int} {n j : Nat} (hg : g.length = n) (v : Int) (hj : j < n) : (g ++ [v]).getD j 0 = g.getD j 0 := by
 rw [getD_snoc, if_pos (by omega)]
theorem another_can (s : Su) (x : Sn) (r : List Int) {a b : Nat} (ha : a < s.2.2.1.length) (hb : b < s.2.2.1.length) : canP (anotherP s x) r a b = canP (plainP s) r a b := by
 have e : ∀ i, i < s.2.2.1.length → (anotherP s x).2.2.1.getD i sn0 = (plainP s).2.2.1.getD i sn0 := fun i hi => by
  show (s.2.2.1 ++ [x]).getD i sn0 = s.2.2.1.getD i sn0
  rw [getD_lt (by rw [List.length_append]; omega), getD_lt hi, List.getElem_append_left hi]
 rw [canP_eq, canP_eq, e a ha, e b hb]
 rfl
theorem another_len (s : Su) (x : Sn) : (anotherP s x).2.2.1.length = s.2.2.1.length + 1 := by
 show (s.2.2.1 ++ [x]).length = _
 rw [List.length_append, List.length_singleton]
theorem less_truth {s : Su} {x : Sn} {r g : List Int} (h : Truth (anotherP s x) none' r g) : Truth (plainP s) none' r (g.take s.2.2.1.length) := by
 have hl : g.length = s.2.2.1.length + 1 := by rw [h.gt.len, another_len]
 refine ⟨⟨h.rt.len, h.rt.bd, h.rt.fall⟩, ⟨by show (g.take s.2.2.1.length).length = s.2.2.1.length; rw [List.length_take]; omega, fun j hj => ?_⟩, soP_iff.2 fun i hi => absurd hi (by simp [plainP]), fun a b ha hb hab he => ?_⟩
 ·have hj : j < s.2.2.1.length := hj
  obtain ⟨k, h1, h2, h3⟩ := h.gt.low j (by rw [another_len]; omega)
  exact ⟨k, h1, by rw [take_at hl hj]; exact h2, by rw [take_at hl (by omega)]; exact h3⟩
 ·have ha : a < s.2.2.1.length := ha
  have hb : b < s.2.2.1.length := hb
  rw [take_at hl ha, take_at hl hb] at he
  rw [← another_can s x r ha hb]
  exact h.fits a b (by rw [another_len]; omega) (by rw [another_len]; omega) hab he
theorem more_own {s : Su} (x : Sn) {r g : List Int} (h : Truth (plainP s) none' r g) : Truth (anotherP s x) none' r (g ++ [(s.2.2.1.length : Int)]) := by
 have hl : g.length = s.2.2.1.length := h.gt.len
 have hn : (g ++ [(s.2.2.1.length : Int)]).getD s.2.2.1.length 0 = (s.2.2.1.length : Int) := by
  rw [getD_snoc, if_neg (by omega), if_pos hl.symm]
 refine ⟨⟨h.rt.len, h.rt.bd, h.rt.fall⟩, ⟨by rw [another_len, List.length_append, hl]; rfl, fun j hj => ?_⟩, soP_iff.2 fun i hi => absurd hi (by simp [anotherP]), fun a b ha hb hab he => ?_⟩
 ·rw [another_len] at hj
  by_cases h0 : j = s.2.2.1.length
  ·subst h0
   exact ⟨_, Nat.le_refl _, hn, hn⟩
  ·obtain ⟨k, h1, h2, h3⟩ := h.gt.low j (by show j < s.2.2.1.length; omega)
   exact ⟨k, h1, by rw [snoc_at hl _ (by omega)]; exact h2, by rw [snoc_at hl _ (by omega)]; exact h3⟩
 ·rw [another_len] at ha hb
  have low : ∀ j, j < s.2.2.1.length → g.getD j 0 ≠ (s.2.2.1.length : Int) := fun j hj => by
   obtain ⟨k, h1, h2, h3⟩ := h.gt.low j hj
   omega
  by_cases h1 : a = s.2.2.1.length
  ·by_cases h2 : b = s.2.2.1.length
   ·exact absurd (h1.trans h2.symm) hab
   ·rw [h1, hn, snoc_at hl _ (by omega)] at he
    exact absurd he.symm (low b (by omega))
  ·by_cases h2 : b = s.2.2.1.length
   ·rw [h2, hn, snoc_at hl _ (by omega)] at he
    exact absurd he (low a (by omega))
   ·rw [snoc_at hl _ (by omega), snoc_at hl _ (by omega)] at he
    rw [another_can s x r (by omega) (by omega)]
    exact h.fits a b (by show a < s.2.2.1.length; omega) (by show b < s.2.2.1.length; omega) hab he
theorem groups_none {s : Su} (hs : VS s) (h : trP s = []) : groupsP s = ((0, 0, ()), 8, ()) := by
 have : errP s [] = 8 := by
  unfold errP
  rw [(chkP_ok s).2 hs, if_pos rfl, h]
  rfl
 unfold groupsP
 rw [this]
 rfl
theorem L16 (s : Su) (x : Sn) (hlen : s.2.2.1.length * 24 ≤ 140737488351232) : F16 ((s, x, ()) : Su × Sn × Unit) = some (true, ()) := by
 refine N16 _ _ ?_
 rw [show List.set (List.replicate 1 ((0, 0, 0, ()) : Sn)) 0 x = [x] from rfl, dec_t (show s.2.2.1.length ≤ 5864062014805 by omega), dec_t (show s.2.2.1.length + [x].length ≤ 5864062014805 by simp only [List.length_cons, List.length_nil]; omega), show ((s.1, s.2.1, s.2.2.1 ++ [x], [], ()) : Su) = anotherP s x from rfl, show ((s.1, s.2.1, s.2.2.1, [], ()) : Su) = plainP s from rfl, L40, L40]
 simp only [cond_true, Option.bind_some]
 cases hv : validP (plainP s) with
 | false =>
  simp only [Bool.not_false, cond_true]
  exact awake_end rfl
 | true =>
  simp only [Bool.not_true, cond_false]
  cases hw : validP (anotherP s x) with
  | false =>
   simp only [Bool.not_false, cond_true]
   exact awake_end rfl
  | true =>
   have hs := validP_t.1 hv
   have hq := validP_t.1 hw
   have h5 : s.2.2.1.length ≤ 5 := hs.n5
   simp only [Bool.not_true, cond_false]
   rw [L26, L26]
   by_cases ht : trP (plainP s) = []
   ·have hqt : trP (anotherP s x) = [] := by
     have e := (refL_nil hs).2 ht
     refine (refL_nil hq).1 ?_
     cases hL : refL (anotherP s x) with
     | nil => rfl
     | cons t L =>
      have := (mem_refL (t := (t.1, t.2.1.take s.2.2.1.length, ()))).2 (less_truth (mem_refL.1 (show t ∈ refL (anotherP s x) by rw [hL]; simp)))
      rw [e] at this
      cases this
    rw [groups_none hs ht, groups_none hq hqt]
    exact awake_end rfl
   ·have hne := refL_ne hs ht
    obtain ⟨⟨t1, m1, e1⟩, _⟩ := hull_map_at (f := fun t : Tr => (manyP s.2.2.1.length t.2.1 : Int)) hne
    have o1 := more_own x (mem_refL.1 m1)
    have m1' := (mem_refL (t := (t1.1, t1.2.1 ++ [(s.2.2.1.length : Int)], ()))).2 o1
    have hqne : refL (anotherP s x) ≠ [] := fun h => by
     rw [h] at m1'
     cases m1'
    have hqt : trP (anotherP s x) ≠ [] := fun h => hqne ((refL_nil hq).2 h)
    have hi := hi_all hs ht rfl
    have hi' := hi_all hq hqt rfl
    rw [groups_ok hs ht, groups_ok hq hqt]
    rw [another_len] at hi' ⊢
    have hi : (hullL ((refL (plainP s)).map fun t => (manyP s.2.2.1.length t.2.1 : Int))).2.1 = (s.2.2.1.length : Int) := hi
    have up := (hull_map_le (f := fun t : Tr => (manyP (s.2.2.1.length + 1) t.2.1 : Int)) m1').1
    obtain ⟨⟨t2, m2, e2⟩, _⟩ := hull_map_at (f := fun t : Tr => (manyP (s.2.2.1.length + 1) t.2.1 : Int)) hqne
    have o2 := less_truth (mem_refL.1 m2)
    have dn := (hull_map_le (f := fun t : Tr => (manyP s.2.2.1.length t.2.1 : Int)) ((mem_refL (t := (t2.1, t2.2.1.take s.2.2.1.length, ()))).2 o2)).1
    have l1 : t1.2.1.length = s.2.2.1.length := (mem_refL.1 m1).gt.len
    have l2 : t2.2.1.length = s.2.2.1.length + 1 := by rw [(mem_refL.1 m2).gt.len, another_len]
    have c1 : manyP (s.2.2.1.length + 1) (t1.2.1 ++ [(s.2.2.1.length : Int)]) = manyP s.2.2.1.length t1.2.1 + 1 := by
     rw [manyP_succ, if_pos (by rw [getD_snoc, if_neg (by omega), if_pos l1.symm]), many_congr fun j hj => snoc_at l1 _ hj]
    have c2 : manyP s.2.2.1.length (t2.2.1.take s.2.2.1.length) = manyP s.2.2.1.length t2.2.1 := many_congr fun j hj => take_at l2 hj
    have c3 := manyP_succ s.2.2.1.length t2.2.1
    have c4 := manyP_le s.2.2.1.length t1.2.1
    simp only at up dn e1 e2
    rw [c1] at up
    rw [c2] at dn
    simp only [Option.bind_some, bne_self_eq_false, cond_false]
    show Ev fun _ => (Option.bind (F55 ((hullL ((refL (anotherP s x)).map fun t => (manyP (s.2.2.1.length + 1) t.2.1 : Int))).1, (hullL ((refL (plainP s)).map fun t => (manyP s.2.2.1.length t.2.1 : Int))).1, IntKind.wrap IntKind.i64 ((hullL ((refL (plainP s)).map fun t => (manyP s.2.2.1.length t.2.1 : Int))).1 + 1), ())) fun (y_2 : Bool × Unit) => bif y_2.1 then bif (hullL ((refL (anotherP s x)).map fun t => (manyP (s.2.2.1.length + 1) t.2.1 : Int))).2.1 == IntKind.wrap IntKind.i64 ((hullL ((refL (plainP s)).map fun t => (manyP s.2.2.1.length t.2.1 : Int))).2.1 + 1) then Option.bind (F25 ()) fun (y : Bool × Unit) => some (y.1, ()) else some (false, ()) else some (false, ()) : Option (denL [.bool])) = some (true, ())
    rw [hi, hi', wrap_id (x := (s.2.2.1.length : Int) + 1) (by omega) (by omega), wrap_id (by omega) (by omega), L55, notIn_f.2 (by split at c3 <;> omega)]
    simp only [Option.bind_some, Bool.not_false, cond_true]
    rw [bq (by omega)]
    exact awake_end rfl
end Go.Proofs.Ytkhhbpocmmmnmaa
